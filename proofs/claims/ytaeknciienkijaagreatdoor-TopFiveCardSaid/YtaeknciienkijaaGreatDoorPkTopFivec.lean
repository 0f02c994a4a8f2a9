/- What the proof of a row of this seat leans on (part 3 of 6): a library of abstract values, walks of functions, and plain laws. -/
import Derived.Test.YtaeknciienkijaaGreatDoorPkTopFiveb
namespace Go.Ab
open Go Go.Mth
abbrev Iv (z : Int) : AV := .lit (.int .i64 z)
abbrev Sv (a : ByteArray) : AV := .lit (.string a)
abbrev Nv (n : Nat) : AV := nm .i64 n
abbrev Lv (l : List Int) : AV := .sl 1 (is .i64 l)
abbrev Tv : AV := .lit (.bool true)
abbrev Fv : AV := .lit (.bool false)
abbrev Zv : AV := .lit (.slice none 0 0)
theorem gn {ops : Array Oper} {s : List (Nat × AV)} : Gd ops s none := .none
abbrev Ev : ByteArray := { data := #[] }
abbrev Bv (z : Int) : AV := bp (z < 0)
abbrev Dv (z : Int) : AV := .sl 1 (ns .u32 (digs z.natAbs))
abbrev Rv (z : Int) : AV := .sl 1 (ns .i64 (digs z.natAbs))
end Go.Ab
set_option linter.unusedVariables false
set_option linter.unusedSimpArgs false
namespace Go.Proofs.YtaeknciienkijaaGreatDoor
open Go Go.Ab Go.Mth
theorem f0_ : tyField cx.P 37 1 = some (1, 26) := by kernel_rfl
theorem f1_ : tySc cx.P 26 = true := by kernel_rfl
theorem f2_ : cx.P.underlying 26 = some (.slice 3) := by kernel_rfl
theorem f3_ : tyField cx.P 37 0 = some (0, 4) := by kernel_rfl
theorem f4_ : tySc cx.P 4 = true := by kernel_rfl
theorem f5_ : tyField cx.P 51 1 = some (1, 49) := by kernel_rfl
theorem f6_ : tySc cx.P 49 = true := by kernel_rfl
theorem f7_ : cx.P.underlying 49 = some (.slice 93) := by kernel_rfl
theorem f8_ : tyField cx.P 51 0 = some (0, 4) := by kernel_rfl
theorem f9_ : tyZero cx.P 37 = some [Go.Value.bool false, Go.Value.slice none 0 0] := by kernel_rfl
theorem f10_ : tyElem cx.P 26 = some (3, 1, 8) := by kernel_rfl
theorem f11_ : tySc cx.P 3 = true := by kernel_rfl
theorem f12_ : tyPlaces cx.P 37 = some (fun i => (#[(0, 1), (1, 1)] : Array (Nat × Nat))[i]?) := by kernel_rfl
theorem f13_ : tySize cx.P 37 = some 2 := by kernel_rfl
theorem f14_ : tyAgg cx.P 37 = some 2 := by kernel_rfl
theorem f15_ : tyZero cx.P 51 = some [Go.Value.bool false, Go.Value.slice none 0 0] := by kernel_rfl
theorem f16_ : tyElem cx.P 49 = some (93, 1, 4) := by kernel_rfl
theorem f17_ : tySc cx.P 93 = true := by kernel_rfl
theorem f18_ : tyPlaces cx.P 51 = some (fun i => (#[(0, 1), (1, 1)] : Array (Nat × Nat))[i]?) := by kernel_rfl
theorem f19_ : tySize cx.P 51 = some 2 := by kernel_rfl
theorem f20_ : tyAgg cx.P 51 = some 2 := by kernel_rfl
theorem f21_ : callable cx.P 63 = true := by kernel_rfl
theorem f22_ : callable cx.P 64 = true := by kernel_rfl
theorem f23_ : callable cx.P 44 = true := by kernel_rfl
theorem f24_ : callable cx.P 45 = true := by kernel_rfl
theorem f25_ : callable cx.P 99 = true := by kernel_rfl
theorem f26_ : tyZero cx.P 3 = some [Go.Value.int IntKind.i64 0] := by kernel_rfl
theorem f27_ : tyZero cx.P 93 = some [Go.Value.int IntKind.u32 0] := by kernel_rfl
theorem f28_ : tyInt cx.P 93 = some .u32 := by kernel_rfl
theorem f29_ : tyInt cx.P 2 = some .i64 := by kernel_rfl
theorem f30_ : cx.P.underlying 4 = some .bool := by kernel_rfl
theorem f31_ : callable cx.P 97 = true := by kernel_rfl
theorem f32_ : callable cx.P 31 = true := by kernel_rfl
theorem f33_ : callable cx.P 98 = true := by kernel_rfl
theorem f34_ : callable cx.P 53 = true := by kernel_rfl
theorem f35_ : callable cx.P 52 = true := by kernel_rfl
theorem f36_ : callable cx.P 54 = true := by kernel_rfl
theorem f37_ : callable cx.P 70 = true := by kernel_rfl
theorem f38_ : callable cx.P 26 = true := by kernel_rfl
theorem c_rSign (z : Int) : ECalls cx 63 [intR z] (.lit (.int .i64 (sgn z))) := by
 refine ecalls_of_awp Tryz.func63 (c := _) rfl (Nat.le_of_ble_eq_true rfl) ?_
 show awp cx 11 _ (postF cx Tryz.f63 _) ⟨[(0, intR z)], []⟩
 refine awp_seq fun K0 hK0 => awp_region rfl ?_
 refine o_box 2 [bp (z < 0), .sl 1 (ns .i64 (digs z.natAbs))] gn rfl rfl ?_
 refine o_as (Nv 0) rfl (aops_end (hK0 _ (awp_seq fun K1 hK1 => ?_)))
 refine awp_block ?_
 refine awp_seq fun K2 hK2 => awp_region rfl ?_
 refine o_fieldRef 1 gn f0_ rfl rfl ?_
 refine o_loadS (.sl 1 (ns .i64 (digs z.natAbs))) gn f1_ rfl rfl rfl ?_
 refine n_len (digs z.natAbs) gn f2_ rfl ?_
 refine n_eql ((digs z.natAbs).length) 0 gn rfl rfl ?_
 refine o_as (bp (((digs z.natAbs).length) = 0)) rfl (aops_end (hK2 _ ?_))
 refine awp_condQ (q := ((digs z.natAbs).length) = 0) rfl (fun h1 => ?_) (fun h1 => ?_)
 ·refine awp_seq fun K3 hK3 => awp_region rfl (o_as (Nv 0) rfl (aops_end (hK3 _ ?_)))
  refine awp_ret ?_
  refine post_ret ⟨[Nv 0], ⟨AV.le_refl _, trivial⟩, rfl, ?_⟩
  have e := digs_len_zero (n := z.natAbs)
  refine int_eq (k := .i64) ?_
  unfold sgn
  split <;> (try split) <;> omega
 ·refine awp_seq fun K4 hK4 => awp_region rfl ?_
  refine o_fieldRef 0 gn f3_ rfl rfl ?_
  refine o_loadS (bp (z < 0)) gn f4_ rfl rfl rfl ?_
  refine o_as (bp (z < 0)) rfl (aops_end (hK4 _ ?_))
  refine awp_condQ (q := z < 0) rfl (fun h2 => ?_) (fun h2 => ?_)
  ·refine awp_seq fun K5 hK5 => awp_region rfl (o_as (Iv (-1)) rfl (aops_end (hK5 _ ?_)))
   refine awp_ret ?_
   refine post_ret ⟨[Iv (-1)], ⟨AV.le_refl _, trivial⟩, rfl, ?_⟩
   have e := digs_len_zero (n := z.natAbs)
   refine int_eq (k := .i64) ?_
   unfold sgn
   split <;> (try split) <;> omega
  ·refine awp_skip (hK1 _ (awp_seq fun K6 hK6 => awp_region rfl (o_as (Nv 1) rfl (aops_end (hK6 _ ?_)))))
   refine awp_ret ?_
   refine post_ret ⟨[Nv 1], ⟨AV.le_refl _, trivial⟩, rfl, ?_⟩
   have e := digs_len_zero (n := z.natAbs)
   refine int_eq (k := .i64) ?_
   unfold sgn
   split <;> (try split) <;> omega

theorem c_wSign (z : Int) : ECalls cx 44 [intW z] (.lit (.int .i64 (sgn z))) := by
 refine ecalls_of_awp Tryz.func44 (c := _) rfl (Nat.le_of_ble_eq_true rfl) ?_
 show awp cx 11 _ (postF cx Tryz.f44 _) ⟨[(0, intW z)], []⟩
 refine awp_seq fun K0 hK0 => awp_region rfl ?_
 refine o_box 2 [bp (z < 0), .sl 1 (ns .u32 (digs z.natAbs))] gn rfl rfl ?_
 refine o_as (Nv 0) rfl (aops_end (hK0 _ (awp_seq fun K1 hK1 => ?_)))
 refine awp_block ?_
 refine awp_seq fun K2 hK2 => awp_region rfl ?_
 refine o_fieldRef 1 gn f5_ rfl rfl ?_
 refine o_loadS (.sl 1 (ns .u32 (digs z.natAbs))) gn f6_ rfl rfl rfl ?_
 refine n_len (digs z.natAbs) gn f7_ rfl ?_
 refine n_eql ((digs z.natAbs).length) 0 gn rfl rfl ?_
 refine o_as (bp (((digs z.natAbs).length) = 0)) rfl (aops_end (hK2 _ ?_))
 refine awp_condQ (q := ((digs z.natAbs).length) = 0) rfl (fun h1 => ?_) (fun h1 => ?_)
 ·refine awp_seq fun K3 hK3 => awp_region rfl (o_as (Nv 0) rfl (aops_end (hK3 _ ?_)))
  refine awp_ret ?_
  refine post_ret ⟨[Nv 0], ⟨AV.le_refl _, trivial⟩, rfl, ?_⟩
  have e := digs_len_zero (n := z.natAbs)
  refine int_eq (k := .i64) ?_
  unfold sgn
  split <;> (try split) <;> omega
 ·refine awp_seq fun K4 hK4 => awp_region rfl ?_
  refine o_fieldRef 0 gn f8_ rfl rfl ?_
  refine o_loadS (bp (z < 0)) gn f4_ rfl rfl rfl ?_
  refine o_as (bp (z < 0)) rfl (aops_end (hK4 _ ?_))
  refine awp_condQ (q := z < 0) rfl (fun h2 => ?_) (fun h2 => ?_)
  ·refine awp_seq fun K5 hK5 => awp_region rfl (o_as (Iv (-1)) rfl (aops_end (hK5 _ ?_)))
   refine awp_ret ?_
   refine post_ret ⟨[Iv (-1)], ⟨AV.le_refl _, trivial⟩, rfl, ?_⟩
   have e := digs_len_zero (n := z.natAbs)
   refine int_eq (k := .i64) ?_
   unfold sgn
   split <;> (try split) <;> omega
  ·refine awp_skip (hK1 _ (awp_seq fun K6 hK6 => awp_region rfl (o_as (Nv 1) rfl (aops_end (hK6 _ ?_)))))
   refine awp_ret ?_
   refine post_ret ⟨[Nv 1], ⟨AV.le_refl _, trivial⟩, rfl, ?_⟩
   have e := digs_len_zero (n := z.natAbs)
   refine int_eq (k := .i64) ?_
   unfold sgn
   split <;> (try split) <;> omega

theorem c_rTrim (neg : Bool) (xs : List Nat) (hx : Dig xs) : ECalls cx 31 [.lit (.bool neg), .sl 1 (ns .i64 xs)] (intR (sg neg (val xs))) := by
 refine ecalls_of_awp Tryz.func31 (c := _) rfl (Nat.le_of_ble_eq_true rfl) ?_
 show awp cx 29 _ (postF cx Tryz.f31 _) ⟨[(0, .lit (.bool neg)), (1, .sl 1 (ns .i64 xs))], []⟩
 refine awp_bound (i := 1) rfl fun hb => ?_
 replace hb := n_bnd hb
 refine awp_seq fun K0 hK0 => awp_region rfl ?_
 refine o_alloc 2 [Fv, Zv] gn f9_ rfl rfl rfl ?_
 refine aops_end (hK0 _ (awp_seq fun K1 hK1 => awp_region rfl (o_mv (.sl 1 (ns .i64 xs)) rfl ?_)))
 refine n_len xs gn f2_ rfl ?_
 refine o_as (Nv (xs.length)) rfl (aops_end (hK1 _ (awp_seq fun K2 hK2 => ?_)))
 refine awp_block ?_
 refine awp_loopR (fun κ σ => ∃ (n : Nat), (n ≤ xs.length) ∧ (val (xs.take n) = val xs) ∧ n = κ ∧ σ = ⟨[(0, .lit (.bool neg)), (1, .sl 1 (ns .i64 xs)), (4, .ref 2 0), (5, Nv n)], [(2, .var 37 [Fv, Zv])]⟩) ⟨_, _, ⟨xs.length, Nat.le_refl _, (by rw [List.take_length]), rfl, rfl⟩, ?wk0⟩ ?rd0
 case wk0 =>
  exact Wk.sub ⟨rfl, rfl, rfl, (by first | rfl | exact nm_int (by omega)), trivial⟩ ⟨rfl, trivial⟩
 rintro κ _ ⟨n, hn, hv, rfl, rfl⟩
 refine awp_seq fun K3 hK3 => awp_seq fun K4 hK4 => awp_region rfl (o_mv (Nv n) rfl ?_)
 refine n_gtr n 0 gn rfl rfl ?_
 refine o_mv (bp (0 < n)) rfl ?_
 refine o_splitP (q := 0 < n) 10 rfl (fun h1 => ?_) (fun h1 => ?_)
 ·refine o_move (.sl 1 (ns .i64 xs)) (Gd.yes rfl rfl (decide_eq_true h1)) rfl (o_move (Nv n) (Gd.yes rfl rfl (decide_eq_true h1)) rfl ?_)
  refine n_sub n 1 (Gd.yes rfl rfl (decide_eq_true h1)) rfl rfl (by omega) (by simp only [topOf]; omega) ?_
  refine n_index xs (n - 1) (Gd.yes rfl rfl (decide_eq_true h1)) f10_ rfl rfl (by omega) ?_
  refine n_loadI xs (n - 1) (Gd.yes rfl rfl (decide_eq_true h1)) f11_ rfl (by omega) ?_
  refine n_eql (xs.getD (n - 1) 0) 0 (Gd.yes rfl rfl (decide_eq_true h1)) rfl rfl ?_
  refine o_pickT (bp ((xs.getD (n - 1) 0) = 0)) gn rfl (decide_eq_true h1) rfl ?_
  refine aops_end (hK4 _ ?_)
  refine awp_condQ (q := (xs.getD (n - 1) 0) = 0) rfl (fun h2 => ?_) (fun h2 => ?_)
  ·refine awp_skip (hK3 _ ?_)
   refine awp_block ?_
   refine awp_region rfl (o_mv (Nv n) rfl ?_)
   refine n_sub n 1 gn rfl rfl (by omega) (by simp only [topOf]; omega) ?_
   refine o_as (Nv (n - 1)) rfl (aops_end ?_)
   refine ⟨_, _, ?lt, ⟨n - 1, (by omega), (by rw [← take_getD_zero (by assumption) hn (by assumption)]; exact hv), rfl, rfl⟩, ?wk⟩
   case lt => omega
   case wk => exact Wk.sub ⟨rfl, rfl, rfl, (by first | rfl | exact nm_int (by omega)), trivial⟩ ⟨rfl, trivial⟩
  ·refine awp_exit ?_
   refine hK2 _ (awp_seq fun K5 hK5 => awp_region rfl (o_mv (.lit (.bool neg)) rfl (o_mv (.lit (.bool neg)) rfl ?_)))
   refine o_split (b := neg) 21 rfl (fun h3 => ?_) (fun h3 => ?_)
   ·refine o_move (Nv n) (Gd.yes rfl rfl h3) rfl ?_
    refine n_gtr n 0 (Gd.yes rfl rfl h3) rfl rfl ?_
    refine o_pickT (bp (0 < n)) gn rfl h3 rfl ?_
    refine o_mv (.sl 1 (ns .i64 xs)) rfl (o_mv (Nv n) rfl ?_)
    refine n_slice xs 0 n gn f10_ rfl rfl (hi_nm rfl) trivial (by omega) (by omega) ?_
    refine o_build [bp (0 < n), .sl 1 (ns .i64 ((xs.drop 0).take (n - 0)))] [(0, [bp (0 < n)]), (1, [.sl 1 (ns .i64 ((xs.drop 0).take (n - 0)))])] gn f12_ f9_ rfl rfl rfl ?_
    refine o_store [(2, .var 37 [bp (0 < n), .sl 1 (ns .i64 ((xs.drop 0).take (n - 0)))])] gn f13_ rfl rfl rfl rfl rfl rfl ?_
    refine aops_end (hK5 _ ?_)
    refine awp_ret ?_
    refine post_ret ⟨[.agg [bp (0 < n), .sl 1 (ns .i64 ((xs.drop 0).take (n - 0)))]], ⟨⟨2, .var 37 [bp (0 < n), .sl 1 (ns .i64 ((xs.drop 0).take (n - 0)))], rfl, rfl, rfl, Or.inl ⟨f14_, AV.le_refl _⟩⟩, trivial⟩, rfl, ?_⟩
    subst h3
    exact (trim_fin (k := .i64) (neg := true) hx hn hv (by first | (left; omega) | (right; assumption))).symm
   ·refine o_skip rfl rfl h3 (o_skip rfl rfl h3 ?_)
    refine o_pickF Fv gn rfl h3 rfl ?_
    refine o_mv (.sl 1 (ns .i64 xs)) rfl (o_mv (Nv n) rfl ?_)
    refine n_slice xs 0 n gn f10_ rfl rfl (hi_nm rfl) trivial (by omega) (by omega) ?_
    refine o_build [Fv, .sl 1 (ns .i64 ((xs.drop 0).take (n - 0)))] [(0, [Fv]), (1, [.sl 1 (ns .i64 ((xs.drop 0).take (n - 0)))])] gn f12_ f9_ rfl rfl rfl ?_
    refine o_store [(2, .var 37 [Fv, .sl 1 (ns .i64 ((xs.drop 0).take (n - 0)))])] gn f13_ rfl rfl rfl rfl rfl rfl ?_
    refine aops_end (hK5 _ ?_)
    refine awp_ret ?_
    refine post_ret ⟨[.agg [Fv, .sl 1 (ns .i64 ((xs.drop 0).take (n - 0)))]], ⟨⟨2, .var 37 [Fv, .sl 1 (ns .i64 ((xs.drop 0).take (n - 0)))], rfl, rfl, rfl, Or.inl ⟨f14_, AV.le_refl _⟩⟩, trivial⟩, rfl, ?_⟩
    subst h3
    exact (trim_fin (k := .i64) (neg := false) hx hn hv (by first | (left; omega) | (right; assumption))).symm
 ·refine o_skip rfl rfl (decide_eq_false h1) (o_skip rfl rfl (decide_eq_false h1) (o_skip rfl rfl (decide_eq_false h1) (o_skip rfl rfl (decide_eq_false h1) (o_skip rfl rfl (decide_eq_false h1) (o_skip rfl rfl (decide_eq_false h1) ?_)))))
  refine o_pickF Fv gn rfl (decide_eq_false h1) rfl ?_
  refine aops_end (hK4 _ ?_)
  refine awp_condB (b := false) rfl (fun hh => absurd (hh.symm.trans rfl) (by decide)) (fun _ => ?_)
  refine awp_exit ?_
  refine hK2 _ (awp_seq fun K6 hK6 => awp_region rfl (o_mv (.lit (.bool neg)) rfl (o_mv (.lit (.bool neg)) rfl ?_)))
  refine o_split (b := neg) 21 rfl (fun h4 => ?_) (fun h4 => ?_)
  ·refine o_move (Nv n) (Gd.yes rfl rfl h4) rfl ?_
   refine n_gtr n 0 (Gd.yes rfl rfl h4) rfl rfl ?_
   refine o_pickT (bp (0 < n)) gn rfl h4 rfl ?_
   refine o_mv (.sl 1 (ns .i64 xs)) rfl (o_mv (Nv n) rfl ?_)
   refine n_slice xs 0 n gn f10_ rfl rfl (hi_nm rfl) trivial (by omega) (by omega) ?_
   refine o_build [bp (0 < n), .sl 1 (ns .i64 ((xs.drop 0).take (n - 0)))] [(0, [bp (0 < n)]), (1, [.sl 1 (ns .i64 ((xs.drop 0).take (n - 0)))])] gn f12_ f9_ rfl rfl rfl ?_
   refine o_store [(2, .var 37 [bp (0 < n), .sl 1 (ns .i64 ((xs.drop 0).take (n - 0)))])] gn f13_ rfl rfl rfl rfl rfl rfl ?_
   refine aops_end (hK6 _ ?_)
   refine awp_ret ?_
   refine post_ret ⟨[.agg [bp (0 < n), .sl 1 (ns .i64 ((xs.drop 0).take (n - 0)))]], ⟨⟨2, .var 37 [bp (0 < n), .sl 1 (ns .i64 ((xs.drop 0).take (n - 0)))], rfl, rfl, rfl, Or.inl ⟨f14_, AV.le_refl _⟩⟩, trivial⟩, rfl, ?_⟩
   subst h4
   exact (trim_fin (k := .i64) (neg := true) hx hn hv (by first | (left; omega) | (right; assumption))).symm
  ·refine o_skip rfl rfl h4 (o_skip rfl rfl h4 ?_)
   refine o_pickF Fv gn rfl h4 rfl ?_
   refine o_mv (.sl 1 (ns .i64 xs)) rfl (o_mv (Nv n) rfl ?_)
   refine n_slice xs 0 n gn f10_ rfl rfl (hi_nm rfl) trivial (by omega) (by omega) ?_
   refine o_build [Fv, .sl 1 (ns .i64 ((xs.drop 0).take (n - 0)))] [(0, [Fv]), (1, [.sl 1 (ns .i64 ((xs.drop 0).take (n - 0)))])] gn f12_ f9_ rfl rfl rfl ?_
   refine o_store [(2, .var 37 [Fv, .sl 1 (ns .i64 ((xs.drop 0).take (n - 0)))])] gn f13_ rfl rfl rfl rfl rfl rfl ?_
   refine aops_end (hK6 _ ?_)
   refine awp_ret ?_
   refine post_ret ⟨[.agg [Fv, .sl 1 (ns .i64 ((xs.drop 0).take (n - 0)))]], ⟨⟨2, .var 37 [Fv, .sl 1 (ns .i64 ((xs.drop 0).take (n - 0)))], rfl, rfl, rfl, Or.inl ⟨f14_, AV.le_refl _⟩⟩, trivial⟩, rfl, ?_⟩
   subst h4
   exact (trim_fin (k := .i64) (neg := false) hx hn hv (by first | (left; omega) | (right; assumption))).symm

theorem c_wTrim (neg : Bool) (xs : List Nat) (hx : Dig xs) : ECalls cx 52 [.lit (.bool neg), .sl 1 (ns .u32 xs)] (intW (sg neg (val xs))) := by
 refine ecalls_of_awp Tryz.func52 (c := _) rfl (Nat.le_of_ble_eq_true rfl) ?_
 show awp cx 30 _ (postF cx Tryz.f52 _) ⟨[(0, .lit (.bool neg)), (1, .sl 1 (ns .u32 xs))], []⟩
 refine awp_bound (i := 1) rfl fun hb => ?_
 replace hb := n_bnd hb
 refine awp_seq fun K0 hK0 => awp_region rfl ?_
 refine o_alloc 2 [Fv, Zv] gn f15_ rfl rfl rfl ?_
 refine aops_end (hK0 _ (awp_seq fun K1 hK1 => awp_region rfl (o_mv (.sl 1 (ns .u32 xs)) rfl ?_)))
 refine n_len xs gn f7_ rfl ?_
 refine o_as (Nv (xs.length)) rfl (aops_end (hK1 _ (awp_seq fun K2 hK2 => ?_)))
 refine awp_block ?_
 refine awp_loopR (fun κ σ => ∃ (n : Nat), (n ≤ xs.length) ∧ (val (xs.take n) = val xs) ∧ n = κ ∧ σ = ⟨[(0, .lit (.bool neg)), (1, .sl 1 (ns .u32 xs)), (4, .ref 2 0), (5, Nv n)], [(2, .var 51 [Fv, Zv])]⟩) ⟨_, _, ⟨xs.length, Nat.le_refl _, (by rw [List.take_length]), rfl, rfl⟩, ?wk0⟩ ?rd0
 case wk0 =>
  exact Wk.sub ⟨rfl, rfl, rfl, (by first | rfl | exact nm_int (by omega)), trivial⟩ ⟨rfl, trivial⟩
 rintro κ _ ⟨n, hn, hv, rfl, rfl⟩
 refine awp_seq fun K3 hK3 => awp_seq fun K4 hK4 => awp_region rfl (o_mv (Nv n) rfl ?_)
 refine n_gtr n 0 gn rfl rfl ?_
 refine o_mv (bp (0 < n)) rfl ?_
 refine o_splitP (q := 0 < n) 10 rfl (fun h1 => ?_) (fun h1 => ?_)
 ·refine o_move (.sl 1 (ns .u32 xs)) (Gd.yes rfl rfl (decide_eq_true h1)) rfl (o_move (Nv n) (Gd.yes rfl rfl (decide_eq_true h1)) rfl ?_)
  refine n_sub n 1 (Gd.yes rfl rfl (decide_eq_true h1)) rfl rfl (by omega) (by simp only [topOf]; omega) ?_
  refine n_index xs (n - 1) (Gd.yes rfl rfl (decide_eq_true h1)) f16_ rfl rfl (by omega) ?_
  refine n_loadI xs (n - 1) (Gd.yes rfl rfl (decide_eq_true h1)) f17_ rfl (by omega) ?_
  refine n_eql (xs.getD (n - 1) 0) 0 (Gd.yes rfl rfl (decide_eq_true h1)) rfl rfl ?_
  refine o_pickT (bp ((xs.getD (n - 1) 0) = 0)) gn rfl (decide_eq_true h1) rfl ?_
  refine aops_end (hK4 _ ?_)
  refine awp_condQ (q := (xs.getD (n - 1) 0) = 0) rfl (fun h2 => ?_) (fun h2 => ?_)
  ·refine awp_skip (hK3 _ ?_)
   refine awp_block ?_
   refine awp_region rfl (o_mv (Nv n) rfl ?_)
   refine n_sub n 1 gn rfl rfl (by omega) (by simp only [topOf]; omega) ?_
   refine o_as (Nv (n - 1)) rfl (aops_end ?_)
   refine ⟨_, _, ?lt, ⟨n - 1, (by omega), (by rw [← take_getD_zero (by assumption) hn (by assumption)]; exact hv), rfl, rfl⟩, ?wk⟩
   case lt => omega
   case wk => exact Wk.sub ⟨rfl, rfl, rfl, (by first | rfl | exact nm_int (by omega)), trivial⟩ ⟨rfl, trivial⟩
  ·refine awp_exit ?_
   refine hK2 _ (awp_seq fun K5 hK5 => awp_region rfl (o_mv (.lit (.bool neg)) rfl (o_mv (.lit (.bool neg)) rfl ?_)))
   refine o_split (b := neg) 21 rfl (fun h3 => ?_) (fun h3 => ?_)
   ·refine o_move (Nv n) (Gd.yes rfl rfl h3) rfl ?_
    refine n_gtr n 0 (Gd.yes rfl rfl h3) rfl rfl ?_
    refine o_pickT (bp (0 < n)) gn rfl h3 rfl ?_
    refine o_mv (.sl 1 (ns .u32 xs)) rfl (o_mv (Nv n) rfl (o_mv (Nv n) rfl ?_))
    refine n_slice xs 0 n gn f16_ rfl rfl (hi_nm rfl) (mx_nm rfl) (by omega) (by omega) ?_
    refine o_build [bp (0 < n), .sl 1 (ns .u32 ((xs.drop 0).take (n - 0)))] [(0, [bp (0 < n)]), (1, [.sl 1 (ns .u32 ((xs.drop 0).take (n - 0)))])] gn f18_ f15_ rfl rfl rfl ?_
    refine o_store [(2, .var 51 [bp (0 < n), .sl 1 (ns .u32 ((xs.drop 0).take (n - 0)))])] gn f19_ rfl rfl rfl rfl rfl rfl ?_
    refine aops_end (hK5 _ ?_)
    refine awp_ret ?_
    refine post_ret ⟨[.agg [bp (0 < n), .sl 1 (ns .u32 ((xs.drop 0).take (n - 0)))]], ⟨⟨2, .var 51 [bp (0 < n), .sl 1 (ns .u32 ((xs.drop 0).take (n - 0)))], rfl, rfl, rfl, Or.inl ⟨f20_, AV.le_refl _⟩⟩, trivial⟩, rfl, ?_⟩
    subst h3
    exact (trim_fin (k := .u32) (neg := true) hx hn hv (by first | (left; omega) | (right; assumption))).symm
   ·refine o_skip rfl rfl h3 (o_skip rfl rfl h3 ?_)
    refine o_pickF Fv gn rfl h3 rfl ?_
    refine o_mv (.sl 1 (ns .u32 xs)) rfl (o_mv (Nv n) rfl (o_mv (Nv n) rfl ?_))
    refine n_slice xs 0 n gn f16_ rfl rfl (hi_nm rfl) (mx_nm rfl) (by omega) (by omega) ?_
    refine o_build [Fv, .sl 1 (ns .u32 ((xs.drop 0).take (n - 0)))] [(0, [Fv]), (1, [.sl 1 (ns .u32 ((xs.drop 0).take (n - 0)))])] gn f18_ f15_ rfl rfl rfl ?_
    refine o_store [(2, .var 51 [Fv, .sl 1 (ns .u32 ((xs.drop 0).take (n - 0)))])] gn f19_ rfl rfl rfl rfl rfl rfl ?_
    refine aops_end (hK5 _ ?_)
    refine awp_ret ?_
    refine post_ret ⟨[.agg [Fv, .sl 1 (ns .u32 ((xs.drop 0).take (n - 0)))]], ⟨⟨2, .var 51 [Fv, .sl 1 (ns .u32 ((xs.drop 0).take (n - 0)))], rfl, rfl, rfl, Or.inl ⟨f20_, AV.le_refl _⟩⟩, trivial⟩, rfl, ?_⟩
    subst h3
    exact (trim_fin (k := .u32) (neg := false) hx hn hv (by first | (left; omega) | (right; assumption))).symm
 ·refine o_skip rfl rfl (decide_eq_false h1) (o_skip rfl rfl (decide_eq_false h1) (o_skip rfl rfl (decide_eq_false h1) (o_skip rfl rfl (decide_eq_false h1) (o_skip rfl rfl (decide_eq_false h1) (o_skip rfl rfl (decide_eq_false h1) ?_)))))
  refine o_pickF Fv gn rfl (decide_eq_false h1) rfl ?_
  refine aops_end (hK4 _ ?_)
  refine awp_condB (b := false) rfl (fun hh => absurd (hh.symm.trans rfl) (by decide)) (fun _ => ?_)
  refine awp_exit ?_
  refine hK2 _ (awp_seq fun K6 hK6 => awp_region rfl (o_mv (.lit (.bool neg)) rfl (o_mv (.lit (.bool neg)) rfl ?_)))
  refine o_split (b := neg) 21 rfl (fun h4 => ?_) (fun h4 => ?_)
  ·refine o_move (Nv n) (Gd.yes rfl rfl h4) rfl ?_
   refine n_gtr n 0 (Gd.yes rfl rfl h4) rfl rfl ?_
   refine o_pickT (bp (0 < n)) gn rfl h4 rfl ?_
   refine o_mv (.sl 1 (ns .u32 xs)) rfl (o_mv (Nv n) rfl (o_mv (Nv n) rfl ?_))
   refine n_slice xs 0 n gn f16_ rfl rfl (hi_nm rfl) (mx_nm rfl) (by omega) (by omega) ?_
   refine o_build [bp (0 < n), .sl 1 (ns .u32 ((xs.drop 0).take (n - 0)))] [(0, [bp (0 < n)]), (1, [.sl 1 (ns .u32 ((xs.drop 0).take (n - 0)))])] gn f18_ f15_ rfl rfl rfl ?_
   refine o_store [(2, .var 51 [bp (0 < n), .sl 1 (ns .u32 ((xs.drop 0).take (n - 0)))])] gn f19_ rfl rfl rfl rfl rfl rfl ?_
   refine aops_end (hK6 _ ?_)
   refine awp_ret ?_
   refine post_ret ⟨[.agg [bp (0 < n), .sl 1 (ns .u32 ((xs.drop 0).take (n - 0)))]], ⟨⟨2, .var 51 [bp (0 < n), .sl 1 (ns .u32 ((xs.drop 0).take (n - 0)))], rfl, rfl, rfl, Or.inl ⟨f20_, AV.le_refl _⟩⟩, trivial⟩, rfl, ?_⟩
   subst h4
   exact (trim_fin (k := .u32) (neg := true) hx hn hv (by first | (left; omega) | (right; assumption))).symm
  ·refine o_skip rfl rfl h4 (o_skip rfl rfl h4 ?_)
   refine o_pickF Fv gn rfl h4 rfl ?_
   refine o_mv (.sl 1 (ns .u32 xs)) rfl (o_mv (Nv n) rfl (o_mv (Nv n) rfl ?_))
   refine n_slice xs 0 n gn f16_ rfl rfl (hi_nm rfl) (mx_nm rfl) (by omega) (by omega) ?_
   refine o_build [Fv, .sl 1 (ns .u32 ((xs.drop 0).take (n - 0)))] [(0, [Fv]), (1, [.sl 1 (ns .u32 ((xs.drop 0).take (n - 0)))])] gn f18_ f15_ rfl rfl rfl ?_
   refine o_store [(2, .var 51 [Fv, .sl 1 (ns .u32 ((xs.drop 0).take (n - 0)))])] gn f19_ rfl rfl rfl rfl rfl rfl ?_
   refine aops_end (hK6 _ ?_)
   refine awp_ret ?_
   refine post_ret ⟨[.agg [Fv, .sl 1 (ns .u32 ((xs.drop 0).take (n - 0)))]], ⟨⟨2, .var 51 [Fv, .sl 1 (ns .u32 ((xs.drop 0).take (n - 0)))], rfl, rfl, rfl, Or.inl ⟨f20_, AV.le_refl _⟩⟩, trivial⟩, rfl, ?_⟩
   subst h4
   exact (trim_fin (k := .u32) (neg := false) hx hn hv (by first | (left; omega) | (right; assumption))).symm

theorem c_rMinus (z : Int) : ECalls cx 96 [intR z] (intR (-z)) := by
 refine ecalls_of_awp Tryz.func96 (c := _) rfl (Nat.le_of_ble_eq_true rfl) ?_
 show awp cx 15 _ (postF cx Tryz.f96 _) ⟨[(0, intR z)], []⟩
 refine awp_seq fun K0 hK0 => awp_region rfl ?_
 refine o_box 2 [bp (z < 0), .sl 1 (ns .i64 (digs z.natAbs))] gn rfl rfl ?_
 refine o_alloc 3 [Fv, Zv] gn f9_ rfl rfl rfl ?_
 refine aops_end (hK0 _ (awp_seq fun K1 hK1 => awp_region rfl ?_))
 refine o_fieldRef 0 gn f3_ rfl rfl ?_
 refine o_loadS (bp (z < 0)) gn f4_ rfl rfl rfl ?_
 refine o_notP (q := z < 0) gn rfl ?_
 refine o_mv (bp (¬ (z < 0))) rfl ?_
 refine o_splitP (q := ¬ (z < 0)) 6 rfl (fun h1 => ?_) (fun h1 => ?_)
 ·refine o_fieldRef 1 (Gd.yes rfl rfl (decide_eq_true h1)) f0_ rfl rfl ?_
  refine o_loadS (.sl 1 (ns .i64 (digs z.natAbs))) (Gd.yes rfl rfl (decide_eq_true h1)) f1_ rfl rfl rfl ?_
  refine n_len (digs z.natAbs) (Gd.yes rfl rfl (decide_eq_true h1)) f2_ rfl ?_
  refine n_gtr ((digs z.natAbs).length) 0 (Gd.yes rfl rfl (decide_eq_true h1)) rfl rfl ?_
  refine o_pickT (bp (0 < ((digs z.natAbs).length))) gn rfl (decide_eq_true h1) rfl ?_
  refine o_fieldRef 1 gn f0_ rfl rfl ?_
  refine o_loadS (.sl 1 (ns .i64 (digs z.natAbs))) gn f1_ rfl rfl rfl ?_
  refine o_build [bp (0 < ((digs z.natAbs).length)), .sl 1 (ns .i64 (digs z.natAbs))] [(0, [bp (0 < ((digs z.natAbs).length))]), (1, [.sl 1 (ns .i64 (digs z.natAbs))])] gn f12_ f9_ rfl rfl rfl ?_
  refine o_store [(3, .var 37 [bp (0 < ((digs z.natAbs).length)), .sl 1 (ns .i64 (digs z.natAbs))]), (2, oZ 37 .i64 z)] gn f13_ rfl rfl rfl rfl rfl rfl ?_
  refine aops_end (hK1 _ ?_)
  refine awp_ret ?_
  refine post_ret ⟨[.agg [bp (0 < ((digs z.natAbs).length)), .sl 1 (ns .i64 (digs z.natAbs))]], ⟨⟨3, .var 37 [bp (0 < ((digs z.natAbs).length)), .sl 1 (ns .i64 (digs z.natAbs))], rfl, rfl, rfl, Or.inl ⟨f14_, AV.le_refl _⟩⟩, trivial⟩, rfl, ?_⟩
  exact (minus_fin1 (k := .i64) h1).symm
 ·refine o_skip rfl rfl (decide_eq_false h1) (o_skip rfl rfl (decide_eq_false h1) (o_skip rfl rfl (decide_eq_false h1) (o_skip rfl rfl (decide_eq_false h1) ?_)))
  refine o_pickF Fv gn rfl (decide_eq_false h1) rfl ?_
  refine o_fieldRef 1 gn f0_ rfl rfl ?_
  refine o_loadS (.sl 1 (ns .i64 (digs z.natAbs))) gn f1_ rfl rfl rfl ?_
  refine o_build [Fv, .sl 1 (ns .i64 (digs z.natAbs))] [(0, [Fv]), (1, [.sl 1 (ns .i64 (digs z.natAbs))])] gn f12_ f9_ rfl rfl rfl ?_
  refine o_store [(3, .var 37 [Fv, .sl 1 (ns .i64 (digs z.natAbs))]), (2, oZ 37 .i64 z)] gn f13_ rfl rfl rfl rfl rfl rfl ?_
  refine aops_end (hK1 _ ?_)
  refine awp_ret ?_
  refine post_ret ⟨[.agg [Fv, .sl 1 (ns .i64 (digs z.natAbs))]], ⟨⟨3, .var 37 [Fv, .sl 1 (ns .i64 (digs z.natAbs))], rfl, rfl, rfl, Or.inl ⟨f14_, AV.le_refl _⟩⟩, trivial⟩, rfl, ?_⟩
  exact (minus_fin2 (k := .i64) h1).symm

theorem c_wMinus (z : Int) : ECalls cx 70 [intW z] (intW (-z)) := by
 refine ecalls_of_awp Tryz.func70 (c := _) rfl (Nat.le_of_ble_eq_true rfl) ?_
 show awp cx 15 _ (postF cx Tryz.f70 _) ⟨[(0, intW z)], []⟩
 refine awp_seq fun K0 hK0 => awp_region rfl ?_
 refine o_box 2 [bp (z < 0), .sl 1 (ns .u32 (digs z.natAbs))] gn rfl rfl ?_
 refine o_alloc 3 [Fv, Zv] gn f15_ rfl rfl rfl ?_
 refine aops_end (hK0 _ (awp_seq fun K1 hK1 => awp_region rfl ?_))
 refine o_fieldRef 0 gn f8_ rfl rfl ?_
 refine o_loadS (bp (z < 0)) gn f4_ rfl rfl rfl ?_
 refine o_notP (q := z < 0) gn rfl ?_
 refine o_mv (bp (¬ (z < 0))) rfl ?_
 refine o_splitP (q := ¬ (z < 0)) 6 rfl (fun h1 => ?_) (fun h1 => ?_)
 ·refine o_fieldRef 1 (Gd.yes rfl rfl (decide_eq_true h1)) f5_ rfl rfl ?_
  refine o_loadS (.sl 1 (ns .u32 (digs z.natAbs))) (Gd.yes rfl rfl (decide_eq_true h1)) f6_ rfl rfl rfl ?_
  refine n_len (digs z.natAbs) (Gd.yes rfl rfl (decide_eq_true h1)) f7_ rfl ?_
  refine n_gtr ((digs z.natAbs).length) 0 (Gd.yes rfl rfl (decide_eq_true h1)) rfl rfl ?_
  refine o_pickT (bp (0 < ((digs z.natAbs).length))) gn rfl (decide_eq_true h1) rfl ?_
  refine o_fieldRef 1 gn f5_ rfl rfl ?_
  refine o_loadS (.sl 1 (ns .u32 (digs z.natAbs))) gn f6_ rfl rfl rfl ?_
  refine o_build [bp (0 < ((digs z.natAbs).length)), .sl 1 (ns .u32 (digs z.natAbs))] [(0, [bp (0 < ((digs z.natAbs).length))]), (1, [.sl 1 (ns .u32 (digs z.natAbs))])] gn f18_ f15_ rfl rfl rfl ?_
  refine o_store [(3, .var 51 [bp (0 < ((digs z.natAbs).length)), .sl 1 (ns .u32 (digs z.natAbs))]), (2, oZ 51 .u32 z)] gn f19_ rfl rfl rfl rfl rfl rfl ?_
  refine aops_end (hK1 _ ?_)
  refine awp_ret ?_
  refine post_ret ⟨[.agg [bp (0 < ((digs z.natAbs).length)), .sl 1 (ns .u32 (digs z.natAbs))]], ⟨⟨3, .var 51 [bp (0 < ((digs z.natAbs).length)), .sl 1 (ns .u32 (digs z.natAbs))], rfl, rfl, rfl, Or.inl ⟨f20_, AV.le_refl _⟩⟩, trivial⟩, rfl, ?_⟩
  exact (minus_fin1 (k := .u32) h1).symm
 ·refine o_skip rfl rfl (decide_eq_false h1) (o_skip rfl rfl (decide_eq_false h1) (o_skip rfl rfl (decide_eq_false h1) (o_skip rfl rfl (decide_eq_false h1) ?_)))
  refine o_pickF Fv gn rfl (decide_eq_false h1) rfl ?_
  refine o_fieldRef 1 gn f5_ rfl rfl ?_
  refine o_loadS (.sl 1 (ns .u32 (digs z.natAbs))) gn f6_ rfl rfl rfl ?_
  refine o_build [Fv, .sl 1 (ns .u32 (digs z.natAbs))] [(0, [Fv]), (1, [.sl 1 (ns .u32 (digs z.natAbs))])] gn f18_ f15_ rfl rfl rfl ?_
  refine o_store [(3, .var 51 [Fv, .sl 1 (ns .u32 (digs z.natAbs))]), (2, oZ 51 .u32 z)] gn f19_ rfl rfl rfl rfl rfl rfl ?_
  refine aops_end (hK1 _ ?_)
  refine awp_ret ?_
  refine post_ret ⟨[.agg [Fv, .sl 1 (ns .u32 (digs z.natAbs))]], ⟨⟨3, .var 51 [Fv, .sl 1 (ns .u32 (digs z.natAbs))], rfl, rfl, rfl, Or.inl ⟨f20_, AV.le_refl _⟩⟩, trivial⟩, rfl, ?_⟩
  exact (minus_fin2 (k := .u32) h1).symm

theorem c_rSize (m n : Nat) : ECalls cx 64 [.sl 1 (ns .i64 (digs m)), .sl 1 (ns .i64 (digs n))] (.lit (.int .i64 (cmpN m n))) := by
 refine ecalls_of_awp Tryz.func64 (c := _) rfl (Nat.le_of_ble_eq_true rfl) ?_
 show awp cx 41 _ (postF cx Tryz.f64 _) ⟨[(0, .sl 1 (ns .i64 (digs m))), (1, .sl 1 (ns .i64 (digs n)))], []⟩
 refine awp_bound (i := 0) rfl fun hb => ?_
 replace hb := n_bnd hb
 refine awp_bound (i := 1) rfl fun hb2 => ?_
 replace hb2 := n_bnd hb2
 refine awp_seq fun K0 hK0 => awp_region rfl (o_as (Nv 0) rfl (aops_end (hK0 _ (awp_seq fun K1 hK1 => awp_seq fun K2 hK2 => awp_region rfl (o_mv (.sl 1 (ns .i64 (digs m))) rfl ?_)))))
 refine n_len (digs m) gn f2_ rfl ?_
 refine o_mv (.sl 1 (ns .i64 (digs n))) rfl ?_
 refine n_len (digs n) gn f2_ rfl ?_
 refine n_neq ((digs m).length) ((digs n).length) gn rfl rfl ?_
 refine aops_end (hK2 _ ?_)
 refine awp_condQ (q := ((digs m).length) ≠ ((digs n).length)) rfl (fun h1 => ?_) (fun h1 => ?_)
 ·refine awp_seq fun K3 hK3 => awp_seq fun K4 hK4 => awp_region rfl (o_mv (.sl 1 (ns .i64 (digs m))) rfl ?_)
  refine n_len (digs m) gn f2_ rfl ?_
  refine o_mv (.sl 1 (ns .i64 (digs n))) rfl ?_
  refine n_len (digs n) gn f2_ rfl ?_
  refine n_lss ((digs m).length) ((digs n).length) gn rfl rfl ?_
  refine aops_end (hK4 _ ?_)
  refine awp_condQ (q := ((digs m).length) < ((digs n).length)) rfl (fun h2 => ?_) (fun h2 => ?_)
  ·refine awp_seq fun K5 hK5 => awp_region rfl (o_as (Iv (-1)) rfl (aops_end (hK5 _ ?_)))
   refine awp_ret ?_
   refine post_ret ⟨[Iv (-1)], ⟨AV.le_refl _, trivial⟩, rfl, ?_⟩
   refine int_eq (k := .i64) ?_
   rw [cmpN_len h1, if_pos h2]
  ·refine awp_skip (hK3 _ (awp_seq fun K6 hK6 => awp_region rfl (o_as (Nv 1) rfl (aops_end (hK6 _ ?_)))))
   refine awp_ret ?_
   refine post_ret ⟨[Nv 1], ⟨AV.le_refl _, trivial⟩, rfl, ?_⟩
   refine int_eq (k := .i64) ?_
   rw [cmpN_len h1, if_neg h2]
   rfl
 ·refine awp_skip (hK1 _ (awp_seq fun K7 hK7 => awp_seq fun K8 hK8 => awp_region rfl (o_mv (.sl 1 (ns .i64 (digs m))) rfl ?_)))
  refine n_len (digs m) gn f2_ rfl ?_
  refine o_sub (a := (((digs m).length : Nat) : Int)) (c := ((1 : Nat) : Int)) gn rfl rfl (by exact wrap64 (by omega) (by omega)) ?_
  refine o_as (Iv ((((digs m).length : Nat) : Int) - ((1 : Nat) : Int))) rfl (aops_end (hK8 _ ?_))
  refine awp_block ?_
  refine awp_loopR (fun κ σ => ∃ (j : Nat), (j ≤ (digs m).length) ∧ (val ((digs m).drop j) = val ((digs n).drop j)) ∧ j = κ ∧ σ = ⟨[(0, .sl 1 (ns .i64 (digs m))), (1, .sl 1 (ns .i64 (digs n))), (5, (Iv ((j : Int) - 1)))], []⟩) ⟨_, _, ⟨(digs m).length, Nat.le_refl _, (by rw [val_drop_all (Nat.le_refl _), val_drop_all (by omega)]), rfl, rfl⟩, ?wk0⟩ ?rd0
  case wk0 =>
   exact Wk.sub ⟨rfl, rfl, (by first | rfl | exact int_eq (by omega) | exact int_nm (by omega)), trivial⟩ trivial
  rintro κ _ ⟨j, hj, hv, rfl, rfl⟩
  refine awp_seq fun K9 hK9 => awp_seq fun K10 hK10 => awp_region rfl (o_mv (Iv ((j : Int) - 1)) rfl ?_)
  refine o_geq (a := ((j : Int) - 1)) (c := ((0 : Nat) : Int)) gn rfl rfl ?_
  refine aops_end (hK10 _ ?_)
  refine awp_condQ (q := ((0 : Nat) : Int) ≤ ((j : Int) - 1)) rfl (fun h3 => ?_) (fun h3 => ?_)
  ·refine awp_wk (Wk.slot (i := 5) (y := (Nv (j - 1))) (AV.le_eq (by exact nm_int (by omega)))) ?_
   refine awp_skip (hK9 _ (awp_seq fun K11 hK11 => ?_))
   refine awp_block ?_
   refine awp_seq fun K12 hK12 => awp_seq fun K13 hK13 => awp_regionD rfl (o_mv (.sl 1 (ns .i64 (digs m))) rfl (o_mv (Nv (j - 1)) rfl ?_))
   refine n_index (digs m) (j - 1) gn f10_ rfl rfl (by omega) ?_
   refine n_loadI (digs m) (j - 1) gn f11_ rfl (by omega) ?_
   refine o_mv (.sl 1 (ns .i64 (digs n))) rfl (o_mv (Nv (j - 1)) rfl ?_)
   refine n_index (digs n) (j - 1) gn f10_ rfl rfl (by omega) ?_
   refine n_loadI (digs n) (j - 1) gn f11_ rfl (by omega) ?_
   refine n_lss ((digs m).getD (j - 1) 0) ((digs n).getD (j - 1) 0) gn rfl rfl ?_
   refine aops_end ⟨by kernel_rfl, ?_⟩
   refine hK13 _ ?_
   refine awp_condQ (q := ((digs m).getD (j - 1) 0) < ((digs n).getD (j - 1) 0)) rfl (fun h4 => ?_) (fun h4 => ?_)
   ·refine awp_seq fun K14 hK14 => awp_region rfl (o_as (Iv (-1)) rfl (aops_end (hK14 _ ?_)))
    refine awp_ret ?_
    refine post_ret ⟨[Iv (-1)], ⟨AV.le_refl _, trivial⟩, rfl, ?_⟩
    exact int_eq (k := .i64) (cmpN_lt (j := j - 1) (by omega) (by omega) (by rw [Nat.sub_add_cancel (by omega)]; exact hv) (by assumption))
   ·refine awp_skip (hK12 _ (awp_seq fun K15 hK15 => awp_regionD rfl (o_mv (.sl 1 (ns .i64 (digs m))) rfl (o_mv (Nv (j - 1)) rfl ?_))))
    refine n_index (digs m) (j - 1) gn f10_ rfl rfl (by omega) ?_
    refine n_loadI (digs m) (j - 1) gn f11_ rfl (by omega) ?_
    refine o_mv (.sl 1 (ns .i64 (digs n))) rfl (o_mv (Nv (j - 1)) rfl ?_)
    refine n_index (digs n) (j - 1) gn f10_ rfl rfl (by omega) ?_
    refine n_loadI (digs n) (j - 1) gn f11_ rfl (by omega) ?_
    refine n_gtr ((digs m).getD (j - 1) 0) ((digs n).getD (j - 1) 0) gn rfl rfl ?_
    refine aops_end ⟨by kernel_rfl, ?_⟩
    refine hK15 _ ?_
    refine awp_condQ (q := ((digs n).getD (j - 1) 0) < ((digs m).getD (j - 1) 0)) rfl (fun h5 => ?_) (fun h5 => ?_)
    ·refine awp_seq fun K16 hK16 => awp_region rfl (o_as (Nv 1) rfl (aops_end (hK16 _ ?_)))
     refine awp_ret ?_
     refine post_ret ⟨[Nv 1], ⟨AV.le_refl _, trivial⟩, rfl, ?_⟩
     exact int_eq (k := .i64) (cmpN_gt (j := j - 1) (by omega) (by omega) (by rw [Nat.sub_add_cancel (by omega)]; exact hv) (by assumption))
    ·refine awp_skip (hK11 _ (awp_region rfl (o_mv (Nv (j - 1)) rfl ?_)))
     refine o_sub (a := ((j - 1 : Nat) : Int)) (c := ((1 : Nat) : Int)) gn rfl rfl (by exact wrap64 (by omega) (by omega)) ?_
     refine o_as (Iv (((j - 1 : Nat) : Int) - ((1 : Nat) : Int))) rfl (aops_end ?_)
     refine ⟨_, _, ?lt, ⟨j - 1, (by omega), (by rw [val_drop_succ (xs := digs m) (j := j - 1) (by omega), val_drop_succ (xs := digs n) (j := j - 1) (by omega), Nat.sub_add_cancel (by omega), hv, show (digs m).getD (j - 1) 0 = (digs n).getD (j - 1) 0 by omega]), rfl, rfl⟩, ?wk⟩
     case lt => omega
     case wk => exact Wk.sub ⟨rfl, rfl, (by first | rfl | exact int_eq (by omega) | exact int_nm (by omega)), trivial⟩ trivial
  ·refine awp_exit ?_
   refine hK7 _ (awp_seq fun K17 hK17 => awp_region rfl (o_as (Nv 0) rfl (aops_end (hK17 _ ?_))))
   refine awp_ret ?_
   refine post_ret ⟨[Nv 0], ⟨AV.le_refl _, trivial⟩, rfl, ?_⟩
   have : j = 0 := by omega
   subst this
   exact int_eq (k := .i64) (cmpN_eq hv)

theorem c_wSize (m n : Nat) : ECalls cx 45 [.sl 1 (ns .u32 (digs m)), .sl 1 (ns .u32 (digs n))] (.lit (.int .i64 (cmpN m n))) := by
 refine ecalls_of_awp Tryz.func45 (c := _) rfl (Nat.le_of_ble_eq_true rfl) ?_
 show awp cx 45 _ (postF cx Tryz.f45 _) ⟨[(0, .sl 1 (ns .u32 (digs m))), (1, .sl 1 (ns .u32 (digs n)))], []⟩
 refine awp_bound (i := 0) rfl fun hb => ?_
 replace hb := n_bnd hb
 refine awp_bound (i := 1) rfl fun hb2 => ?_
 replace hb2 := n_bnd hb2
 refine awp_seq fun K0 hK0 => awp_region rfl (o_as (Nv 0) rfl (aops_end (hK0 _ (awp_seq fun K1 hK1 => awp_seq fun K2 hK2 => awp_region rfl (o_mv (.sl 1 (ns .u32 (digs m))) rfl ?_)))))
 refine n_len (digs m) gn f7_ rfl ?_
 refine o_mv (.sl 1 (ns .u32 (digs n))) rfl ?_
 refine n_len (digs n) gn f7_ rfl ?_
 refine n_neq ((digs m).length) ((digs n).length) gn rfl rfl ?_
 refine aops_end (hK2 _ ?_)
 refine awp_condQ (q := ((digs m).length) ≠ ((digs n).length)) rfl (fun h1 => ?_) (fun h1 => ?_)
 ·refine awp_seq fun K3 hK3 => awp_region rfl (o_mv (.sl 1 (ns .u32 (digs m))) rfl ?_)
  refine n_len (digs m) gn f7_ rfl ?_
  refine o_mv (.sl 1 (ns .u32 (digs n))) rfl ?_
  refine n_len (digs n) gn f7_ rfl ?_
  refine o_sub (a := (((digs m).length : Nat) : Int)) (c := (((digs n).length : Nat) : Int)) gn rfl rfl (by exact wrap64 (by omega) (by omega)) ?_
  refine o_max (a := (-1)) (c := (((digs m).length : Nat) : Int) - (((digs n).length : Nat) : Int)) gn rfl rfl (fun w => run_max _ _ w) ?_
  refine o_min (a := ((1 : Nat) : Int)) (c := max (-1) ((((digs m).length : Nat) : Int) - (((digs n).length : Nat) : Int))) gn rfl rfl (fun w => run_min _ _ w) ?_
  refine o_as (Iv (min ((1 : Nat) : Int) (max (-1) ((((digs m).length : Nat) : Int) - (((digs n).length : Nat) : Int))))) rfl (aops_end (hK3 _ ?_))
  refine awp_ret ?_
  refine post_ret ⟨[(Iv (min ((1 : Nat) : Int) (max (-1) ((((digs m).length : Nat) : Int) - (((digs n).length : Nat) : Int)))))], ⟨AV.le_refl _, trivial⟩, rfl, ?_⟩
  refine int_eq (k := .i64) ?_
  rw [cmpN_len h1]
  split <;> omega
 ·refine awp_skip (hK1 _ (awp_seq fun K4 hK4 => awp_seq fun K5 hK5 => awp_region rfl (o_mv (.sl 1 (ns .u32 (digs m))) rfl ?_)))
  refine n_len (digs m) gn f7_ rfl ?_
  refine o_sub (a := (((digs m).length : Nat) : Int)) (c := ((1 : Nat) : Int)) gn rfl rfl (by exact wrap64 (by omega) (by omega)) ?_
  refine o_as (Iv ((((digs m).length : Nat) : Int) - ((1 : Nat) : Int))) rfl (aops_end (hK5 _ ?_))
  refine awp_block ?_
  refine awp_loopR (fun κ σ => ∃ (j : Nat), (j ≤ (digs m).length) ∧ (val ((digs m).drop j) = val ((digs n).drop j)) ∧ j = κ ∧ σ = ⟨[(0, .sl 1 (ns .u32 (digs m))), (1, .sl 1 (ns .u32 (digs n))), (5, (Iv ((j : Int) - 1)))], []⟩) ⟨_, _, ⟨(digs m).length, Nat.le_refl _, (by rw [val_drop_all (Nat.le_refl _), val_drop_all (by omega)]), rfl, rfl⟩, ?wk0⟩ ?rd0
  case wk0 =>
   exact Wk.sub ⟨rfl, rfl, (by first | rfl | exact int_eq (by omega) | exact int_nm (by omega)), trivial⟩ trivial
  rintro κ _ ⟨j, hj, hv, rfl, rfl⟩
  refine awp_seq fun K6 hK6 => awp_seq fun K7 hK7 => awp_region rfl (o_mv (Iv ((j : Int) - 1)) rfl ?_)
  refine o_geq (a := ((j : Int) - 1)) (c := ((0 : Nat) : Int)) gn rfl rfl ?_
  refine aops_end (hK7 _ ?_)
  refine awp_condQ (q := ((0 : Nat) : Int) ≤ ((j : Int) - 1)) rfl (fun h2 => ?_) (fun h2 => ?_)
  ·refine awp_wk (Wk.slot (i := 5) (y := (Nv (j - 1))) (AV.le_eq (by exact nm_int (by omega)))) ?_
   refine awp_skip (hK6 _ (awp_seq fun K8 hK8 => ?_))
   refine awp_block ?_
   refine awp_block ?_
   refine awp_seq fun K9 hK9 => awp_regionD rfl (o_mv (.sl 1 (ns .u32 (digs m))) rfl (o_mv (Nv (j - 1)) rfl ?_))
   refine n_index (digs m) (j - 1) gn f16_ rfl rfl (by omega) ?_
   refine n_loadI (digs m) (j - 1) gn f17_ rfl (by omega) ?_
   refine o_mv (.sl 1 (ns .u32 (digs n))) rfl (o_mv (Nv (j - 1)) rfl ?_)
   refine n_index (digs n) (j - 1) gn f16_ rfl rfl (by omega) ?_
   refine n_loadI (digs n) (j - 1) gn f17_ rfl (by omega) ?_
   refine n_lss ((digs m).getD (j - 1) 0) ((digs n).getD (j - 1) 0) gn rfl rfl ?_
   refine o_as (bp (((digs m).getD (j - 1) 0) < ((digs n).getD (j - 1) 0))) rfl ?_
   refine aops_end ⟨by kernel_rfl, ?_⟩
   refine hK9 _ ?_
   refine awp_condQ (q := ((digs m).getD (j - 1) 0) < ((digs n).getD (j - 1) 0)) rfl (fun h3 => ?_) (fun h3 => ?_)
   ·refine awp_seq fun K10 hK10 => awp_region rfl (o_as (Iv (-1)) rfl (aops_end (hK10 _ ?_)))
    refine awp_ret ?_
    refine post_ret ⟨[Iv (-1)], ⟨AV.le_refl _, trivial⟩, rfl, ?_⟩
    exact int_eq (k := .i64) (cmpN_lt (j := j - 1) (by omega) (by omega) (by rw [Nat.sub_add_cancel (by omega)]; exact hv) (by assumption))
   ·refine awp_seq fun K11 hK11 => awp_regionD rfl (o_mv (.sl 1 (ns .u32 (digs m))) rfl (o_mv (Nv (j - 1)) rfl ?_))
    refine n_index (digs m) (j - 1) gn f16_ rfl rfl (by omega) ?_
    refine n_loadI (digs m) (j - 1) gn f17_ rfl (by omega) ?_
    refine o_mv (.sl 1 (ns .u32 (digs n))) rfl (o_mv (Nv (j - 1)) rfl ?_)
    refine n_index (digs n) (j - 1) gn f16_ rfl rfl (by omega) ?_
    refine n_loadI (digs n) (j - 1) gn f17_ rfl (by omega) ?_
    refine n_gtr ((digs m).getD (j - 1) 0) ((digs n).getD (j - 1) 0) gn rfl rfl ?_
    refine o_as (bp (((digs n).getD (j - 1) 0) < ((digs m).getD (j - 1) 0))) rfl ?_
    refine aops_end ⟨by kernel_rfl, ?_⟩
    refine hK11 _ ?_
    refine awp_condQ (q := ((digs n).getD (j - 1) 0) < ((digs m).getD (j - 1) 0)) rfl (fun h4 => ?_) (fun h4 => ?_)
    ·refine awp_seq fun K12 hK12 => awp_region rfl (o_as (Nv 1) rfl (aops_end (hK12 _ ?_)))
     refine awp_ret ?_
     refine post_ret ⟨[Nv 1], ⟨AV.le_refl _, trivial⟩, rfl, ?_⟩
     exact int_eq (k := .i64) (cmpN_gt (j := j - 1) (by omega) (by omega) (by rw [Nat.sub_add_cancel (by omega)]; exact hv) (by assumption))
    ·refine awp_skip (hK8 _ (awp_region rfl (o_mv (Nv (j - 1)) rfl ?_)))
     refine o_sub (a := ((j - 1 : Nat) : Int)) (c := ((1 : Nat) : Int)) gn rfl rfl (by exact wrap64 (by omega) (by omega)) ?_
     refine o_as (Iv (((j - 1 : Nat) : Int) - ((1 : Nat) : Int))) rfl (aops_end ?_)
     refine ⟨_, _, ?lt, ⟨j - 1, (by omega), (by rw [val_drop_succ (xs := digs m) (j := j - 1) (by omega), val_drop_succ (xs := digs n) (j := j - 1) (by omega), Nat.sub_add_cancel (by omega), hv, show (digs m).getD (j - 1) 0 = (digs n).getD (j - 1) 0 by omega]), rfl, rfl⟩, ?wk⟩
     case lt => omega
     case wk => exact Wk.sub ⟨rfl, rfl, (by first | rfl | exact int_eq (by omega) | exact int_nm (by omega)), trivial⟩ trivial
  ·refine awp_exit ?_
   refine hK4 _ (awp_seq fun K13 hK13 => awp_region rfl (o_as (Nv 0) rfl (aops_end (hK13 _ ?_))))
   refine awp_ret ?_
   refine post_ret ⟨[Nv 0], ⟨AV.le_refl _, trivial⟩, rfl, ?_⟩
   have : j = 0 := by omega
   subst this
   exact int_eq (k := .i64) (cmpN_eq hv)

theorem c_rCmp (x y : Int) : ECalls cx 35 [intR x, intR y] (.lit (.int .i64 (cmpZ x y))) := by
 refine ecalls_of_awp Tryz.func35 (c := _) rfl (Nat.le_of_ble_eq_true rfl) ?_
 show awp cx 27 _ (postF cx Tryz.f35 _) ⟨[(0, intR x), (1, intR y)], []⟩
 refine awp_seq fun K0 hK0 => awp_region rfl ?_
 refine o_box 2 [bp (x < 0), .sl 1 (ns .i64 (digs x.natAbs))] gn rfl rfl ?_
 refine o_box 3 [bp (y < 0), .sl 1 (ns .i64 (digs y.natAbs))] gn rfl rfl ?_
 refine o_as (Nv 0) rfl (aops_end (hK0 _ (awp_seq fun K1 hK1 => awp_seq fun K2 hK2 => awp_regionD rfl ?_)))
 refine o_loadA [bp (x < 0), .sl 1 (ns .i64 (digs x.natAbs))] gn f14_ rfl rfl rfl rfl rfl ?_
 refine o_ct (c_rSign x) gn f21_ rfl ?_
 refine o_loadA [bp (y < 0), .sl 1 (ns .i64 (digs y.natAbs))] gn f14_ rfl rfl rfl rfl rfl ?_
 refine o_ct (c_rSign y) gn f21_ rfl ?_
 refine o_neq (a := (sgn x)) (c := (sgn y)) gn rfl rfl ?_
 refine aops_end ⟨by kernel_rfl, ?_⟩
 refine hK2 _ ?_
 refine awp_condQ (q := (sgn x) ≠ (sgn y)) rfl (fun h1 => ?_) (fun h1 => ?_)
 ·refine awp_seq fun K3 hK3 => awp_seq fun K4 hK4 => awp_regionD rfl ?_
  refine o_loadA [bp (x < 0), .sl 1 (ns .i64 (digs x.natAbs))] gn f14_ rfl rfl rfl rfl rfl ?_
  refine o_ct (c_rSign x) gn f21_ rfl ?_
  refine o_loadA [bp (y < 0), .sl 1 (ns .i64 (digs y.natAbs))] gn f14_ rfl rfl rfl rfl rfl ?_
  refine o_ct (c_rSign y) gn f21_ rfl ?_
  refine o_lss (a := (sgn x)) (c := (sgn y)) gn rfl rfl ?_
  refine aops_end ⟨by kernel_rfl, ?_⟩
  refine hK4 _ ?_
  refine awp_condQ (q := (sgn x) < (sgn y)) rfl (fun h2 => ?_) (fun h2 => ?_)
  ·refine awp_seq fun K5 hK5 => awp_region rfl (o_as (Iv (-1)) rfl (aops_end (hK5 _ ?_)))
   refine awp_ret ?_
   refine post_ret ⟨[Iv (-1)], ⟨AV.le_refl _, trivial⟩, rfl, ?_⟩
   exact int_eq (k := .i64) (cmpZ_sgn_lt h2)
  ·refine awp_skip (hK3 _ (awp_seq fun K6 hK6 => awp_region rfl (o_as (Nv 1) rfl (aops_end (hK6 _ ?_)))))
   refine awp_ret ?_
   refine post_ret ⟨[Nv 1], ⟨AV.le_refl _, trivial⟩, rfl, ?_⟩
   exact int_eq (k := .i64) (cmpZ_sgn_gt h1 h2)
 ·refine awp_skip (hK1 _ (awp_seq fun K7 hK7 => awp_seq fun K8 hK8 => awp_region rfl ?_))
  refine o_fieldRef 0 gn f3_ rfl rfl ?_
  refine o_loadS (bp (x < 0)) gn f4_ rfl rfl rfl ?_
  refine aops_end (hK8 _ ?_)
  refine awp_condQ (q := x < 0) rfl (fun h3 => ?_) (fun h3 => ?_)
  ·refine awp_seq fun K9 hK9 => awp_region rfl ?_
   refine o_fieldRef 1 gn f0_ rfl rfl ?_
   refine o_loadS (.sl 1 (ns .i64 (digs y.natAbs))) gn f1_ rfl rfl rfl ?_
   refine o_fieldRef 1 gn f0_ rfl rfl ?_
   refine o_loadS (.sl 1 (ns .i64 (digs x.natAbs))) gn f1_ rfl rfl rfl ?_
   refine o_ct (c_rSize (y.natAbs) (x.natAbs)) gn f22_ rfl ?_
   refine o_as (Iv (cmpN (y.natAbs) (x.natAbs))) rfl (aops_end (hK9 _ ?_))
   refine awp_ret ?_
   refine post_ret ⟨[Iv (cmpN (y.natAbs) (x.natAbs))], ⟨AV.le_refl _, trivial⟩, rfl, ?_⟩
   exact int_eq (k := .i64) (cmpZ_neg h3 (Decidable.not_not.1 h1))
  ·refine awp_skip (hK7 _ (awp_seq fun K10 hK10 => awp_region rfl ?_))
   refine o_fieldRef 1 gn f0_ rfl rfl ?_
   refine o_loadS (.sl 1 (ns .i64 (digs x.natAbs))) gn f1_ rfl rfl rfl ?_
   refine o_fieldRef 1 gn f0_ rfl rfl ?_
   refine o_loadS (.sl 1 (ns .i64 (digs y.natAbs))) gn f1_ rfl rfl rfl ?_
   refine o_ct (c_rSize (x.natAbs) (y.natAbs)) gn f22_ rfl ?_
   refine o_as (Iv (cmpN (x.natAbs) (y.natAbs))) rfl (aops_end (hK10 _ ?_))
   refine awp_ret ?_
   refine post_ret ⟨[Iv (cmpN (x.natAbs) (y.natAbs))], ⟨AV.le_refl _, trivial⟩, rfl, ?_⟩
   exact int_eq (k := .i64) (cmpZ_pos h3 (Decidable.not_not.1 h1))

theorem c_wCmp (x y : Int) : ECalls cx 17 [intW x, intW y] (.lit (.int .i64 (cmpZ x y))) := by
 refine ecalls_of_awp Tryz.func17 (c := _) rfl (Nat.le_of_ble_eq_true rfl) ?_
 show awp cx 31 _ (postF cx Tryz.f17 _) ⟨[(0, intW x), (1, intW y)], []⟩
 have hx := sgn_lo x
 have hy := sgn_lo y
 refine awp_seq fun K0 hK0 => awp_region rfl ?_
 refine o_box 2 [bp (x < 0), .sl 1 (ns .u32 (digs x.natAbs))] gn rfl rfl ?_
 refine o_box 3 [bp (y < 0), .sl 1 (ns .u32 (digs y.natAbs))] gn rfl rfl ?_
 refine o_as (Nv 0) rfl (aops_end (hK0 _ (awp_seq fun K1 hK1 => ?_)))
 refine awp_block ?_
 refine awp_seq fun K2 hK2 => awp_regionD rfl ?_
 refine o_loadA [bp (x < 0), .sl 1 (ns .u32 (digs x.natAbs))] gn f20_ rfl rfl rfl rfl rfl ?_
 refine o_ct (c_wSign x) gn f23_ rfl ?_
 refine o_loadA [bp (y < 0), .sl 1 (ns .u32 (digs y.natAbs))] gn f20_ rfl rfl rfl rfl rfl ?_
 refine o_ct (c_wSign y) gn f23_ rfl ?_
 refine o_neq (a := (sgn x)) (c := (sgn y)) gn rfl rfl ?_
 refine o_as (bp ((sgn x) ≠ (sgn y))) rfl ?_
 refine aops_end ⟨by kernel_rfl, ?_⟩
 refine hK2 _ ?_
 refine awp_condQ (q := (sgn x) ≠ (sgn y)) rfl (fun h1 => ?_) (fun h1 => ?_)
 ·refine awp_seq fun K3 hK3 => awp_regionD rfl ?_
  refine o_loadA [bp (x < 0), .sl 1 (ns .u32 (digs x.natAbs))] gn f20_ rfl rfl rfl rfl rfl ?_
  refine o_ct (c_wSign x) gn f23_ rfl ?_
  refine o_loadA [bp (y < 0), .sl 1 (ns .u32 (digs y.natAbs))] gn f20_ rfl rfl rfl rfl rfl ?_
  refine o_ct (c_wSign y) gn f23_ rfl ?_
  refine o_sub (a := (sgn x)) (c := (sgn y)) gn rfl rfl (by exact wrap64 (by omega) (by omega)) ?_
  refine o_max (a := (-1)) (c := (sgn x) - (sgn y)) gn rfl rfl (fun w => run_max _ _ w) ?_
  refine o_min (a := ((1 : Nat) : Int)) (c := max (-1) ((sgn x) - (sgn y))) gn rfl rfl (fun w => run_min _ _ w) ?_
  refine o_as (Iv (min ((1 : Nat) : Int) (max (-1) ((sgn x) - (sgn y))))) rfl ?_
  refine aops_end ⟨by kernel_rfl, ?_⟩
  refine hK3 _ ?_
  refine awp_ret ?_
  refine post_ret ⟨[(Iv (min ((1 : Nat) : Int) (max (-1) ((sgn x) - (sgn y)))))], ⟨AV.le_refl _, trivial⟩, rfl, ?_⟩
  refine int_eq (k := .i64) ?_
  by_cases hh : sgn x < sgn y
  ·rw [cmpZ_sgn_lt hh]; omega
  ·rw [cmpZ_sgn_gt h1 hh]; omega
 ·refine awp_seq fun K4 hK4 => awp_region rfl ?_
  refine o_fieldRef 0 gn f8_ rfl rfl ?_
  refine o_loadS (bp (x < 0)) gn f4_ rfl rfl rfl ?_
  refine o_as (bp (x < 0)) rfl (aops_end (hK4 _ ?_))
  refine awp_condQ (q := x < 0) rfl (fun h2 => ?_) (fun h2 => ?_)
  ·refine awp_seq fun K5 hK5 => awp_region rfl ?_
   refine o_fieldRef 1 gn f5_ rfl rfl ?_
   refine o_loadS (.sl 1 (ns .u32 (digs y.natAbs))) gn f6_ rfl rfl rfl ?_
   refine o_fieldRef 1 gn f5_ rfl rfl ?_
   refine o_loadS (.sl 1 (ns .u32 (digs x.natAbs))) gn f6_ rfl rfl rfl ?_
   refine o_ct (c_wSize (y.natAbs) (x.natAbs)) gn f24_ rfl ?_
   refine o_as (Iv (cmpN (y.natAbs) (x.natAbs))) rfl (aops_end (hK5 _ ?_))
   refine awp_ret ?_
   refine post_ret ⟨[Iv (cmpN (y.natAbs) (x.natAbs))], ⟨AV.le_refl _, trivial⟩, rfl, ?_⟩
   exact int_eq (k := .i64) (cmpZ_neg h2 (Decidable.not_not.1 h1))
  ·refine awp_skip (hK1 _ (awp_seq fun K6 hK6 => awp_region rfl ?_))
   refine o_fieldRef 1 gn f5_ rfl rfl ?_
   refine o_loadS (.sl 1 (ns .u32 (digs x.natAbs))) gn f6_ rfl rfl rfl ?_
   refine o_fieldRef 1 gn f5_ rfl rfl ?_
   refine o_loadS (.sl 1 (ns .u32 (digs y.natAbs))) gn f6_ rfl rfl rfl ?_
   refine o_ct (c_wSize (x.natAbs) (y.natAbs)) gn f24_ rfl ?_
   refine o_as (Iv (cmpN (x.natAbs) (y.natAbs))) rfl (aops_end (hK6 _ ?_))
   refine awp_ret ?_
   refine post_ret ⟨[Iv (cmpN (x.natAbs) (y.natAbs))], ⟨AV.le_refl _, trivial⟩, rfl, ?_⟩
   exact int_eq (k := .i64) (cmpZ_pos h2 (Decidable.not_not.1 h1))

theorem c_rPart (xs : List Nat) (i : Nat) : ECalls cx 99 [.sl 1 (ns .i64 xs), Nv i] (Nv (xs.getD i 0)) := by
 refine ecalls_of_awp Tryz.func99 (c := _) rfl (Nat.le_of_ble_eq_true rfl) ?_
 show awp cx 13 _ (postF cx Tryz.f99 _) ⟨[(0, .sl 1 (ns .i64 xs)), (1, Nv i)], []⟩
 refine awp_seq fun K0 hK0 => awp_region rfl (o_as (Nv 0) rfl (aops_end (hK0 _ (awp_seq fun K1 hK1 => awp_seq fun K2 hK2 => awp_region rfl (o_mv (Nv i) rfl (o_mv (.sl 1 (ns .i64 xs)) rfl ?_))))))
 refine n_len xs gn f2_ rfl ?_
 refine n_lss i (xs.length) gn rfl rfl ?_
 refine aops_end (hK2 _ ?_)
 refine awp_condQ (q := i < (xs.length)) rfl (fun h1 => ?_) (fun h1 => ?_)
 ·refine awp_seq fun K3 hK3 => awp_region rfl (o_mv (.sl 1 (ns .i64 xs)) rfl (o_mv (Nv i) rfl ?_))
  refine n_index xs i gn f10_ rfl rfl (by omega) ?_
  refine n_loadI xs i gn f11_ rfl (by omega) ?_
  refine o_as (Nv (xs.getD i 0)) rfl (aops_end (hK3 _ ?_))
  refine awp_ret ?_
  refine post_ret ⟨[Nv (xs.getD i 0)], ⟨AV.le_refl _, trivial⟩, rfl, ?_⟩
  rfl
 ·refine awp_skip (hK1 _ (awp_seq fun K4 hK4 => awp_region rfl (o_as (Nv 0) rfl (aops_end (hK4 _ ?_)))))
  refine awp_ret ?_
  refine post_ret ⟨[Nv 0], ⟨AV.le_refl _, trivial⟩, rfl, ?_⟩
  exact congrArg (nm .i64) (getD_ge (by omega))

theorem c_rMore (m n : Nat) (hm : (digs m).length ≤ 1000000000) (hn : (digs n).length ≤ 1000000000) : ECalls cx 97 [.sl 1 (ns .i64 (digs m)), .sl 1 (ns .i64 (digs n))] (.sl 1 (ns .i64 (dgn (moreN m n) (m + n)))) := by
 refine ecalls_of_awp Tryz.func97 (c := _) rfl (Nat.le_of_ble_eq_true rfl) ?_
 show awp cx 42 _ (postF cx Tryz.f97 _) ⟨[(0, .sl 1 (ns .i64 (digs m))), (1, .sl 1 (ns .i64 (digs n)))], []⟩
 refine awp_bound (i := 0) rfl fun hb => ?_
 replace hb := n_bnd hb
 refine awp_bound (i := 1) rfl fun hb2 => ?_
 replace hb2 := n_bnd hb2
 refine awp_seq fun K0 hK0 => awp_region rfl (o_as Zv rfl (aops_end (hK0 _ (awp_seq fun K1 hK1 => awp_region rfl (o_as Zv rfl (aops_end (hK1 _ (awp_seq fun K2 hK2 => awp_region rfl ?_))))))))
 refine o_as (Nv 0) rfl (aops_end (hK2 _ (awp_seq fun K3 hK3 => awp_seq fun K4 hK4 => awp_region rfl (o_as (Nv 0) rfl (aops_end (hK4 _ ?_))))))
 refine awp_block ?_
 refine awp_loopR (fun κ σ => ∃ (i : Nat), ∃ (r : List Nat), ∃ (c : Nat), (r.length = i) ∧ (Dig r) ∧ (c ≤ 1) ∧ (val r + 1000000000 ^ i * c = val ((digs m).take i) + val ((digs n).take i)) ∧ (i ≤ max (digs m).length (digs n).length ∨ (i = max (digs m).length (digs n).length + 1 ∧ c = 0 ∧ 1000000000 ^ (max (digs m).length (digs n).length) ≤ m + n)) ∧ (max (digs m).length (digs n).length + 2 - i) = κ ∧ σ = ⟨[(0, .sl 1 (ns .i64 (digs m))), (1, .sl 1 (ns .i64 (digs n))), (5, .row 3), (6, Nv c), (7, Nv i)], [(3, .row 3 1 (ns .i64 r))]⟩) ⟨_, _, ⟨0, [], 0, rfl, Dig.nil, (by omega), (by simp [val]), (Or.inl (by omega)), rfl, rfl⟩, ?wk0⟩ ?rd0
 case wk0 =>
  exact Wk.trans (Wk.newNil (i := 5) (id := 502) (e := 3) (sz := 1) rfl rfl (by decide)) (Wk.trans (Wk.sub (σ' := ⟨[(0, .sl 1 (ns .i64 (digs m))), (1, .sl 1 (ns .i64 (digs n))), (5, .row 502), (6, Nv 0), (7, Nv 0)], [(502, .row 3 1 (ns .i64 ([])))]⟩) ⟨rfl, rfl, rfl, rfl, rfl, trivial⟩ ⟨rfl, trivial⟩) (Wk.trans (Wk.ren (id := 502) (id' := 3) rfl) (Wk.sub ⟨rfl, rfl, (by first | rfl | simp), (by first | rfl | exact nm_int (by omega)), (by first | rfl | exact nm_int (by omega)), trivial⟩ ⟨(by first | rfl | exact row_ns (by simp)), trivial⟩)))
 rintro κ _ ⟨i, r, c, hl, hd, hc, hv, hi, rfl, rfl⟩
 have hA := Dig.getD (digs_dig m) i
 have hB := Dig.getD (digs_dig n) i
 refine awp_seq fun K5 hK5 => awp_seq fun K6 hK6 => awp_region rfl (o_mv (Nv i) rfl (o_mv (.sl 1 (ns .i64 (digs m))) rfl ?_))
 refine n_len (digs m) gn f2_ rfl ?_
 refine n_lss i ((digs m).length) gn rfl rfl ?_
 refine o_mv (bp (i < ((digs m).length))) rfl ?_
 refine o_splitP (q := i < ((digs m).length)) 13 rfl (fun h1 => ?_) (fun h1 => ?_)
 ·refine o_skip rfl rfl (decide_eq_true h1) (o_skip rfl rfl (decide_eq_true h1) (o_skip rfl rfl (decide_eq_true h1) (o_skip rfl rfl (decide_eq_true h1) ?_)))
  refine o_pickT Tv gn rfl (decide_eq_true h1) rfl ?_
  refine o_mv Tv rfl (o_skip rfl rfl rfl (o_skip rfl rfl rfl ?_))
  refine o_pickT Tv gn rfl rfl rfl ?_
  refine aops_end (hK6 _ ?_)
  refine awp_condB (b := true) rfl (fun _ => ?_) (fun hh => absurd (hh.symm.trans rfl) (by decide))
  refine awp_skip (hK5 _ (awp_seq fun K7 hK7 => ?_))
  refine awp_block ?_
  refine awp_seq fun K8 hK8 => awp_region rfl (o_mv (.sl 1 (ns .i64 (digs m))) rfl (o_mv (Nv i) rfl ?_))
  refine o_ct (c_rPart (digs m) i) gn f25_ rfl ?_
  refine o_mv (.sl 1 (ns .i64 (digs n))) rfl (o_mv (Nv i) rfl ?_)
  refine o_ct (c_rPart (digs n) i) gn f25_ rfl ?_
  refine n_add ((digs m).getD i 0) ((digs n).getD i 0) gn rfl rfl (by simp only [topOf]; omega) ?_
  refine o_mv (Nv c) rfl ?_
  refine n_add (((digs m).getD i 0) + ((digs n).getD i 0)) c gn rfl rfl (by simp only [topOf]; omega) ?_
  refine o_as (Nv ((((digs m).getD i 0) + ((digs n).getD i 0)) + c)) rfl (aops_end (hK8 _ (awp_seq fun K9 hK9 => awp_region rfl (o_mv (.row 3) rfl (o_mv (Nv ((((digs m).getD i 0) + ((digs n).getD i 0)) + c)) rfl ?_)))))
  refine n_rem ((((digs m).getD i 0) + ((digs n).getD i 0)) + c) 1000000000 gn rfl rfl (by omega) ?_
  refine o_buildSlice 101 (ns .i64 ([((((digs m).getD i 0) + ((digs n).getD i 0)) + c) % 1000000000])) [(0, [Nv (((((digs m).getD i 0) + ((digs n).getD i 0)) + c) % 1000000000)])] gn f10_ rfl f26_ rfl rfl rfl rfl rfl rfl rfl ?_
  refine n_append 102 r ([((((digs m).getD i 0) + ((digs n).getD i 0)) + c) % 1000000000]) [(101, .row 3 1 (ns .i64 ([((((digs m).getD i 0) + ((digs n).getD i 0)) + c) % 1000000000])))] gn f10_ f26_ rfl rfl rfl rfl rfl (by simp only [List.length_append, List.length_cons, List.length_nil]; omega) (by decide) rfl rfl ?_
  refine o_as (.row 102) rfl (aops_end (hK9 _ (awp_region rfl (o_mv (Nv ((((digs m).getD i 0) + ((digs n).getD i 0)) + c)) rfl ?_))))
  refine n_quo ((((digs m).getD i 0) + ((digs n).getD i 0)) + c) 1000000000 gn rfl rfl (by omega) (by simp only [topOf]; omega) ?_
  refine o_as (Nv (((((digs m).getD i 0) + ((digs n).getD i 0)) + c) / 1000000000)) rfl (aops_end (hK7 _ (awp_region rfl (o_mv (Nv i) rfl ?_))))
  refine n_add i 1 gn rfl rfl (by simp only [topOf]; omega) ?_
  refine o_as (Nv (i + 1)) rfl (aops_end ?_)
  refine ⟨_, _, ?lt, ⟨i + 1, r ++ ([((((digs m).getD i 0) + ((digs n).getD i 0)) + c) % 1000000000]), ((((digs m).getD i 0) + ((digs n).getD i 0)) + c) / 1000000000, (by simp [hl]), (hd.snoc (Nat.mod_lt _ (by decide))), (by omega), add_step hl hv rfl, (more_hi hc hv hi (by omega)), rfl, rfl⟩, ?wk⟩
  case lt => omega
  case wk => exact Wk.trans (Wk.sub (σ' := ⟨[(0, .sl 1 (ns .i64 (digs m))), (1, .sl 1 (ns .i64 (digs n))), (5, .row 102), (6, Nv (((((digs m).getD i 0) + ((digs n).getD i 0)) + c) / 1000000000)), (7, Nv (i + 1))], [(102, .row 3 1 (ns .i64 (r ++ ([((((digs m).getD i 0) + ((digs n).getD i 0)) + c) % 1000000000]))))]⟩) ⟨rfl, rfl, rfl, rfl, rfl, trivial⟩ ⟨rfl, trivial⟩) (Wk.trans (Wk.ren (id := 102) (id' := 3) rfl) (Wk.sub ⟨rfl, rfl, (by first | rfl | simp), (by first | rfl | exact nm_int (by omega)), (by first | rfl | exact nm_int (by omega)), trivial⟩ ⟨(by first | rfl | exact row_ns (by simp)), trivial⟩))
 ·refine o_move (Nv i) (Gd.yes rfl rfl (decide_eq_false h1)) rfl (o_move (.sl 1 (ns .i64 (digs n))) (Gd.yes rfl rfl (decide_eq_false h1)) rfl ?_)
  refine n_len (digs n) (Gd.yes rfl rfl (decide_eq_false h1)) f2_ rfl ?_
  refine n_lss i ((digs n).length) (Gd.yes rfl rfl (decide_eq_false h1)) rfl rfl ?_
  refine o_pickF (bp (i < ((digs n).length))) gn rfl (decide_eq_false h1) rfl ?_
  refine o_mv (bp (i < ((digs n).length))) rfl ?_
  refine o_splitP (q := i < ((digs n).length)) 19 rfl (fun h2 => ?_) (fun h2 => ?_)
  ·refine o_skip rfl rfl (decide_eq_true h2) (o_skip rfl rfl (decide_eq_true h2) ?_)
   refine o_pickT Tv gn rfl (decide_eq_true h2) rfl ?_
   refine aops_end (hK6 _ ?_)
   refine awp_condB (b := true) rfl (fun _ => ?_) (fun hh => absurd (hh.symm.trans rfl) (by decide))
   refine awp_skip (hK5 _ (awp_seq fun K10 hK10 => ?_))
   refine awp_block ?_
   refine awp_seq fun K11 hK11 => awp_region rfl (o_mv (.sl 1 (ns .i64 (digs m))) rfl (o_mv (Nv i) rfl ?_))
   refine o_ct (c_rPart (digs m) i) gn f25_ rfl ?_
   refine o_mv (.sl 1 (ns .i64 (digs n))) rfl (o_mv (Nv i) rfl ?_)
   refine o_ct (c_rPart (digs n) i) gn f25_ rfl ?_
   refine n_add ((digs m).getD i 0) ((digs n).getD i 0) gn rfl rfl (by simp only [topOf]; omega) ?_
   refine o_mv (Nv c) rfl ?_
   refine n_add (((digs m).getD i 0) + ((digs n).getD i 0)) c gn rfl rfl (by simp only [topOf]; omega) ?_
   refine o_as (Nv ((((digs m).getD i 0) + ((digs n).getD i 0)) + c)) rfl (aops_end (hK11 _ (awp_seq fun K12 hK12 => awp_region rfl (o_mv (.row 3) rfl (o_mv (Nv ((((digs m).getD i 0) + ((digs n).getD i 0)) + c)) rfl ?_)))))
   refine n_rem ((((digs m).getD i 0) + ((digs n).getD i 0)) + c) 1000000000 gn rfl rfl (by omega) ?_
   refine o_buildSlice 101 (ns .i64 ([((((digs m).getD i 0) + ((digs n).getD i 0)) + c) % 1000000000])) [(0, [Nv (((((digs m).getD i 0) + ((digs n).getD i 0)) + c) % 1000000000)])] gn f10_ rfl f26_ rfl rfl rfl rfl rfl rfl rfl ?_
   refine n_append 102 r ([((((digs m).getD i 0) + ((digs n).getD i 0)) + c) % 1000000000]) [(101, .row 3 1 (ns .i64 ([((((digs m).getD i 0) + ((digs n).getD i 0)) + c) % 1000000000])))] gn f10_ f26_ rfl rfl rfl rfl rfl (by simp only [List.length_append, List.length_cons, List.length_nil]; omega) (by decide) rfl rfl ?_
   refine o_as (.row 102) rfl (aops_end (hK12 _ (awp_region rfl (o_mv (Nv ((((digs m).getD i 0) + ((digs n).getD i 0)) + c)) rfl ?_))))
   refine n_quo ((((digs m).getD i 0) + ((digs n).getD i 0)) + c) 1000000000 gn rfl rfl (by omega) (by simp only [topOf]; omega) ?_
   refine o_as (Nv (((((digs m).getD i 0) + ((digs n).getD i 0)) + c) / 1000000000)) rfl (aops_end (hK10 _ (awp_region rfl (o_mv (Nv i) rfl ?_))))
   refine n_add i 1 gn rfl rfl (by simp only [topOf]; omega) ?_
   refine o_as (Nv (i + 1)) rfl (aops_end ?_)
   refine ⟨_, _, ?lt, ⟨i + 1, r ++ ([((((digs m).getD i 0) + ((digs n).getD i 0)) + c) % 1000000000]), ((((digs m).getD i 0) + ((digs n).getD i 0)) + c) / 1000000000, (by simp [hl]), (hd.snoc (Nat.mod_lt _ (by decide))), (by omega), add_step hl hv rfl, (more_hi hc hv hi (by omega)), rfl, rfl⟩, ?wk⟩
   case lt => omega
   case wk => exact Wk.trans (Wk.sub (σ' := ⟨[(0, .sl 1 (ns .i64 (digs m))), (1, .sl 1 (ns .i64 (digs n))), (5, .row 102), (6, Nv (((((digs m).getD i 0) + ((digs n).getD i 0)) + c) / 1000000000)), (7, Nv (i + 1))], [(102, .row 3 1 (ns .i64 (r ++ ([((((digs m).getD i 0) + ((digs n).getD i 0)) + c) % 1000000000]))))]⟩) ⟨rfl, rfl, rfl, rfl, rfl, trivial⟩ ⟨rfl, trivial⟩) (Wk.trans (Wk.ren (id := 102) (id' := 3) rfl) (Wk.sub ⟨rfl, rfl, (by first | rfl | simp), (by first | rfl | exact nm_int (by omega)), (by first | rfl | exact nm_int (by omega)), trivial⟩ ⟨(by first | rfl | exact row_ns (by simp)), trivial⟩))
  ·refine o_move (Nv c) (Gd.yes rfl rfl (decide_eq_false h2)) rfl ?_
   refine n_gtr c 0 (Gd.yes rfl rfl (decide_eq_false h2)) rfl rfl ?_
   refine o_pickF (bp (0 < c)) gn rfl (decide_eq_false h2) rfl ?_
   refine aops_end (hK6 _ ?_)
   refine awp_condQ (q := 0 < c) rfl (fun h3 => ?_) (fun h3 => ?_)
   ·refine awp_skip (hK5 _ (awp_seq fun K13 hK13 => ?_))
    refine awp_block ?_
    refine awp_seq fun K14 hK14 => awp_region rfl (o_mv (.sl 1 (ns .i64 (digs m))) rfl (o_mv (Nv i) rfl ?_))
    refine o_ct (c_rPart (digs m) i) gn f25_ rfl ?_
    refine o_mv (.sl 1 (ns .i64 (digs n))) rfl (o_mv (Nv i) rfl ?_)
    refine o_ct (c_rPart (digs n) i) gn f25_ rfl ?_
    refine n_add ((digs m).getD i 0) ((digs n).getD i 0) gn rfl rfl (by simp only [topOf]; omega) ?_
    refine o_mv (Nv c) rfl ?_
    refine n_add (((digs m).getD i 0) + ((digs n).getD i 0)) c gn rfl rfl (by simp only [topOf]; omega) ?_
    refine o_as (Nv ((((digs m).getD i 0) + ((digs n).getD i 0)) + c)) rfl (aops_end (hK14 _ (awp_seq fun K15 hK15 => awp_region rfl (o_mv (.row 3) rfl (o_mv (Nv ((((digs m).getD i 0) + ((digs n).getD i 0)) + c)) rfl ?_)))))
    refine n_rem ((((digs m).getD i 0) + ((digs n).getD i 0)) + c) 1000000000 gn rfl rfl (by omega) ?_
    refine o_buildSlice 101 (ns .i64 ([((((digs m).getD i 0) + ((digs n).getD i 0)) + c) % 1000000000])) [(0, [Nv (((((digs m).getD i 0) + ((digs n).getD i 0)) + c) % 1000000000)])] gn f10_ rfl f26_ rfl rfl rfl rfl rfl rfl rfl ?_
    refine n_append 102 r ([((((digs m).getD i 0) + ((digs n).getD i 0)) + c) % 1000000000]) [(101, .row 3 1 (ns .i64 ([((((digs m).getD i 0) + ((digs n).getD i 0)) + c) % 1000000000])))] gn f10_ f26_ rfl rfl rfl rfl rfl (by simp only [List.length_append, List.length_cons, List.length_nil]; omega) (by decide) rfl rfl ?_
    refine o_as (.row 102) rfl (aops_end (hK15 _ (awp_region rfl (o_mv (Nv ((((digs m).getD i 0) + ((digs n).getD i 0)) + c)) rfl ?_))))
    refine n_quo ((((digs m).getD i 0) + ((digs n).getD i 0)) + c) 1000000000 gn rfl rfl (by omega) (by simp only [topOf]; omega) ?_
    refine o_as (Nv (((((digs m).getD i 0) + ((digs n).getD i 0)) + c) / 1000000000)) rfl (aops_end (hK13 _ (awp_region rfl (o_mv (Nv i) rfl ?_))))
    refine n_add i 1 gn rfl rfl (by simp only [topOf]; omega) ?_
    refine o_as (Nv (i + 1)) rfl (aops_end ?_)
    refine ⟨_, _, ?lt, ⟨i + 1, r ++ ([((((digs m).getD i 0) + ((digs n).getD i 0)) + c) % 1000000000]), ((((digs m).getD i 0) + ((digs n).getD i 0)) + c) / 1000000000, (by simp [hl]), (hd.snoc (Nat.mod_lt _ (by decide))), (by omega), add_step hl hv rfl, (more_hi hc hv hi (by omega)), rfl, rfl⟩, ?wk⟩
    case lt => omega
    case wk => exact Wk.trans (Wk.sub (σ' := ⟨[(0, .sl 1 (ns .i64 (digs m))), (1, .sl 1 (ns .i64 (digs n))), (5, .row 102), (6, Nv (((((digs m).getD i 0) + ((digs n).getD i 0)) + c) / 1000000000)), (7, Nv (i + 1))], [(102, .row 3 1 (ns .i64 (r ++ ([((((digs m).getD i 0) + ((digs n).getD i 0)) + c) % 1000000000]))))]⟩) ⟨rfl, rfl, rfl, rfl, rfl, trivial⟩ ⟨rfl, trivial⟩) (Wk.trans (Wk.ren (id := 102) (id' := 3) rfl) (Wk.sub ⟨rfl, rfl, (by first | rfl | simp), (by first | rfl | exact nm_int (by omega)), (by first | rfl | exact nm_int (by omega)), trivial⟩ ⟨(by first | rfl | exact row_ns (by simp)), trivial⟩))
   ·refine awp_exit ?_
    refine hK3 _ (awp_seq fun K16 hK16 => awp_region rfl (o_mv (.row 3) rfl (o_as (.row 3) rfl (aops_end (hK16 _ ?_)))))
    refine awp_wk (σ' := ⟨[(4, .row 3)], [(3, .row 3 1 (ns .i64 r))]⟩) (Wk.sub ⟨rfl, trivial⟩ ⟨rfl, trivial⟩) ?_
    refine awp_wk (σ' := ⟨[(4, .sl 1 (ns .i64 r))], []⟩) (Wk.freeze (id := 3) (e := 3) (sz := 1) (cs := (ns .i64 r)) rfl) ?_
    refine awp_ret ?_
    refine post_ret ⟨[.sl 1 (ns .i64 r)], ⟨AV.le_refl _, trivial⟩, rfl, ?_⟩
    have hc0 : c = 0 := by omega
    subst hc0
    exact ns_congr (more_fin hl hd (by omega) (by omega) hv (by rcases hi with h | ⟨h, _, h'⟩; exact Or.inl h; exact Or.inr ⟨h, h'⟩)).symm

theorem c_rLess (m n : Nat) (hnm : n ≤ m) (hm : (digs m).length ≤ 1000000000) (hn : (digs n).length ≤ 1000000000) : ECalls cx 98 [.sl 1 (ns .i64 (digs m)), .sl 1 (ns .i64 (digs n))] (.sl 1 (ns .i64 (dgn (digs m).length (m - n)))) := by
 refine ecalls_of_awp Tryz.func98 (c := _) rfl (Nat.le_of_ble_eq_true rfl) ?_
 show awp cx 34 _ (postF cx Tryz.f98 _) ⟨[(0, .sl 1 (ns .i64 (digs m))), (1, .sl 1 (ns .i64 (digs n)))], []⟩
 refine awp_bound (i := 0) rfl fun hb => ?_
 replace hb := n_bnd hb
 refine awp_bound (i := 1) rfl fun hb2 => ?_
 replace hb2 := n_bnd hb2
 refine awp_seq fun K0 hK0 => awp_region rfl (o_as Zv rfl (aops_end (hK0 _ (awp_seq fun K1 hK1 => awp_region rfl (o_as Zv rfl (aops_end (hK1 _ (awp_seq fun K2 hK2 => awp_region rfl ?_))))))))
 refine o_as (Nv 0) rfl (aops_end (hK2 _ (awp_seq fun K3 hK3 => awp_seq fun K4 hK4 => awp_region rfl (o_as (Nv 0) rfl (aops_end (hK4 _ ?_))))))
 refine awp_block ?_
 refine awp_loopR (fun κ σ => ∃ (i : Nat), ∃ (r : List Nat), ∃ (c : Nat), (r.length = i) ∧ (i ≤ (digs m).length) ∧ (Dig r) ∧ (c ≤ 1) ∧ (val r + val ((digs n).take i) = val ((digs m).take i) + 1000000000 ^ i * c) ∧ ((digs m).length - i) = κ ∧ σ = ⟨[(0, .sl 1 (ns .i64 (digs m))), (1, .sl 1 (ns .i64 (digs n))), (5, .row 3), (6, Nv c), (7, Nv i)], [(3, .row 3 1 (ns .i64 r))]⟩) ⟨_, _, ⟨0, [], 0, rfl, (by omega), Dig.nil, (by omega), (by simp [val]), rfl, rfl⟩, ?wk0⟩ ?rd0
 case wk0 =>
  exact Wk.trans (Wk.newNil (i := 5) (id := 502) (e := 3) (sz := 1) rfl rfl (by decide)) (Wk.trans (Wk.sub (σ' := ⟨[(0, .sl 1 (ns .i64 (digs m))), (1, .sl 1 (ns .i64 (digs n))), (5, .row 502), (6, Nv 0), (7, Nv 0)], [(502, .row 3 1 (ns .i64 ([])))]⟩) ⟨rfl, rfl, rfl, rfl, rfl, trivial⟩ ⟨rfl, trivial⟩) (Wk.trans (Wk.ren (id := 502) (id' := 3) rfl) (Wk.sub ⟨rfl, rfl, (by first | rfl | simp), (by first | rfl | exact nm_int (by omega)), (by first | rfl | exact nm_int (by omega)), trivial⟩ ⟨(by first | rfl | exact row_ns (by simp)), trivial⟩)))
 rintro κ _ ⟨i, r, c, hl, hi, hd, hc, hv, rfl, rfl⟩
 have hA := Dig.getD (digs_dig m) i
 have hB := Dig.getD (digs_dig n) i
 refine awp_seq fun K5 hK5 => awp_seq fun K6 hK6 => awp_region rfl (o_mv (Nv i) rfl (o_mv (.sl 1 (ns .i64 (digs m))) rfl ?_))
 refine n_len (digs m) gn f2_ rfl ?_
 refine n_lss i ((digs m).length) gn rfl rfl ?_
 refine aops_end (hK6 _ ?_)
 refine awp_condQ (q := i < ((digs m).length)) rfl (fun h1 => ?_) (fun h1 => ?_)
 ·refine awp_skip (hK5 _ (awp_seq fun K7 hK7 => ?_))
  refine awp_block ?_
  refine awp_seq fun K8 hK8 => awp_regionD rfl (o_mv (.sl 1 (ns .i64 (digs m))) rfl (o_mv (Nv i) rfl ?_))
  refine n_index (digs m) i gn f10_ rfl rfl (by omega) ?_
  refine n_loadI (digs m) i gn f11_ rfl (by omega) ?_
  refine o_mv (.sl 1 (ns .i64 (digs n))) rfl (o_mv (Nv i) rfl ?_)
  refine o_ct (c_rPart (digs n) i) gn f25_ rfl ?_
  refine o_sub (a := (((digs m).getD i 0 : Nat) : Int)) (c := (((digs n).getD i 0 : Nat) : Int)) gn rfl rfl (by exact wrap64 (by omega) (by omega)) ?_
  refine o_mv (Nv c) rfl ?_
  refine o_sub (a := ((((digs m).getD i 0 : Nat) : Int) - (((digs n).getD i 0 : Nat) : Int))) (c := ((c : Nat) : Int)) gn rfl rfl (by exact wrap64 (by omega) (by omega)) ?_
  refine o_as (Iv (((((digs m).getD i 0 : Nat) : Int) - (((digs n).getD i 0 : Nat) : Int)) - ((c : Nat) : Int))) rfl ?_
  refine aops_end ⟨by kernel_rfl, ?_⟩
  refine hK8 _ (awp_seq fun K9 hK9 => awp_region rfl (o_as (Nv 0) rfl (aops_end (hK9 _ ?_))))
  refine awp_seqJ (J := fun σ => ∃ (x : Nat), ∃ (c' : Nat), (x + ((digs n).getD i 0) + c = ((digs m).getD i 0) + 1000000000 * c') ∧ (x < 1000000000) ∧ (c' ≤ 1) ∧ True ∧ σ = ⟨[(0, .sl 1 (ns .i64 (digs m))), (1, .sl 1 (ns .i64 (digs n))), (5, .row 3), (6, Nv c'), (7, Nv i), (8, Nv x)], [(3, .row 3 1 (ns .i64 r))]⟩) ?ja1 ?jb1
  case ja1 =>
   refine awp_seq fun K10 hK10 => awp_region rfl (o_mv (Iv (((((digs m).getD i 0 : Nat) : Int) - (((digs n).getD i 0 : Nat) : Int)) - ((c : Nat) : Int))) rfl ?_)
   refine o_lss (a := (((((digs m).getD i 0 : Nat) : Int) - (((digs n).getD i 0 : Nat) : Int)) - ((c : Nat) : Int))) (c := ((0 : Nat) : Int)) gn rfl rfl ?_
   refine aops_end (hK10 _ ?_)
   refine awp_condQ (q := (((((digs m).getD i 0 : Nat) : Int) - (((digs n).getD i 0 : Nat) : Int)) - ((c : Nat) : Int)) < ((0 : Nat) : Int)) rfl (fun h2 => ?_) (fun h2 => ?_)
   ·refine awp_seq fun K11 hK11 => awp_region rfl (o_mv (Iv (((((digs m).getD i 0 : Nat) : Int) - (((digs n).getD i 0 : Nat) : Int)) - ((c : Nat) : Int))) rfl ?_)
    refine o_add (a := (((((digs m).getD i 0 : Nat) : Int) - (((digs n).getD i 0 : Nat) : Int)) - ((c : Nat) : Int))) (c := ((1000000000 : Nat) : Int)) gn rfl rfl (by exact wrap64 (by omega) (by omega)) ?_
    refine o_as (Iv ((((((digs m).getD i 0 : Nat) : Int) - (((digs n).getD i 0 : Nat) : Int)) - ((c : Nat) : Int)) + ((1000000000 : Nat) : Int))) rfl (aops_end (hK11 _ (awp_region rfl (o_as (Nv 1) rfl (aops_end ?_)))))
    exact ⟨_, ⟨((digs m).getD i 0) + 1000000000 - ((digs n).getD i 0) - c, 1, (by omega), (by omega), (by omega), trivial, rfl⟩, Wk.sub ⟨rfl, rfl, rfl, (by first | rfl | exact nm_int (by omega)), rfl, (by first | rfl | exact nm_int (by omega)), trivial⟩ ⟨rfl, trivial⟩⟩
   ·refine awp_skip ?_
    exact ⟨_, ⟨((digs m).getD i 0) - ((digs n).getD i 0) - c, 0, (by omega), (by omega), (by omega), trivial, rfl⟩, Wk.sub ⟨rfl, rfl, rfl, (by first | rfl | exact nm_int (by omega)), rfl, (by first | rfl | exact nm_int (by omega)), trivial⟩ ⟨rfl, trivial⟩⟩
  rintro _ ⟨x, c', hs, hx, hc', -, rfl⟩
  refine awp_region rfl (o_mv (.row 3) rfl (o_mv (Nv x) rfl ?_))
  refine o_buildSlice 201 (ns .i64 ([x])) [(0, [Nv x])] gn f10_ rfl f26_ rfl rfl rfl rfl rfl rfl rfl ?_
  refine n_append 202 r ([x]) [(201, .row 3 1 (ns .i64 ([x])))] gn f10_ f26_ rfl rfl rfl rfl rfl (by simp only [List.length_append, List.length_cons, List.length_nil]; omega) (by decide) rfl rfl ?_
  refine o_as (.row 202) rfl (aops_end (hK7 _ (awp_region rfl (o_mv (Nv i) rfl ?_))))
  refine n_add i 1 gn rfl rfl (by simp only [topOf]; omega) ?_
  refine o_as (Nv (i + 1)) rfl (aops_end ?_)
  refine ⟨_, _, ?lt, ⟨i + 1, r ++ ([x]), c', (by simp [hl]), (by omega), hd.snoc hx, hc', sub_step hl hv hs, rfl, rfl⟩, ?wk⟩
  case lt => omega
  case wk => exact Wk.trans (Wk.sub (σ' := ⟨[(0, .sl 1 (ns .i64 (digs m))), (1, .sl 1 (ns .i64 (digs n))), (5, .row 202), (6, Nv c'), (7, Nv (i + 1))], [(202, .row 3 1 (ns .i64 (r ++ ([x]))))]⟩) ⟨rfl, rfl, rfl, rfl, rfl, trivial⟩ ⟨rfl, trivial⟩) (Wk.trans (Wk.ren (id := 202) (id' := 3) rfl) (Wk.sub ⟨rfl, rfl, (by first | rfl | simp), (by first | rfl | exact nm_int (by omega)), (by first | rfl | exact nm_int (by omega)), trivial⟩ ⟨(by first | rfl | exact row_ns (by simp)), trivial⟩))
 ·refine awp_exit ?_
  refine hK3 _ (awp_seq fun K12 hK12 => awp_region rfl (o_mv (.row 3) rfl (o_as (.row 3) rfl (aops_end (hK12 _ ?_)))))
  refine awp_wk (σ' := ⟨[(4, .row 3)], [(3, .row 3 1 (ns .i64 r))]⟩) (Wk.sub ⟨rfl, trivial⟩ ⟨rfl, trivial⟩) ?_
  refine awp_wk (σ' := ⟨[(4, .sl 1 (ns .i64 r))], []⟩) (Wk.freeze (id := 3) (e := 3) (sz := 1) (cs := (ns .i64 r)) rfl) ?_
  refine awp_ret ?_
  refine post_ret ⟨[.sl 1 (ns .i64 r)], ⟨AV.le_refl _, trivial⟩, rfl, ?_⟩
  have hil : i = (digs m).length := by omega
  subst hil
  exact ns_congr (less_fin hl hd hnm hv).symm

theorem c_wPlus (m n : Nat) (hm : (digs m).length ≤ 1000000000) (hn : (digs n).length ≤ 1000000000) : ECalls cx 53 [.sl 1 (ns .u32 (digs m)), .sl 1 (ns .u32 (digs n))] (.sl 1 (ns .u32 (dgn (max (digs m).length (digs n).length + 1) (m + n)))) := by
 refine ecalls_of_awp Tryz.func53 (c := _) rfl (Nat.le_of_ble_eq_true rfl) ?_
 show awp cx 53 _ (postF cx Tryz.f53 _) ⟨[(0, .sl 1 (ns .u32 (digs m))), (1, .sl 1 (ns .u32 (digs n)))], []⟩
 refine awp_bound (i := 0) rfl fun hb => ?_
 replace hb := n_bnd hb
 refine awp_bound (i := 1) rfl fun hb2 => ?_
 replace hb2 := n_bnd hb2
 refine awp_seq fun K0 hK0 => awp_region rfl (o_as Zv rfl (aops_end (hK0 _ ?_)))
 refine awp_seqJ (J := fun σ => ∃ (m' : Nat), ∃ (n' : Nat), (m' + n' = m + n) ∧ ((digs n').length ≤ (digs m').length) ∧ ((digs m').length = max (digs m).length (digs n).length) ∧ True ∧ σ = ⟨[(0, .sl 1 (ns .u32 (digs m'))), (1, .sl 1 (ns .u32 (digs n')))], []⟩) ?ja0 ?jb0
 case ja0 =>
  refine awp_seq fun K1 hK1 => awp_region rfl (o_mv (.sl 1 (ns .u32 (digs m))) rfl ?_)
  refine n_len (digs m) gn f7_ rfl ?_
  refine o_mv (.sl 1 (ns .u32 (digs n))) rfl ?_
  refine n_len (digs n) gn f7_ rfl ?_
  refine n_lss ((digs m).length) ((digs n).length) gn rfl rfl ?_
  refine aops_end (hK1 _ ?_)
  refine awp_condQ (q := ((digs m).length) < ((digs n).length)) rfl (fun h1 => ?_) (fun h1 => ?_)
  ·refine awp_region rfl (o_mv (.sl 1 (ns .u32 (digs n))) rfl (o_mv (.sl 1 (ns .u32 (digs m))) rfl (o_as (.sl 1 (ns .u32 (digs n))) rfl (o_as (.sl 1 (ns .u32 (digs m))) rfl (aops_end ?_)))))
   exact ⟨_, ⟨n, m, (by omega), (by omega), (by omega), trivial, rfl⟩, Wk.sub ⟨(by first | rfl | simp), (by first | rfl | simp), trivial⟩ trivial⟩
  ·refine awp_skip ?_
   exact ⟨_, ⟨m, n, (by omega), (by omega), (by omega), trivial, rfl⟩, Wk.sub ⟨(by first | rfl | simp), (by first | rfl | simp), trivial⟩ trivial⟩
 rintro _ ⟨m', n', hs, hle, hmx, -, rfl⟩
 refine awp_seq fun K2 hK2 => awp_region rfl (o_mv (.sl 1 (ns .u32 (digs m'))) rfl ?_)
 refine n_len (digs m') gn f7_ rfl ?_
 refine n_add ((digs m').length) 1 gn rfl rfl (by simp only [topOf]; omega) ?_
 refine n_make0 .u32 101 (((digs m').length) + 1) gn f16_ f27_ rfl rfl (by omega) (by omega) rfl ?_
 refine o_as (.row 101) rfl (aops_end (hK2 _ (awp_seq fun K3 hK3 => awp_region rfl (o_as (nm .u32 0) rfl (aops_end (hK3 _ (awp_seq fun K4 hK4 => awp_seq fun K5 hK5 => awp_region rfl (o_mv (.sl 1 (ns .u32 (digs m'))) rfl ?_))))))))
 refine n_len (digs m') gn f7_ rfl ?_
 refine o_mv (Nv 0) rfl (aops_end (hK5 _ ?_))
 refine awp_block ?_
 refine awp_loopR (fun κ σ => ∃ (i : Nat), ∃ (r : List Nat), ∃ (c : Nat), (r.length = i) ∧ (i ≤ (digs m').length) ∧ (Dig r) ∧ (c ≤ 1) ∧ (val r + 1000000000 ^ i * c = val ((digs m').take i) + val ((digs n').take i)) ∧ ((digs m').length - i) = κ ∧ σ = ⟨[(0, .sl 1 (ns .u32 (digs m'))), (1, .sl 1 (ns .u32 (digs n'))), (5, .row 3), (6, nm .u32 c), (21, Nv ((digs m').length)), (22, Nv i)], [(3, .row 93 1 (ns .u32 r))]⟩) ⟨_, _, ⟨0, [], 0, rfl, (by omega), Dig.nil, (by omega), (by simp [val]), rfl, rfl⟩, ?wk1⟩ ?rd1
 case wk1 =>
  exact Wk.trans (Wk.sub (σ' := ⟨[(0, .sl 1 (ns .u32 (digs m'))), (1, .sl 1 (ns .u32 (digs n'))), (5, .row 101), (6, nm .u32 0), (21, Nv ((digs m').length)), (22, Nv 0)], [(101, .row 93 1 (ns .u32 ([])))]⟩) ⟨rfl, rfl, rfl, rfl, rfl, rfl, trivial⟩ ⟨rfl, trivial⟩) (Wk.trans (Wk.ren (id := 101) (id' := 3) rfl) (Wk.sub ⟨rfl, rfl, (by first | rfl | simp), (by first | rfl | exact nm_int (by omega)), rfl, (by first | rfl | exact nm_int (by omega)), trivial⟩ ⟨(by first | rfl | exact row_ns (by simp)), trivial⟩))
 rintro κ _ ⟨i, r, c, hl, hi, hd, hc, hv, rfl, rfl⟩
 have hA := Dig.getD (digs_dig m') i
 have hB := Dig.getD (digs_dig n') i
 refine awp_seq fun K6 hK6 => awp_region rfl ?_
 refine n_lss i ((digs m').length) gn rfl rfl ?_
 refine aops_end (hK6 _ (awp_seq fun K7 hK7 => ?_))
 refine awp_condQ (q := i < ((digs m').length)) rfl (fun h2 => ?_) (fun h2 => ?_)
 ·refine awp_skip (hK7 _ (awp_seq fun K8 hK8 => ?_))
  refine awp_block ?_
  refine awp_seq fun K9 hK9 => awp_region rfl (o_mv (Nv i) rfl (o_as (Nv i) rfl (aops_end (hK9 _ (awp_seq fun K10 hK10 => awp_region rfl (o_mv (.sl 1 (ns .u32 (digs m'))) rfl (o_mv (Nv i) rfl ?_)))))))
  refine n_index (digs m') i gn f16_ rfl rfl (by omega) ?_
  refine n_loadI (digs m') i gn f17_ rfl (by omega) ?_
  refine o_mv (nm .u32 c) rfl ?_
  refine n_add ((digs m').getD i 0) c gn rfl rfl (by simp only [topOf]; omega) ?_
  refine o_as (nm .u32 (((digs m').getD i 0) + c)) rfl (aops_end (hK10 _ (awp_seq fun K11 hK11 => awp_seq fun K12 hK12 => awp_region rfl (o_mv (Nv i) rfl (o_mv (.sl 1 (ns .u32 (digs n'))) rfl ?_)))))
  refine n_len (digs n') gn f7_ rfl ?_
  refine n_lss i ((digs n').length) gn rfl rfl ?_
  refine aops_end (hK12 _ ?_)
  refine awp_condQ (q := i < ((digs n').length)) rfl (fun h3 => ?_) (fun h3 => ?_)
  ·refine awp_region rfl (o_mv (nm .u32 (((digs m').getD i 0) + c)) rfl (o_mv (.sl 1 (ns .u32 (digs n'))) rfl (o_mv (Nv i) rfl ?_)))
   refine n_index (digs n') i gn f16_ rfl rfl (by omega) ?_
   refine n_loadI (digs n') i gn f17_ rfl (by omega) ?_
   refine n_add (((digs m').getD i 0) + c) ((digs n').getD i 0) gn rfl rfl (by simp only [topOf]; omega) ?_
   refine o_as (nm .u32 ((((digs m').getD i 0) + c) + ((digs n').getD i 0))) rfl (aops_end (hK11 _ (awp_seq fun K13 hK13 => awp_region rfl (o_mv (nm .u32 ((((digs m').getD i 0) + c) + ((digs n').getD i 0))) rfl ?_))))
   refine n_quo ((((digs m').getD i 0) + c) + ((digs n').getD i 0)) 1000000000 gn rfl rfl (by omega) (by simp only [topOf]; omega) ?_
   refine o_as (nm .u32 (((((digs m').getD i 0) + c) + ((digs n').getD i 0)) / 1000000000)) rfl (aops_end (hK13 _ (awp_region rfl (o_mv (.row 3) rfl (o_mv (nm .u32 ((((digs m').getD i 0) + c) + ((digs n').getD i 0))) rfl ?_)))))
   refine n_rem ((((digs m').getD i 0) + c) + ((digs n').getD i 0)) 1000000000 gn rfl rfl (by omega) ?_
   refine o_buildSlice 201 (ns .u32 ([((((digs m').getD i 0) + c) + ((digs n').getD i 0)) % 1000000000])) [(0, [nm .u32 (((((digs m').getD i 0) + c) + ((digs n').getD i 0)) % 1000000000)])] gn f16_ rfl f27_ rfl rfl rfl rfl rfl rfl rfl ?_
   refine n_append 202 r ([((((digs m').getD i 0) + c) + ((digs n').getD i 0)) % 1000000000]) [(201, .row 93 1 (ns .u32 ([((((digs m').getD i 0) + c) + ((digs n').getD i 0)) % 1000000000])))] gn f16_ f27_ rfl rfl rfl rfl rfl (by simp only [List.length_append, List.length_cons, List.length_nil]; omega) (by decide) rfl rfl ?_
   refine o_as (.row 202) rfl (aops_end (hK8 _ (awp_region rfl ?_)))
   refine n_add i 1 gn rfl rfl (by simp only [topOf]; omega) ?_
   refine o_mv (Nv (i + 1)) rfl (aops_end ?_)
   refine ⟨_, _, ?lt, ⟨i + 1, r ++ ([((((digs m').getD i 0) + c) + ((digs n').getD i 0)) % 1000000000]), ((((digs m').getD i 0) + c) + ((digs n').getD i 0)) / 1000000000, (by simp [hl]), (by omega), (hd.snoc (Nat.mod_lt _ (by decide))), (by omega), (add_step hl hv (by omega)), rfl, rfl⟩, ?wk⟩
   case lt => omega
   case wk => exact Wk.trans (Wk.sub (σ' := ⟨[(0, .sl 1 (ns .u32 (digs m'))), (1, .sl 1 (ns .u32 (digs n'))), (5, .row 202), (6, nm .u32 (((((digs m').getD i 0) + c) + ((digs n').getD i 0)) / 1000000000)), (21, Nv ((digs m').length)), (22, Nv (i + 1))], [(202, .row 93 1 (ns .u32 (r ++ ([((((digs m').getD i 0) + c) + ((digs n').getD i 0)) % 1000000000]))))]⟩) ⟨rfl, rfl, rfl, rfl, rfl, rfl, trivial⟩ ⟨rfl, trivial⟩) (Wk.trans (Wk.ren (id := 202) (id' := 3) rfl) (Wk.sub ⟨rfl, rfl, (by first | rfl | simp), (by first | rfl | exact nm_int (by omega)), rfl, (by first | rfl | exact nm_int (by omega)), trivial⟩ ⟨(by first | rfl | exact row_ns (by simp)), trivial⟩))
  ·refine awp_skip (hK11 _ (awp_seq fun K14 hK14 => awp_region rfl (o_mv (nm .u32 (((digs m').getD i 0) + c)) rfl ?_)))
   refine n_quo (((digs m').getD i 0) + c) 1000000000 gn rfl rfl (by omega) (by simp only [topOf]; omega) ?_
   refine o_as (nm .u32 ((((digs m').getD i 0) + c) / 1000000000)) rfl (aops_end (hK14 _ (awp_region rfl (o_mv (.row 3) rfl (o_mv (nm .u32 (((digs m').getD i 0) + c)) rfl ?_)))))
   refine n_rem (((digs m').getD i 0) + c) 1000000000 gn rfl rfl (by omega) ?_
   refine o_buildSlice 201 (ns .u32 ([(((digs m').getD i 0) + c) % 1000000000])) [(0, [nm .u32 ((((digs m').getD i 0) + c) % 1000000000)])] gn f16_ rfl f27_ rfl rfl rfl rfl rfl rfl rfl ?_
   refine n_append 202 r ([(((digs m').getD i 0) + c) % 1000000000]) [(201, .row 93 1 (ns .u32 ([(((digs m').getD i 0) + c) % 1000000000])))] gn f16_ f27_ rfl rfl rfl rfl rfl (by simp only [List.length_append, List.length_cons, List.length_nil]; omega) (by decide) rfl rfl ?_
   refine o_as (.row 202) rfl (aops_end (hK8 _ (awp_region rfl ?_)))
   refine n_add i 1 gn rfl rfl (by simp only [topOf]; omega) ?_
   refine o_mv (Nv (i + 1)) rfl (aops_end ?_)
   refine ⟨_, _, ?lt, ⟨i + 1, r ++ ([(((digs m').getD i 0) + c) % 1000000000]), (((digs m').getD i 0) + c) / 1000000000, (by simp [hl]), (by omega), (hd.snoc (Nat.mod_lt _ (by decide))), (by omega), (add_step hl hv (by rw [getD_ge (xs := digs n') (by omega)]; omega)), rfl, rfl⟩, ?wk⟩
   case lt => omega
   case wk => exact Wk.trans (Wk.sub (σ' := ⟨[(0, .sl 1 (ns .u32 (digs m'))), (1, .sl 1 (ns .u32 (digs n'))), (5, .row 202), (6, nm .u32 ((((digs m').getD i 0) + c) / 1000000000)), (21, Nv ((digs m').length)), (22, Nv (i + 1))], [(202, .row 93 1 (ns .u32 (r ++ ([(((digs m').getD i 0) + c) % 1000000000]))))]⟩) ⟨rfl, rfl, rfl, rfl, rfl, rfl, trivial⟩ ⟨rfl, trivial⟩) (Wk.trans (Wk.ren (id := 202) (id' := 3) rfl) (Wk.sub ⟨rfl, rfl, (by first | rfl | simp), (by first | rfl | exact nm_int (by omega)), rfl, (by first | rfl | exact nm_int (by omega)), trivial⟩ ⟨(by first | rfl | exact row_ns (by simp)), trivial⟩))
 ·refine awp_exit ?_
  refine hK4 _ (awp_seq fun K15 hK15 => awp_region rfl (o_mv (.row 3) rfl (o_mv (nm .u32 c) rfl ?_)))
  refine o_buildSlice 201 (ns .u32 ([c])) [(0, [nm .u32 c])] gn f16_ rfl f27_ rfl rfl rfl rfl rfl rfl rfl ?_
  refine n_append 202 r ([c]) [(201, .row 93 1 (ns .u32 ([c])))] gn f16_ f27_ rfl rfl rfl rfl rfl (by simp only [List.length_append, List.length_cons, List.length_nil]; omega) (by decide) rfl rfl ?_
  refine o_as (.row 202) rfl (aops_end (hK15 _ ?_))
  refine awp_wk (σ' := ⟨[(4, .row 202)], [(202, .row 93 1 (ns .u32 (r ++ ([c]))))]⟩) (Wk.sub ⟨rfl, trivial⟩ ⟨rfl, trivial⟩) ?_
  refine awp_wk (σ' := ⟨[(4, .sl 1 (ns .u32 (r ++ ([c]))))], []⟩) (Wk.freeze (id := 202) (e := 93) (sz := 1) (cs := (ns .u32 (r ++ ([c])))) rfl) ?_
  refine awp_ret ?_
  refine post_ret ⟨[.sl 1 (ns .u32 (r ++ ([c])))], ⟨AV.le_refl _, trivial⟩, rfl, ?_⟩
  have hil : i = (digs m').length := by omega
  subst hil
  rw [val_take_all (xs := digs m') (Nat.le_refl _), val_take_all (xs := digs n') hle, val_digs, val_digs] at hv
  exact ns_congr (dgn_eq (hd.snoc (by omega)) (by simp; omega) (by rw [val_snoc, hl]; omega)).symm

theorem c_wLess (m n : Nat) (hnm : n ≤ m) (hm : (digs m).length ≤ 1000000000) (hn : (digs n).length ≤ 1000000000) : ECalls cx 54 [.sl 1 (ns .u32 (digs m)), .sl 1 (ns .u32 (digs n))] (.sl 1 (ns .u32 (dgn (digs m).length (m - n)))) := by
 refine ecalls_of_awp Tryz.func54 (c := _) rfl (Nat.le_of_ble_eq_true rfl) ?_
 show awp cx 46 _ (postF cx Tryz.f54 _) ⟨[(0, .sl 1 (ns .u32 (digs m))), (1, .sl 1 (ns .u32 (digs n)))], []⟩
 refine awp_bound (i := 0) rfl fun hb => ?_
 replace hb := n_bnd hb
 refine awp_bound (i := 1) rfl fun hb2 => ?_
 replace hb2 := n_bnd hb2
 refine awp_seq fun K0 hK0 => awp_region rfl (o_as Zv rfl (aops_end (hK0 _ (awp_seq fun K1 hK1 => awp_region rfl (o_mv (.sl 1 (ns .u32 (digs m))) rfl ?_)))))
 refine n_len (digs m) gn f7_ rfl ?_
 refine n_make0 .u32 2 ((digs m).length) gn f16_ f27_ rfl rfl (by omega) (by omega) rfl ?_
 refine o_as (.row 2) rfl (aops_end (hK1 _ (awp_seq fun K2 hK2 => awp_region rfl (o_as (Nv 0) rfl (aops_end (hK2 _ (awp_seq fun K3 hK3 => awp_seq fun K4 hK4 => awp_region rfl (o_mv (.sl 1 (ns .u32 (digs m))) rfl ?_))))))))
 refine n_len (digs m) gn f7_ rfl ?_
 refine o_mv (Nv 0) rfl (aops_end (hK4 _ ?_))
 refine awp_block ?_
 refine awp_loopR (fun κ σ => ∃ (i : Nat), ∃ (r : List Nat), ∃ (c : Nat), (r.length = i) ∧ (i ≤ (digs m).length) ∧ (Dig r) ∧ (c ≤ 1) ∧ (val r + val ((digs n).take i) = val ((digs m).take i) + 1000000000 ^ i * c) ∧ ((digs m).length - i) = κ ∧ σ = ⟨[(0, .sl 1 (ns .u32 (digs m))), (1, .sl 1 (ns .u32 (digs n))), (5, .row 3), (6, Nv c), (13, Nv ((digs m).length)), (14, Nv i)], [(3, .row 93 1 (ns .u32 r))]⟩) ⟨_, _, ⟨0, [], 0, rfl, (by omega), Dig.nil, (by omega), (by simp [val]), rfl, rfl⟩, ?wk0⟩ ?rd0
 case wk0 =>
  exact Wk.trans (Wk.sub (σ' := ⟨[(0, .sl 1 (ns .u32 (digs m))), (1, .sl 1 (ns .u32 (digs n))), (5, .row 2), (6, Nv 0), (13, Nv ((digs m).length)), (14, Nv 0)], [(2, .row 93 1 (ns .u32 ([])))]⟩) ⟨rfl, rfl, rfl, rfl, rfl, rfl, trivial⟩ ⟨rfl, trivial⟩) (Wk.trans (Wk.ren (id := 2) (id' := 3) rfl) (Wk.sub ⟨rfl, rfl, (by first | rfl | simp), (by first | rfl | exact nm_int (by omega)), rfl, (by first | rfl | exact nm_int (by omega)), trivial⟩ ⟨(by first | rfl | exact row_ns (by simp)), trivial⟩))
 rintro κ _ ⟨i, r, c, hl, hi, hd, hc, hv, rfl, rfl⟩
 have hA := Dig.getD (digs_dig m) i
 have hB := Dig.getD (digs_dig n) i
 refine awp_seq fun K5 hK5 => awp_region rfl ?_
 refine n_lss i ((digs m).length) gn rfl rfl ?_
 refine aops_end (hK5 _ (awp_seq fun K6 hK6 => ?_))
 refine awp_condQ (q := i < ((digs m).length)) rfl (fun h1 => ?_) (fun h1 => ?_)
 ·refine awp_skip (hK6 _ (awp_seq fun K7 hK7 => ?_))
  refine awp_block ?_
  refine awp_seq fun K8 hK8 => awp_region rfl (o_mv (Nv i) rfl (o_as (Nv i) rfl (aops_end (hK8 _ (awp_seq fun K9 hK9 => awp_region rfl (o_mv (.sl 1 (ns .u32 (digs m))) rfl (o_mv (Nv i) rfl ?_)))))))
  refine n_index (digs m) i gn f16_ rfl rfl (by omega) ?_
  refine n_loadI (digs m) i gn f17_ rfl (by omega) ?_
  refine n_conv ((digs m).getD i 0) gn rfl f28_ f29_ (by simp only [topOf]; omega) ?_
  refine o_mv (Nv c) rfl ?_
  refine o_sub (a := (((digs m).getD i 0 : Nat) : Int)) (c := ((c : Nat) : Int)) gn rfl rfl (by exact wrap64 (by omega) (by omega)) ?_
  refine o_as (Iv ((((digs m).getD i 0 : Nat) : Int) - ((c : Nat) : Int))) rfl (aops_end (hK9 _ ?_))
  refine awp_seqJ (J := fun σ => ∃ (y : Int), (y = (((digs m).getD i 0) : Int) - c - ((digs n).getD i 0)) ∧ True ∧ σ = ⟨[(0, .sl 1 (ns .u32 (digs m))), (1, .sl 1 (ns .u32 (digs n))), (5, .row 3), (7, Nv i), (8, Iv y), (13, Nv ((digs m).length)), (14, Nv i)], [(3, .row 93 1 (ns .u32 r))]⟩) ?ja1 ?jb1
  case ja1 =>
   refine awp_seq fun K10 hK10 => awp_region rfl (o_mv (Nv i) rfl (o_mv (.sl 1 (ns .u32 (digs n))) rfl ?_))
   refine n_len (digs n) gn f7_ rfl ?_
   refine n_lss i ((digs n).length) gn rfl rfl ?_
   refine aops_end (hK10 _ ?_)
   refine awp_condQ (q := i < ((digs n).length)) rfl (fun h2 => ?_) (fun h2 => ?_)
   ·refine awp_region rfl (o_mv (Iv ((((digs m).getD i 0 : Nat) : Int) - ((c : Nat) : Int))) rfl (o_mv (.sl 1 (ns .u32 (digs n))) rfl (o_mv (Nv i) rfl ?_)))
    refine n_index (digs n) i gn f16_ rfl rfl (by omega) ?_
    refine n_loadI (digs n) i gn f17_ rfl (by omega) ?_
    refine n_conv ((digs n).getD i 0) gn rfl f28_ f29_ (by simp only [topOf]; omega) ?_
    refine o_sub (a := ((((digs m).getD i 0 : Nat) : Int) - ((c : Nat) : Int))) (c := (((digs n).getD i 0 : Nat) : Int)) gn rfl rfl (by exact wrap64 (by omega) (by omega)) ?_
    refine o_as (Iv (((((digs m).getD i 0 : Nat) : Int) - ((c : Nat) : Int)) - (((digs n).getD i 0 : Nat) : Int))) rfl (aops_end ?_)
    exact ⟨_, ⟨((((digs m).getD i 0 : Nat) : Int) - ((c : Nat) : Int)) - (((digs n).getD i 0 : Nat) : Int), (by omega), trivial, rfl⟩, Wk.sub ⟨rfl, rfl, rfl, rfl, (by first | rfl | exact int_eq (by omega) | exact int_nm (by omega)), rfl, rfl, trivial⟩ ⟨rfl, trivial⟩⟩
   ·refine awp_skip ?_
    exact ⟨_, ⟨(((digs m).getD i 0 : Nat) : Int) - ((c : Nat) : Int), (by rw [getD_ge (xs := digs n) (by omega)]; omega), trivial, rfl⟩, Wk.sub ⟨rfl, rfl, rfl, rfl, (by first | rfl | exact int_eq (by omega) | exact int_nm (by omega)), rfl, rfl, trivial⟩ ⟨rfl, trivial⟩⟩
  rintro _ ⟨y, hy, -, rfl⟩
  refine awp_seq fun K11 hK11 => awp_region rfl (o_as (Nv 0) rfl (aops_end (hK11 _ ?_)))
  refine awp_seqJ (J := fun σ => ∃ (x : Nat), ∃ (c' : Nat), (x + ((digs n).getD i 0) + c = ((digs m).getD i 0) + 1000000000 * c') ∧ (x < 1000000000) ∧ (c' ≤ 1) ∧ True ∧ σ = ⟨[(0, .sl 1 (ns .u32 (digs m))), (1, .sl 1 (ns .u32 (digs n))), (5, .row 3), (6, Nv c'), (8, Nv x), (13, Nv ((digs m).length)), (14, Nv i)], [(3, .row 93 1 (ns .u32 r))]⟩) ?ja2 ?jb2
  case ja2 =>
   refine awp_seq fun K12 hK12 => awp_region rfl (o_mv (Iv y) rfl ?_)
   refine o_lss (a := y) (c := ((0 : Nat) : Int)) gn rfl rfl ?_
   refine aops_end (hK12 _ ?_)
   refine awp_condQ (q := y < ((0 : Nat) : Int)) rfl (fun h3 => ?_) (fun h3 => ?_)
   ·refine awp_seq fun K13 hK13 => awp_region rfl (o_mv (Iv y) rfl ?_)
    refine o_add (a := y) (c := ((1000000000 : Nat) : Int)) gn rfl rfl (by exact wrap64 (by omega) (by omega)) ?_
    refine o_as (Iv (y + ((1000000000 : Nat) : Int))) rfl (aops_end (hK13 _ (awp_region rfl (o_as (Nv 1) rfl (aops_end ?_)))))
    exact ⟨_, ⟨((digs m).getD i 0) + 1000000000 - ((digs n).getD i 0) - c, 1, (by omega), (by omega), (by omega), trivial, rfl⟩, Wk.sub ⟨rfl, rfl, rfl, (by first | rfl | exact nm_int (by omega)), (by first | rfl | exact nm_int (by omega)), rfl, rfl, trivial⟩ ⟨rfl, trivial⟩⟩
   ·refine awp_skip ?_
    exact ⟨_, ⟨((digs m).getD i 0) - ((digs n).getD i 0) - c, 0, (by omega), (by omega), (by omega), trivial, rfl⟩, Wk.sub ⟨rfl, rfl, rfl, (by first | rfl | exact nm_int (by omega)), (by first | rfl | exact nm_int (by omega)), rfl, rfl, trivial⟩ ⟨rfl, trivial⟩⟩
  rintro _ ⟨x, c', hs, hx, hc', -, rfl⟩
  refine awp_region rfl (o_mv (.row 3) rfl (o_mv (Nv x) rfl ?_))
  refine n_conv x gn rfl f29_ f28_ (by simp only [topOf]; omega) ?_
  refine o_buildSlice 301 (ns .u32 ([x])) [(0, [nm .u32 x])] gn f16_ rfl f27_ rfl rfl rfl rfl rfl rfl rfl ?_
  refine n_append 302 r ([x]) [(301, .row 93 1 (ns .u32 ([x])))] gn f16_ f27_ rfl rfl rfl rfl rfl (by simp only [List.length_append, List.length_cons, List.length_nil]; omega) (by decide) rfl rfl ?_
  refine o_as (.row 302) rfl (aops_end (hK7 _ (awp_region rfl ?_)))
  refine n_add i 1 gn rfl rfl (by simp only [topOf]; omega) ?_
  refine o_mv (Nv (i + 1)) rfl (aops_end ?_)
  refine ⟨_, _, ?lt, ⟨i + 1, r ++ ([x]), c', (by simp [hl]), (by omega), hd.snoc hx, hc', sub_step hl hv hs, rfl, rfl⟩, ?wk⟩
  case lt => omega
  case wk => exact Wk.trans (Wk.sub (σ' := ⟨[(0, .sl 1 (ns .u32 (digs m))), (1, .sl 1 (ns .u32 (digs n))), (5, .row 302), (6, Nv c'), (13, Nv ((digs m).length)), (14, Nv (i + 1))], [(302, .row 93 1 (ns .u32 (r ++ ([x]))))]⟩) ⟨rfl, rfl, rfl, rfl, rfl, rfl, trivial⟩ ⟨rfl, trivial⟩) (Wk.trans (Wk.ren (id := 302) (id' := 3) rfl) (Wk.sub ⟨rfl, rfl, (by first | rfl | simp), (by first | rfl | exact nm_int (by omega)), rfl, (by first | rfl | exact nm_int (by omega)), trivial⟩ ⟨(by first | rfl | exact row_ns (by simp)), trivial⟩))
 ·refine awp_exit ?_
  refine hK3 _ (awp_seq fun K14 hK14 => awp_region rfl (o_mv (.row 3) rfl (o_as (.row 3) rfl (aops_end (hK14 _ ?_)))))
  refine awp_wk (σ' := ⟨[(4, .row 3)], [(3, .row 93 1 (ns .u32 r))]⟩) (Wk.sub ⟨rfl, trivial⟩ ⟨rfl, trivial⟩) ?_
  refine awp_wk (σ' := ⟨[(4, .sl 1 (ns .u32 r))], []⟩) (Wk.freeze (id := 3) (e := 93) (sz := 1) (cs := (ns .u32 r)) rfl) ?_
  refine awp_ret ?_
  refine post_ret ⟨[.sl 1 (ns .u32 r)], ⟨AV.le_refl _, trivial⟩, rfl, ?_⟩
  have hil : i = (digs m).length := by omega
  subst hil
  exact ns_congr (less_fin hl hd hnm hv).symm

theorem c_rAdd (x y : Int) (hx : (digs x.natAbs).length ≤ 1000000000) (hy : (digs y.natAbs).length ≤ 1000000000) : ECalls cx 60 [intR x, intR y] (intR (x + y)) := by
 refine ecalls_of_awp Tryz.func60 (c := _) rfl (Nat.le_of_ble_eq_true rfl) ?_
 show awp cx 40 _ (postF cx Tryz.f60 _) ⟨[(0, intR x), (1, intR y)], []⟩
 refine awp_seq fun K0 hK0 => awp_region rfl ?_
 refine o_box 2 [bp (x < 0), .sl 1 (ns .i64 (digs x.natAbs))] gn rfl rfl ?_
 refine o_box 3 [bp (y < 0), .sl 1 (ns .i64 (digs y.natAbs))] gn rfl rfl ?_
 refine o_alloc 4 [Fv, Zv] gn f9_ rfl rfl rfl ?_
 refine aops_end (hK0 _ (awp_seq fun K1 hK1 => awp_seq fun K2 hK2 => awp_region rfl ?_))
 refine o_fieldRef 0 gn f3_ rfl rfl ?_
 refine o_loadS (bp (x < 0)) gn f4_ rfl rfl rfl ?_
 refine o_fieldRef 0 gn f3_ rfl rfl ?_
 refine o_loadS (bp (y < 0)) gn f4_ rfl rfl rfl ?_
 refine o_eqlB (a := (decide (x < 0))) (c := (decide (y < 0))) gn rfl rfl f30_ ?_
 refine aops_end (hK2 _ ?_)
 refine awp_condQ (q := (decide (x < 0)) = (decide (y < 0))) rfl (fun h1 => ?_) (fun h1 => ?_)
 ·refine awp_seq fun K3 hK3 => awp_regionD rfl ?_
  refine o_fieldRef 0 gn f3_ rfl rfl ?_
  refine o_loadS (bp (x < 0)) gn f4_ rfl rfl rfl ?_
  refine o_fieldRef 1 gn f0_ rfl rfl ?_
  refine o_loadS (.sl 1 (ns .i64 (digs x.natAbs))) gn f1_ rfl rfl rfl ?_
  refine o_fieldRef 1 gn f0_ rfl rfl ?_
  refine o_loadS (.sl 1 (ns .i64 (digs y.natAbs))) gn f1_ rfl rfl rfl ?_
  refine o_ct (c_rMore (x.natAbs) (y.natAbs) (by omega) (by omega)) gn f31_ rfl ?_
  refine o_ct (c_rTrim (decide (x < 0)) (dgn (moreN (x.natAbs) (y.natAbs)) (x.natAbs + y.natAbs)) (by first | assumption | exact dgn_dig _ _ | exact digs_dig _ | exact Dig.snoc (by assumption) (by assumption) | exact Dig.cons (by omega) (digs_dig _))) gn f32_ rfl ?_
  refine o_store [(4, oZ 37 .i64 (sg (decide (x < 0)) (val (dgn (moreN (x.natAbs) (y.natAbs)) (x.natAbs + y.natAbs))))), (3, oZ 37 .i64 y), (2, oZ 37 .i64 x)] gn f13_ rfl rfl rfl rfl rfl rfl ?_
  refine aops_end ⟨by kernel_rfl, ?_⟩
  refine hK3 _ ?_
  refine awp_ret ?_
  refine post_ret ⟨[intR (sg (decide (x < 0)) (val (dgn (moreN (x.natAbs) (y.natAbs)) (x.natAbs + y.natAbs))))], ⟨⟨4, oZ 37 .i64 (sg (decide (x < 0)) (val (dgn (moreN (x.natAbs) (y.natAbs)) (x.natAbs + y.natAbs)))), rfl, rfl, rfl, Or.inl ⟨f14_, AV.le_refl _⟩⟩, trivial⟩, rfl, ?_⟩
  refine congrArg (intK .i64) ?_
  rw [val_more]
  exact sg_add h1
 ·refine awp_skip (hK1 _ (awp_seq fun K4 hK4 => awp_seq fun K5 hK5 => awp_region rfl ?_))
  refine o_fieldRef 1 gn f0_ rfl rfl ?_
  refine o_loadS (.sl 1 (ns .i64 (digs x.natAbs))) gn f1_ rfl rfl rfl ?_
  refine o_fieldRef 1 gn f0_ rfl rfl ?_
  refine o_loadS (.sl 1 (ns .i64 (digs y.natAbs))) gn f1_ rfl rfl rfl ?_
  refine o_ct (c_rSize (x.natAbs) (y.natAbs)) gn f22_ rfl ?_
  refine o_geq (a := (cmpN (x.natAbs) (y.natAbs))) (c := ((0 : Nat) : Int)) gn rfl rfl ?_
  refine aops_end (hK5 _ ?_)
  refine awp_condQ (q := ((0 : Nat) : Int) ≤ (cmpN (x.natAbs) (y.natAbs))) rfl (fun h2 => ?_) (fun h2 => ?_)
  ·have hc := cmpN_ge h2
   refine awp_seq fun K6 hK6 => awp_regionD rfl ?_
   refine o_fieldRef 0 gn f3_ rfl rfl ?_
   refine o_loadS (bp (x < 0)) gn f4_ rfl rfl rfl ?_
   refine o_fieldRef 1 gn f0_ rfl rfl ?_
   refine o_loadS (.sl 1 (ns .i64 (digs x.natAbs))) gn f1_ rfl rfl rfl ?_
   refine o_fieldRef 1 gn f0_ rfl rfl ?_
   refine o_loadS (.sl 1 (ns .i64 (digs y.natAbs))) gn f1_ rfl rfl rfl ?_
   refine o_ct (c_rLess (x.natAbs) (y.natAbs) (by omega) (by omega) (by omega)) gn f33_ rfl ?_
   refine o_ct (c_rTrim (decide (x < 0)) (dgn (digs (x.natAbs)).length (x.natAbs - y.natAbs)) (by first | assumption | exact dgn_dig _ _ | exact digs_dig _ | exact Dig.snoc (by assumption) (by assumption) | exact Dig.cons (by omega) (digs_dig _))) gn f32_ rfl ?_
   refine o_store [(4, oZ 37 .i64 (sg (decide (x < 0)) (val (dgn (digs (x.natAbs)).length (x.natAbs - y.natAbs))))), (3, oZ 37 .i64 y), (2, oZ 37 .i64 x)] gn f13_ rfl rfl rfl rfl rfl rfl ?_
   refine aops_end ⟨by kernel_rfl, ?_⟩
   refine hK6 _ ?_
   refine awp_ret ?_
   refine post_ret ⟨[intR (sg (decide (x < 0)) (val (dgn (digs (x.natAbs)).length (x.natAbs - y.natAbs))))], ⟨⟨4, oZ 37 .i64 (sg (decide (x < 0)) (val (dgn (digs (x.natAbs)).length (x.natAbs - y.natAbs)))), rfl, rfl, rfl, Or.inl ⟨f14_, AV.le_refl _⟩⟩, trivial⟩, rfl, ?_⟩
   refine congrArg (intK .i64) ?_
   rw [val_minus]
   exact sg_sub1 h1 hc
  ·have hc := cmpN_ng h2
   refine awp_skip (hK4 _ (awp_seq fun K7 hK7 => awp_regionD rfl ?_))
   refine o_fieldRef 0 gn f3_ rfl rfl ?_
   refine o_loadS (bp (y < 0)) gn f4_ rfl rfl rfl ?_
   refine o_fieldRef 1 gn f0_ rfl rfl ?_
   refine o_loadS (.sl 1 (ns .i64 (digs y.natAbs))) gn f1_ rfl rfl rfl ?_
   refine o_fieldRef 1 gn f0_ rfl rfl ?_
   refine o_loadS (.sl 1 (ns .i64 (digs x.natAbs))) gn f1_ rfl rfl rfl ?_
   refine o_ct (c_rLess (y.natAbs) (x.natAbs) (by omega) (by omega) (by omega)) gn f33_ rfl ?_
   refine o_ct (c_rTrim (decide (y < 0)) (dgn (digs (y.natAbs)).length (y.natAbs - x.natAbs)) (by first | assumption | exact dgn_dig _ _ | exact digs_dig _ | exact Dig.snoc (by assumption) (by assumption) | exact Dig.cons (by omega) (digs_dig _))) gn f32_ rfl ?_
   refine o_store [(4, oZ 37 .i64 (sg (decide (y < 0)) (val (dgn (digs (y.natAbs)).length (y.natAbs - x.natAbs))))), (3, oZ 37 .i64 y), (2, oZ 37 .i64 x)] gn f13_ rfl rfl rfl rfl rfl rfl ?_
   refine aops_end ⟨by kernel_rfl, ?_⟩
   refine hK7 _ ?_
   refine awp_ret ?_
   refine post_ret ⟨[intR (sg (decide (y < 0)) (val (dgn (digs (y.natAbs)).length (y.natAbs - x.natAbs))))], ⟨⟨4, oZ 37 .i64 (sg (decide (y < 0)) (val (dgn (digs (y.natAbs)).length (y.natAbs - x.natAbs)))), rfl, rfl, rfl, Or.inl ⟨f14_, AV.le_refl _⟩⟩, trivial⟩, rfl, ?_⟩
   refine congrArg (intK .i64) ?_
   rw [val_minus]
   exact sg_sub2 h1 hc

theorem c_wAdd (x y : Int) (hx : (digs x.natAbs).length ≤ 1000000000) (hy : (digs y.natAbs).length ≤ 1000000000) : ECalls cx 26 [intW x, intW y] (intW (x + y)) := by
 refine ecalls_of_awp Tryz.func26 (c := _) rfl (Nat.le_of_ble_eq_true rfl) ?_
 show awp cx 40 _ (postF cx Tryz.f26 _) ⟨[(0, intW x), (1, intW y)], []⟩
 refine awp_seq fun K0 hK0 => awp_region rfl ?_
 refine o_box 2 [bp (x < 0), .sl 1 (ns .u32 (digs x.natAbs))] gn rfl rfl ?_
 refine o_box 3 [bp (y < 0), .sl 1 (ns .u32 (digs y.natAbs))] gn rfl rfl ?_
 refine o_alloc 4 [Fv, Zv] gn f15_ rfl rfl rfl ?_
 refine aops_end (hK0 _ (awp_seq fun K1 hK1 => awp_seq fun K2 hK2 => awp_region rfl ?_))
 refine o_fieldRef 0 gn f8_ rfl rfl ?_
 refine o_loadS (bp (x < 0)) gn f4_ rfl rfl rfl ?_
 refine o_fieldRef 0 gn f8_ rfl rfl ?_
 refine o_loadS (bp (y < 0)) gn f4_ rfl rfl rfl ?_
 refine o_eqlB (a := (decide (x < 0))) (c := (decide (y < 0))) gn rfl rfl f30_ ?_
 refine aops_end (hK2 _ ?_)
 refine awp_condQ (q := (decide (x < 0)) = (decide (y < 0))) rfl (fun h1 => ?_) (fun h1 => ?_)
 ·refine awp_seq fun K3 hK3 => awp_regionD rfl ?_
  refine o_fieldRef 0 gn f8_ rfl rfl ?_
  refine o_loadS (bp (x < 0)) gn f4_ rfl rfl rfl ?_
  refine o_fieldRef 1 gn f5_ rfl rfl ?_
  refine o_loadS (.sl 1 (ns .u32 (digs x.natAbs))) gn f6_ rfl rfl rfl ?_
  refine o_fieldRef 1 gn f5_ rfl rfl ?_
  refine o_loadS (.sl 1 (ns .u32 (digs y.natAbs))) gn f6_ rfl rfl rfl ?_
  refine o_ct (c_wPlus (x.natAbs) (y.natAbs) (by omega) (by omega)) gn f34_ rfl ?_
  refine o_ct (c_wTrim (decide (x < 0)) (dgn (max (digs (x.natAbs)).length (digs (y.natAbs)).length + 1) (x.natAbs + y.natAbs)) (by first | assumption | exact dgn_dig _ _ | exact digs_dig _ | exact Dig.snoc (by assumption) (by assumption) | exact Dig.cons (by omega) (digs_dig _))) gn f35_ rfl ?_
  refine o_store [(4, oZ 51 .u32 (sg (decide (x < 0)) (val (dgn (max (digs (x.natAbs)).length (digs (y.natAbs)).length + 1) (x.natAbs + y.natAbs))))), (3, oZ 51 .u32 y), (2, oZ 51 .u32 x)] gn f19_ rfl rfl rfl rfl rfl rfl ?_
  refine aops_end ⟨by kernel_rfl, ?_⟩
  refine hK3 _ ?_
  refine awp_ret ?_
  refine post_ret ⟨[intW (sg (decide (x < 0)) (val (dgn (max (digs (x.natAbs)).length (digs (y.natAbs)).length + 1) (x.natAbs + y.natAbs))))], ⟨⟨4, oZ 51 .u32 (sg (decide (x < 0)) (val (dgn (max (digs (x.natAbs)).length (digs (y.natAbs)).length + 1) (x.natAbs + y.natAbs)))), rfl, rfl, rfl, Or.inl ⟨f20_, AV.le_refl _⟩⟩, trivial⟩, rfl, ?_⟩
  refine congrArg (intK .u32) ?_
  rw [val_plus]
  exact sg_add h1
 ·refine awp_skip (hK1 _ (awp_seq fun K4 hK4 => awp_seq fun K5 hK5 => awp_region rfl ?_))
  refine o_fieldRef 1 gn f5_ rfl rfl ?_
  refine o_loadS (.sl 1 (ns .u32 (digs x.natAbs))) gn f6_ rfl rfl rfl ?_
  refine o_fieldRef 1 gn f5_ rfl rfl ?_
  refine o_loadS (.sl 1 (ns .u32 (digs y.natAbs))) gn f6_ rfl rfl rfl ?_
  refine o_ct (c_wSize (x.natAbs) (y.natAbs)) gn f24_ rfl ?_
  refine o_geq (a := (cmpN (x.natAbs) (y.natAbs))) (c := ((0 : Nat) : Int)) gn rfl rfl ?_
  refine aops_end (hK5 _ ?_)
  refine awp_condQ (q := ((0 : Nat) : Int) ≤ (cmpN (x.natAbs) (y.natAbs))) rfl (fun h2 => ?_) (fun h2 => ?_)
  ·have hc := cmpN_ge h2
   refine awp_seq fun K6 hK6 => awp_regionD rfl ?_
   refine o_fieldRef 0 gn f8_ rfl rfl ?_
   refine o_loadS (bp (x < 0)) gn f4_ rfl rfl rfl ?_
   refine o_fieldRef 1 gn f5_ rfl rfl ?_
   refine o_loadS (.sl 1 (ns .u32 (digs x.natAbs))) gn f6_ rfl rfl rfl ?_
   refine o_fieldRef 1 gn f5_ rfl rfl ?_
   refine o_loadS (.sl 1 (ns .u32 (digs y.natAbs))) gn f6_ rfl rfl rfl ?_
   refine o_ct (c_wLess (x.natAbs) (y.natAbs) (by omega) (by omega) (by omega)) gn f36_ rfl ?_
   refine o_ct (c_wTrim (decide (x < 0)) (dgn (digs (x.natAbs)).length (x.natAbs - y.natAbs)) (by first | assumption | exact dgn_dig _ _ | exact digs_dig _ | exact Dig.snoc (by assumption) (by assumption) | exact Dig.cons (by omega) (digs_dig _))) gn f35_ rfl ?_
   refine o_store [(4, oZ 51 .u32 (sg (decide (x < 0)) (val (dgn (digs (x.natAbs)).length (x.natAbs - y.natAbs))))), (3, oZ 51 .u32 y), (2, oZ 51 .u32 x)] gn f19_ rfl rfl rfl rfl rfl rfl ?_
   refine aops_end ⟨by kernel_rfl, ?_⟩
   refine hK6 _ ?_
   refine awp_ret ?_
   refine post_ret ⟨[intW (sg (decide (x < 0)) (val (dgn (digs (x.natAbs)).length (x.natAbs - y.natAbs))))], ⟨⟨4, oZ 51 .u32 (sg (decide (x < 0)) (val (dgn (digs (x.natAbs)).length (x.natAbs - y.natAbs)))), rfl, rfl, rfl, Or.inl ⟨f20_, AV.le_refl _⟩⟩, trivial⟩, rfl, ?_⟩
   refine congrArg (intK .u32) ?_
   rw [val_minus]
   exact sg_sub1 h1 hc
  ·have hc := cmpN_ng h2
   refine awp_skip (hK4 _ (awp_seq fun K7 hK7 => awp_regionD rfl ?_))
   refine o_fieldRef 0 gn f8_ rfl rfl ?_
   refine o_loadS (bp (y < 0)) gn f4_ rfl rfl rfl ?_
   refine o_fieldRef 1 gn f5_ rfl rfl ?_
   refine o_loadS (.sl 1 (ns .u32 (digs y.natAbs))) gn f6_ rfl rfl rfl ?_
   refine o_fieldRef 1 gn f5_ rfl rfl ?_
   refine o_loadS (.sl 1 (ns .u32 (digs x.natAbs))) gn f6_ rfl rfl rfl ?_
   refine o_ct (c_wLess (y.natAbs) (x.natAbs) (by omega) (by omega) (by omega)) gn f36_ rfl ?_
   refine o_ct (c_wTrim (decide (y < 0)) (dgn (digs (y.natAbs)).length (y.natAbs - x.natAbs)) (by first | assumption | exact dgn_dig _ _ | exact digs_dig _ | exact Dig.snoc (by assumption) (by assumption) | exact Dig.cons (by omega) (digs_dig _))) gn f35_ rfl ?_
   refine o_store [(4, oZ 51 .u32 (sg (decide (y < 0)) (val (dgn (digs (y.natAbs)).length (y.natAbs - x.natAbs))))), (3, oZ 51 .u32 y), (2, oZ 51 .u32 x)] gn f19_ rfl rfl rfl rfl rfl rfl ?_
   refine aops_end ⟨by kernel_rfl, ?_⟩
   refine hK7 _ ?_
   refine awp_ret ?_
   refine post_ret ⟨[intW (sg (decide (y < 0)) (val (dgn (digs (y.natAbs)).length (y.natAbs - x.natAbs))))], ⟨⟨4, oZ 51 .u32 (sg (decide (y < 0)) (val (dgn (digs (y.natAbs)).length (y.natAbs - x.natAbs)))), rfl, rfl, rfl, Or.inl ⟨f20_, AV.le_refl _⟩⟩, trivial⟩, rfl, ?_⟩
   refine congrArg (intK .u32) ?_
   rw [val_minus]
   exact sg_sub2 h1 hc

theorem c_wSub (x y : Int) (hx : (digs x.natAbs).length ≤ 1000000000) (hy : (digs y.natAbs).length ≤ 1000000000) : ECalls cx 43 [intW x, intW y] (intW (x - y)) := by
 refine ecalls_of_awp Tryz.func43 (c := _) rfl (Nat.le_of_ble_eq_true rfl) ?_
 show awp cx 9 _ (postF cx Tryz.f43 _) ⟨[(0, intW x), (1, intW y)], []⟩
 refine awp_seq fun K0 hK0 => awp_region rfl ?_
 refine o_box 2 [bp (x < 0), .sl 1 (ns .u32 (digs x.natAbs))] gn rfl rfl ?_
 refine o_box 3 [bp (y < 0), .sl 1 (ns .u32 (digs y.natAbs))] gn rfl rfl ?_
 refine o_alloc 4 [Fv, Zv] gn f15_ rfl rfl rfl ?_
 refine aops_end (hK0 _ (awp_seq fun K1 hK1 => awp_regionD rfl ?_))
 refine o_loadA [bp (x < 0), .sl 1 (ns .u32 (digs x.natAbs))] gn f20_ rfl rfl rfl rfl rfl ?_
 refine o_loadA [bp (y < 0), .sl 1 (ns .u32 (digs y.natAbs))] gn f20_ rfl rfl rfl rfl rfl ?_
 refine o_ct (c_wMinus y) gn f37_ rfl ?_
 refine o_ct (c_wAdd x (-y) (by first | omega | assumption | (simp only [Int.natAbs_neg]; omega)) (by first | omega | assumption | (simp only [Int.natAbs_neg]; omega))) gn f38_ rfl ?_
 refine o_store [(4, oZ 51 .u32 (x + (-y))), (3, oZ 51 .u32 y), (2, oZ 51 .u32 x)] gn f19_ rfl rfl rfl rfl rfl rfl ?_
 refine aops_end ⟨by kernel_rfl, ?_⟩
 refine hK1 _ ?_
 refine awp_ret ?_
 refine post_ret ⟨[intW (x + (-y))], ⟨⟨4, oZ 51 .u32 (x + (-y)), rfl, rfl, rfl, Or.inl ⟨f20_, AV.le_refl _⟩⟩, trivial⟩, rfl, ?_⟩
 exact congrArg (intK .u32) Int.sub_eq_add_neg

end Go.Proofs.YtaeknciienkijaaGreatDoor

namespace Go.Proofs.YtaeknciienkijaaGreatDoor
open Go Go.Ab Go.Mth
theorem f39_ : tyInt cx.P 3 = some .i64 := by kernel_rfl
theorem f40_ : tyInt cx.P 92 = some .u64 := by kernel_rfl
theorem f41_ : tySize cx.P 3 = some 1 := by kernel_rfl
theorem f42_ : tySize cx.P 93 = some 1 := by kernel_rfl
theorem c_rOf (i : Int) (h0 : -4611686018427387904 ≤ i) (h1' : i ≤ 4611686018427387904) : ECalls cx 62 [Iv i] (intR i) := by
 refine ecalls_of_awp Tryz.func62 (c := _) rfl (Nat.le_of_ble_eq_true rfl) ?_
 show awp cx 22 _ (postF cx Tryz.f62 _) ⟨[(0, Iv i)], []⟩
 refine awp_seq fun K0 hK0 => awp_region rfl ?_
 refine o_alloc 2 [Fv, Zv] gn f9_ rfl rfl rfl ?_
 refine aops_end (hK0 _ (awp_seq fun K1 hK1 => awp_region rfl (o_mv (Iv i) rfl ?_)))
 refine o_lss (a := i) (c := ((0 : Nat) : Int)) gn rfl rfl ?_
 refine o_as (bp (i < ((0 : Nat) : Int))) rfl (aops_end (hK1 _ ?_))
 refine awp_seqJ (J := fun σ => True ∧ σ = ⟨[(0, Nv i.natAbs), (3, bp (i < 0)), (2, .ref 2 0)], [(2, .var 37 [Fv, Zv])]⟩) ?ja0 ?jb0
 case ja0 =>
  refine awp_seq fun K2 hK2 => awp_region rfl (o_mv (bp (i < ((0 : Nat) : Int))) rfl (aops_end (hK2 _ ?_)))
  refine awp_condQ (q := i < ((0 : Nat) : Int)) rfl (fun h1 => ?_) (fun h1 => ?_)
  ·refine awp_region rfl (o_mv (Iv i) rfl ?_)
   refine o_neg (a := i) gn rfl (by exact wrap64 (by omega) (by omega)) ?_
   refine o_as (Iv (-(i))) rfl (aops_end ?_)
   exact ⟨_, ⟨trivial, rfl⟩, Wk.sub ⟨(by first | rfl | exact nm_int (by omega)), (by first | rfl | exact bp_congr (by first | omega | simp) | exact bl_bp (by first | omega | simp)), rfl, trivial⟩ ⟨rfl, trivial⟩⟩
  ·refine awp_skip ?_
   exact ⟨_, ⟨trivial, rfl⟩, Wk.sub ⟨(by first | rfl | exact nm_int (by omega)), (by first | rfl | exact bp_congr (by first | omega | simp) | exact bl_bp (by first | omega | simp)), rfl, trivial⟩ ⟨rfl, trivial⟩⟩
 rintro _ ⟨-, rfl⟩
 refine awp_seq fun K3 hK3 => awp_region rfl (o_as Zv rfl (aops_end (hK3 _ (awp_seq fun K4 hK4 => ?_))))
 refine awp_block ?_
 refine awp_loopR (fun κ σ => ∃ (x : Nat), ∃ (r : List Nat), (x ≤ 4611686018427387904) ∧ (r ++ digs x = digs i.natAbs) ∧ x = κ ∧ σ = ⟨[(2, .ref 2 0), (4, .row 3), (0, Nv x), (3, bp (i < 0))], [(2, .var 37 [Fv, Zv]), (3, .row 3 1 (ns .i64 r))]⟩) ⟨_, _, ⟨i.natAbs, [], (by omega), rfl, rfl, rfl⟩, ?wk1⟩ ?rd1
 case wk1 =>
  exact Wk.trans (Wk.newNil (i := 4) (id := 601) (e := 3) (sz := 1) rfl rfl (by decide)) (Wk.trans (Wk.sub (σ' := ⟨[(2, .ref 2 0), (4, .row 601), (0, Nv i.natAbs), (3, bp (i < 0))], [(2, .var 37 [Fv, Zv]), (601, .row 3 1 (ns .i64 ([])))]⟩) ⟨rfl, rfl, rfl, rfl, trivial⟩ ⟨rfl, rfl, trivial⟩) (Wk.trans (Wk.ren (id := 601) (id' := 3) rfl) (Wk.sub ⟨rfl, (by first | rfl | simp), (by first | rfl | exact nm_int (by omega)), rfl, trivial⟩ ⟨rfl, (by first | rfl | exact row_ns (by simp)), trivial⟩)))
 rintro κ _ ⟨x, r, hx, hr, rfl, rfl⟩
 have hlen := fun h => of_len hr h (by omega)
 refine awp_seq fun K5 hK5 => awp_seq fun K6 hK6 => awp_region rfl (o_mv (Nv x) rfl ?_)
 refine n_gtr x 0 gn rfl rfl ?_
 refine aops_end (hK6 _ ?_)
 refine awp_condQ (q := 0 < x) rfl (fun h2 => ?_) (fun h2 => ?_)
 ·refine awp_skip (hK5 _ ?_)
  refine awp_block ?_
  refine awp_seq fun K7 hK7 => awp_region rfl (o_mv (.row 3) rfl (o_mv (Nv x) rfl ?_))
  refine n_rem x 1000000000 gn rfl rfl (by omega) ?_
  refine o_buildSlice 201 (ns .i64 ([x % 1000000000])) [(0, [Nv (x % 1000000000)])] gn f10_ rfl f26_ rfl rfl rfl rfl rfl rfl rfl ?_
  refine n_append 202 r ([x % 1000000000]) [(201, .row 3 1 (ns .i64 ([x % 1000000000]))), (2, .var 37 [Fv, Zv])] gn f10_ f26_ rfl rfl rfl rfl rfl (by have hl' := hlen (by assumption); simp only [List.length_append, List.length_cons, List.length_nil]; omega) (by decide) rfl rfl ?_
  refine o_as (.row 202) rfl (aops_end (hK7 _ (awp_region rfl (o_mv (Nv x) rfl ?_))))
  refine n_quo x 1000000000 gn rfl rfl (by omega) (by simp only [topOf]; omega) ?_
  refine o_as (Nv (x / 1000000000)) rfl (aops_end ?_)
  refine ⟨_, _, ?lt, ⟨x / 1000000000, r ++ ([x % 1000000000]), (by omega), (of_step hr (by assumption)), rfl, rfl⟩, ?wk⟩
  case lt => omega
  case wk => exact Wk.trans (Wk.sub (σ' := ⟨[(2, .ref 2 0), (4, .row 202), (0, Nv (x / 1000000000)), (3, bp (i < 0))], [(2, .var 37 [Fv, Zv]), (202, .row 3 1 (ns .i64 (r ++ ([x % 1000000000]))))]⟩) ⟨rfl, rfl, rfl, rfl, trivial⟩ ⟨rfl, rfl, trivial⟩) (Wk.trans (Wk.ren (id := 202) (id' := 3) rfl) (Wk.sub ⟨rfl, (by first | rfl | simp), (by first | rfl | exact nm_int (by omega)), rfl, trivial⟩ ⟨rfl, (by first | rfl | exact row_ns (by simp)), trivial⟩))
 ·refine awp_exit ?_
  refine hK4 _ (awp_seq fun K8 hK8 => awp_region rfl (o_mv (bp (i < 0)) rfl (o_mv (.row 3) rfl ?_)))
  refine o_build [bp (i < 0), .row 3] [(0, [bp (i < 0)]), (1, [.row 3])] gn f12_ f9_ rfl rfl rfl ?_
  refine o_store [(2, .var 37 [bp (i < 0), .row 3]), (3, .row 3 1 (ns .i64 r))] gn f13_ rfl rfl rfl rfl rfl rfl ?_
  refine aops_end (hK8 _ ?_)
  refine awp_wk (σ' := ⟨[(2, .ref 2 0)], [(2, .var 37 [bp (i < 0), .row 3]), (3, .row 3 1 (ns .i64 r))]⟩) (Wk.sub ⟨rfl, trivial⟩ ⟨rfl, rfl, trivial⟩) ?_
  refine awp_wk (σ' := ⟨[(2, .ref 2 0)], [(2, .var 37 [bp (i < 0), .sl 1 (ns .i64 r)])]⟩) (Wk.freeze (id := 3) (e := 3) (sz := 1) (cs := (ns .i64 r)) rfl) ?_
  refine awp_ret ?_
  refine post_ret ⟨[.agg [bp (i < 0), .sl 1 (ns .i64 r)]], ⟨⟨2, .var 37 [bp (i < 0), .sl 1 (ns .i64 r)], rfl, rfl, rfl, Or.inl ⟨f14_, AV.le_refl _⟩⟩, trivial⟩, rfl, ?_⟩
  refine (intK_eq (k := .i64) (bp_congr (by omega)) (of_end hr (by assumption))).symm

theorem c_wOf (i : Int) (h0 : -4611686018427387904 ≤ i) (h1' : i ≤ 4611686018427387904) : ECalls cx 18 [Iv i] (intW i) := by
 refine ecalls_of_awp Tryz.func18 (c := _) rfl (Nat.le_of_ble_eq_true rfl) ?_
 show awp cx 25 _ (postF cx Tryz.f18 _) ⟨[(0, Iv i)], []⟩
 refine awp_seq fun K0 hK0 => awp_region rfl ?_
 refine o_alloc 2 [Fv, Zv] gn f15_ rfl rfl rfl ?_
 refine aops_end (hK0 _ (awp_seq fun K1 hK1 => awp_region rfl (o_as Zv rfl (aops_end (hK1 _ (awp_seq fun K2 hK2 => awp_region rfl (o_mv (Iv i) rfl ?_)))))))
 refine o_convW (a := i) gn rfl f39_ f40_ ?_
 refine o_as (.lit (.int .u64 (IntKind.wrap .u64 i))) rfl (aops_end (hK2 _ ?_))
 refine awp_seqJ (J := fun σ => True ∧ σ = ⟨[(0, Iv i), (4, nm .u64 i.natAbs), (3, Zv), (2, .ref 2 0)], [(2, .var 51 [Fv, Zv])]⟩) ?ja0 ?jb0
 case ja0 =>
  refine awp_seq fun K3 hK3 => awp_region rfl (o_mv (Iv i) rfl ?_)
  refine o_lss (a := i) (c := ((0 : Nat) : Int)) gn rfl rfl ?_
  refine aops_end (hK3 _ ?_)
  refine awp_condQ (q := i < ((0 : Nat) : Int)) rfl (fun h1 => ?_) (fun h1 => ?_)
  ·refine awp_region rfl (o_mv (.lit (.int .u64 (IntKind.wrap .u64 i))) rfl ?_)
   refine o_negW (a := IntKind.wrap .u64 i) gn rfl ?_
   refine o_as (.lit (.int .u64 (IntKind.wrap .u64 (-(IntKind.wrap .u64 i))))) rfl (aops_end ?_)
   exact ⟨_, ⟨trivial, rfl⟩, Wk.sub ⟨rfl, (by first | rfl | exact nm_int (by omega) | exact nm_int (by simp [IntKind.wrap, IntKind.bits, IntKind.signed]; omega)), rfl, rfl, trivial⟩ ⟨rfl, trivial⟩⟩
  ·refine awp_skip ?_
   exact ⟨_, ⟨trivial, rfl⟩, Wk.sub ⟨rfl, (by first | rfl | exact nm_int (by omega) | exact nm_int (by simp [IntKind.wrap, IntKind.bits, IntKind.signed]; omega)), rfl, rfl, trivial⟩ ⟨rfl, trivial⟩⟩
 rintro _ ⟨-, rfl⟩
 refine awp_seq fun K4 hK4 => ?_
 refine awp_block ?_
 refine awp_loopR (fun κ σ => ∃ (x : Nat), ∃ (r : List Nat), (x ≤ 4611686018427387904) ∧ (r ++ digs x = digs i.natAbs) ∧ x = κ ∧ σ = ⟨[(2, .ref 2 0), (3, .row 3), (4, nm .u64 x), (0, Iv i)], [(2, .var 51 [Fv, Zv]), (3, .row 93 1 (ns .u32 r))]⟩) ⟨_, _, ⟨i.natAbs, [], (by omega), rfl, rfl, rfl⟩, ?wk1⟩ ?rd1
 case wk1 =>
  exact Wk.trans (Wk.newNil (i := 3) (id := 601) (e := 93) (sz := 1) rfl rfl (by decide)) (Wk.trans (Wk.sub (σ' := ⟨[(2, .ref 2 0), (3, .row 601), (4, nm .u64 i.natAbs), (0, Iv i)], [(2, .var 51 [Fv, Zv]), (601, .row 93 1 (ns .u32 ([])))]⟩) ⟨rfl, rfl, rfl, rfl, trivial⟩ ⟨rfl, rfl, trivial⟩) (Wk.trans (Wk.ren (id := 601) (id' := 3) rfl) (Wk.sub ⟨rfl, (by first | rfl | simp), (by first | rfl | exact nm_int (by omega) | exact nm_int (by simp [IntKind.wrap, IntKind.bits, IntKind.signed]; omega)), rfl, trivial⟩ ⟨rfl, (by first | rfl | exact row_ns (by simp)), trivial⟩)))
 rintro κ _ ⟨x, r, hx, hr, rfl, rfl⟩
 have hlen := fun h => of_len hr h (by omega)
 refine awp_seq fun K5 hK5 => awp_seq fun K6 hK6 => awp_region rfl (o_mv (nm .u64 x) rfl ?_)
 refine n_gtr x 0 gn rfl rfl ?_
 refine aops_end (hK6 _ ?_)
 refine awp_condQ (q := 0 < x) rfl (fun h2 => ?_) (fun h2 => ?_)
 ·refine awp_skip (hK5 _ (awp_seq fun K7 hK7 => ?_))
  refine awp_block ?_
  refine awp_region rfl (o_mv (.row 3) rfl (o_mv (nm .u64 x) rfl ?_))
  refine n_rem x 1000000000 gn rfl rfl (by omega) ?_
  refine n_conv (x % 1000000000) gn rfl f40_ f28_ (by simp only [topOf]; omega) ?_
  refine o_buildSlice 201 (ns .u32 ([x % 1000000000])) [(0, [nm .u32 (x % 1000000000)])] gn f16_ rfl f27_ rfl rfl rfl rfl rfl rfl rfl ?_
  refine n_append 202 r ([x % 1000000000]) [(201, .row 93 1 (ns .u32 ([x % 1000000000]))), (2, .var 51 [Fv, Zv])] gn f16_ f27_ rfl rfl rfl rfl rfl (by have hl' := hlen (by assumption); simp only [List.length_append, List.length_cons, List.length_nil]; omega) (by decide) rfl rfl ?_
  refine o_as (.row 202) rfl (aops_end (hK7 _ (awp_region rfl (o_mv (nm .u64 x) rfl ?_))))
  refine n_quo x 1000000000 gn rfl rfl (by omega) (by simp only [topOf]; omega) ?_
  refine o_as (nm .u64 (x / 1000000000)) rfl (aops_end ?_)
  refine ⟨_, _, ?lt, ⟨x / 1000000000, r ++ ([x % 1000000000]), (by omega), (of_step hr (by assumption)), rfl, rfl⟩, ?wk⟩
  case lt => omega
  case wk => exact Wk.trans (Wk.sub (σ' := ⟨[(2, .ref 2 0), (3, .row 202), (4, nm .u64 (x / 1000000000)), (0, Iv i)], [(2, .var 51 [Fv, Zv]), (202, .row 93 1 (ns .u32 (r ++ ([x % 1000000000]))))]⟩) ⟨rfl, rfl, rfl, rfl, trivial⟩ ⟨rfl, rfl, trivial⟩) (Wk.trans (Wk.ren (id := 202) (id' := 3) rfl) (Wk.sub ⟨rfl, (by first | rfl | simp), (by first | rfl | exact nm_int (by omega) | exact nm_int (by simp [IntKind.wrap, IntKind.bits, IntKind.signed]; omega)), rfl, trivial⟩ ⟨rfl, (by first | rfl | exact row_ns (by simp)), trivial⟩))
 ·refine awp_exit ?_
  refine hK4 _ (awp_seq fun K8 hK8 => awp_region rfl (o_mv (Iv i) rfl ?_))
  refine o_lss (a := i) (c := ((0 : Nat) : Int)) gn rfl rfl ?_
  refine o_mv (.row 3) rfl ?_
  refine o_build [(bp (i < ((0 : Nat) : Int))), .row 3] [(0, [(bp (i < ((0 : Nat) : Int)))]), (1, [.row 3])] gn f18_ f15_ rfl rfl rfl ?_
  refine o_store [(2, (.var 51 [(bp (i < ((0 : Nat) : Int))), .row 3])), (3, .row 93 1 (ns .u32 r))] gn f19_ rfl rfl rfl rfl rfl rfl ?_
  refine aops_end (hK8 _ ?_)
  refine awp_wk (σ' := ⟨[(2, .ref 2 0)], [(2, (.var 51 [(bp (i < ((0 : Nat) : Int))), .row 3])), (3, .row 93 1 (ns .u32 r))]⟩) (Wk.sub ⟨rfl, trivial⟩ ⟨rfl, rfl, trivial⟩) ?_
  refine awp_wk (σ' := ⟨[(2, .ref 2 0)], [(2, (.var 51 [(bp (i < ((0 : Nat) : Int))), .sl 1 (ns .u32 r)]))]⟩) (Wk.freeze (id := 3) (e := 93) (sz := 1) (cs := (ns .u32 r)) rfl) ?_
  refine awp_ret ?_
  refine post_ret ⟨[(.agg [(bp (i < ((0 : Nat) : Int))), .sl 1 (ns .u32 r)])], ⟨⟨2, (.var 51 [(bp (i < ((0 : Nat) : Int))), .sl 1 (ns .u32 r)]), rfl, rfl, rfl, Or.inl ⟨f20_, AV.le_refl _⟩⟩, trivial⟩, rfl, ?_⟩
  refine (intK_eq (k := .u32) (bp_congr (by omega)) (of_end hr (by assumption))).symm

theorem c_rMul (x y : Int) (hx : (digs x.natAbs).length ≤ 1000000000) (hy : (digs y.natAbs).length ≤ 1000000000) : ECalls cx 61 [intR x, intR y] (intR (x * y)) := by
 refine ecalls_of_awp Tryz.func61 (c := _) rfl (Nat.le_of_ble_eq_true rfl) ?_
 show awp cx 72 _ (postF cx Tryz.f61 _) ⟨[(0, intR x), (1, intR y)], []⟩
 refine awp_seq fun K0 hK0 => awp_region rfl ?_
 refine o_box 2 [bp (x < 0), .sl 1 (ns .i64 (digs x.natAbs))] gn rfl rfl ?_
 refine o_box 3 [bp (y < 0), .sl 1 (ns .i64 (digs y.natAbs))] gn rfl rfl ?_
 refine o_alloc 4 [Fv, Zv] gn f9_ rfl rfl rfl ?_
 refine aops_end (hK0 _ (awp_seq fun K1 hK1 => awp_region rfl ?_))
 refine o_fieldRef 1 gn f0_ rfl rfl ?_
 refine o_loadS (.sl 1 (ns .i64 (digs x.natAbs))) gn f1_ rfl rfl rfl ?_
 refine n_len (digs x.natAbs) gn f2_ rfl ?_
 refine o_fieldRef 1 gn f0_ rfl rfl ?_
 refine o_loadS (.sl 1 (ns .i64 (digs y.natAbs))) gn f1_ rfl rfl rfl ?_
 refine n_len (digs y.natAbs) gn f2_ rfl ?_
 refine n_add ((digs x.natAbs).length) ((digs y.natAbs).length) gn rfl rfl (by simp only [topOf]; omega) ?_
 refine n_add (((digs x.natAbs).length) + ((digs y.natAbs).length)) 1 gn rfl rfl (by simp only [topOf]; omega) ?_
 refine n_make 5 ((((digs x.natAbs).length) + ((digs y.natAbs).length)) + 1) gn f10_ f26_ rfl rfl (by omega) rfl rfl ?_
 refine o_as (.row 5) rfl (aops_end (hK1 _ (awp_seq fun K2 hK2 => awp_seq fun K3 hK3 => awp_region rfl (o_as (Nv 0) rfl (aops_end (hK3 _ ?_))))))
 refine awp_block ?_
 refine awp_loopR (fun κ σ => ∃ (i : Nat), ∃ (o : List Nat), (o.length = (digs x.natAbs).length + (digs y.natAbs).length + 1) ∧ (Dig o) ∧ (i ≤ (digs x.natAbs).length) ∧ (val o = val ((digs x.natAbs).take i) * y.natAbs) ∧ ((digs x.natAbs).length - i) = κ ∧ σ = ⟨[(2, .ref 2 0), (3, .ref 3 0), (4, .ref 4 0), (5, .row 5), (6, Nv i)], [(2, oZ 37 .i64 x), (3, oZ 37 .i64 y), (4, .var 37 [Fv, Zv]), (5, .row 3 1 (ns .i64 o))]⟩) ⟨_, _, ⟨0, List.replicate ((digs x.natAbs).length + (digs y.natAbs).length + 1) 0, (by simp), Dig.repl _, (by omega), (by rw [val_repl]; simp [val]), rfl, rfl⟩, ?wk0⟩ ?rd0
 case wk0 =>
  exact Wk.sub ⟨rfl, rfl, rfl, rfl, (by first | rfl | exact nm_int (by omega)), trivial⟩ ⟨rfl, rfl, rfl, (by first | rfl | exact row_ns (by simp)), trivial⟩
 rintro κ _ ⟨i, o, hl, hd, hi, hv, rfl, rfl⟩
 refine awp_seq fun K4 hK4 => awp_seq fun K5 hK5 => awp_region rfl (o_mv (Nv i) rfl ?_)
 refine o_fieldRef 1 gn f0_ rfl rfl ?_
 refine o_loadS (.sl 1 (ns .i64 (digs x.natAbs))) gn f1_ rfl rfl rfl ?_
 refine n_len (digs x.natAbs) gn f2_ rfl ?_
 refine n_lss i ((digs x.natAbs).length) gn rfl rfl ?_
 refine aops_end (hK5 _ ?_)
 refine awp_condQ (q := i < ((digs x.natAbs).length)) rfl (fun h1 => ?_) (fun h1 => ?_)
 ·refine awp_skip (hK4 _ (awp_seq fun K6 hK6 => ?_))
  refine awp_block ?_
  refine awp_seq fun K7 hK7 => awp_region rfl (o_as (Nv 0) rfl (aops_end (hK7 _ (awp_seq fun K8 hK8 => awp_region rfl (o_as (Nv 0) rfl (aops_end (hK8 _ ?_)))))))
  refine awp_block ?_
  refine awp_loopR (fun κ σ => ∃ (k : Nat), ∃ (c : Nat), ∃ (o : List Nat), (o.length = (digs x.natAbs).length + (digs y.natAbs).length + 1) ∧ (Dig o) ∧ (k ≤ (digs y.natAbs).length + 1) ∧ (c < 1000000000) ∧ (val o + 1000000000 ^ (i + k) * c = val ((digs x.natAbs).take i) * y.natAbs + 1000000000 ^ i * ((digs x.natAbs).getD i 0 * val ((digs y.natAbs).take k))) ∧ ((digs y.natAbs).length + 2 - k) = κ ∧ σ = ⟨[(2, .ref 2 0), (3, .ref 3 0), (4, .ref 4 0), (5, .row 5), (6, Nv i), (7, Nv c), (8, Nv k)], [(2, oZ 37 .i64 x), (3, oZ 37 .i64 y), (4, .var 37 [Fv, Zv]), (5, .row 3 1 (ns .i64 o))]⟩) ⟨_, _, ⟨0, 0, _, hl, hd, (by omega), (by omega), (by simp only [Nat.mul_zero, Nat.add_zero, hv, List.take_zero, val]), rfl, rfl⟩, ?wk1⟩ ?rd1
  case wk1 =>
   exact Wk.sub ⟨rfl, rfl, rfl, rfl, rfl, (by first | rfl | exact nm_int (by omega)), (by first | rfl | exact nm_int (by omega)), trivial⟩ ⟨rfl, rfl, rfl, rfl, trivial⟩
  rintro κ _ ⟨k, c, o, hl2, hd2, hk, hc, hv2, rfl, rfl⟩
  have hA := (digs_dig x.natAbs).mulb (digs_dig y.natAbs) i k
  have hO := hd2.getD (i + k)
  have hkc := mul_k hv2
  refine awp_seq fun K9 hK9 => awp_seq fun K10 hK10 => awp_region rfl (o_mv (Nv k) rfl ?_)
  refine o_fieldRef 1 gn f0_ rfl rfl ?_
  refine o_loadS (.sl 1 (ns .i64 (digs y.natAbs))) gn f1_ rfl rfl rfl ?_
  refine n_len (digs y.natAbs) gn f2_ rfl ?_
  refine n_lss k ((digs y.natAbs).length) gn rfl rfl ?_
  refine o_mv (bp (k < ((digs y.natAbs).length))) rfl ?_
  refine o_splitP (q := k < ((digs y.natAbs).length)) 31 rfl (fun h2 => ?_) (fun h2 => ?_)
  ·refine o_skip rfl rfl (decide_eq_true h2) (o_skip rfl rfl (decide_eq_true h2) ?_)
   refine o_pickT Tv gn rfl (decide_eq_true h2) rfl ?_
   refine aops_end (hK10 _ ?_)
   refine awp_condB (b := true) rfl (fun _ => ?_) (fun hh => absurd (hh.symm.trans rfl) (by decide))
   refine awp_skip (hK9 _ (awp_seq fun K11 hK11 => ?_))
   refine awp_block ?_
   refine awp_seq fun K12 hK12 => awp_regionD rfl (o_mv (.row 5) rfl (o_mv (Nv i) rfl (o_mv (Nv k) rfl ?_)))
   refine n_add i k gn rfl rfl (by simp only [topOf]; omega) ?_
   refine n_indexRow o (i + k) gn f10_ rfl rfl rfl (by first | omega | (have := hkc (by assumption); omega)) ?_
   refine n_loadRow o (i + k) gn f11_ rfl rfl (by first | omega | (have := hkc (by assumption); omega)) ?_
   refine o_fieldRef 1 gn f0_ rfl rfl ?_
   refine o_loadS (.sl 1 (ns .i64 (digs x.natAbs))) gn f1_ rfl rfl rfl ?_
   refine o_mv (Nv i) rfl ?_
   refine n_index (digs x.natAbs) i gn f10_ rfl rfl (by omega) ?_
   refine n_loadI (digs x.natAbs) i gn f11_ rfl (by omega) ?_
   refine o_fieldRef 1 gn f0_ rfl rfl ?_
   refine o_loadS (.sl 1 (ns .i64 (digs y.natAbs))) gn f1_ rfl rfl rfl ?_
   refine o_mv (Nv k) rfl ?_
   refine o_ct (c_rPart (digs y.natAbs) k) gn f25_ rfl ?_
   refine n_mul ((digs x.natAbs).getD i 0) ((digs y.natAbs).getD k 0) gn rfl rfl (by simp only [topOf]; omega) ?_
   refine n_add (o.getD (i + k) 0) (((digs x.natAbs).getD i 0) * ((digs y.natAbs).getD k 0)) gn rfl rfl (by simp only [topOf]; omega) ?_
   refine o_mv (Nv c) rfl ?_
   refine n_add ((o.getD (i + k) 0) + (((digs x.natAbs).getD i 0) * ((digs y.natAbs).getD k 0))) c gn rfl rfl (by simp only [topOf]; omega) ?_
   refine o_as (Nv (((o.getD (i + k) 0) + (((digs x.natAbs).getD i 0) * ((digs y.natAbs).getD k 0))) + c)) rfl ?_
   refine aops_end ⟨by kernel_rfl, ?_⟩
   refine hK12 _ (awp_seq fun K13 hK13 => awp_region rfl (o_mv (.row 5) rfl (o_mv (Nv i) rfl (o_mv (Nv k) rfl ?_))))
   refine n_add i k gn rfl rfl (by simp only [topOf]; omega) ?_
   refine o_mv (Nv (((o.getD (i + k) 0) + (((digs x.natAbs).getD i 0) * ((digs y.natAbs).getD k 0))) + c)) rfl ?_
   refine n_rem (((o.getD (i + k) 0) + (((digs x.natAbs).getD i 0) * ((digs y.natAbs).getD k 0))) + c) 1000000000 gn rfl rfl (by omega) ?_
   refine n_indexRow o (i + k) gn f10_ rfl rfl rfl (by first | omega | (have := hkc (by assumption); omega)) ?_
   refine n_storeRow o (i + k) ((((o.getD (i + k) 0) + (((digs x.natAbs).getD i 0) * ((digs y.natAbs).getD k 0))) + c) % 1000000000) [(2, oZ 37 .i64 x), (3, oZ 37 .i64 y), (4, .var 37 [Fv, Zv]), (5, .row 3 1 (ns .i64 (o.set (i + k) ((((o.getD (i + k) 0) + (((digs x.natAbs).getD i 0) * ((digs y.natAbs).getD k 0))) + c) % 1000000000))))] gn f41_ rfl rfl rfl (by first | omega | (have := hkc (by assumption); omega)) rfl ?_
   refine aops_end (hK13 _ (awp_region rfl (o_mv (Nv (((o.getD (i + k) 0) + (((digs x.natAbs).getD i 0) * ((digs y.natAbs).getD k 0))) + c)) rfl ?_)))
   refine n_quo (((o.getD (i + k) 0) + (((digs x.natAbs).getD i 0) * ((digs y.natAbs).getD k 0))) + c) 1000000000 gn rfl rfl (by omega) (by simp only [topOf]; omega) ?_
   refine o_as (Nv ((((o.getD (i + k) 0) + (((digs x.natAbs).getD i 0) * ((digs y.natAbs).getD k 0))) + c) / 1000000000)) rfl (aops_end (hK11 _ (awp_region rfl (o_mv (Nv k) rfl ?_))))
   refine n_add k 1 gn rfl rfl (by simp only [topOf]; omega) ?_
   refine o_as (Nv (k + 1)) rfl (aops_end ?_)
   refine ⟨_, _, ?lt, ⟨k + 1, (((o.getD (i + k) 0) + (((digs x.natAbs).getD i 0) * ((digs y.natAbs).getD k 0))) + c) / 1000000000, o.set (i + k) ((((o.getD (i + k) 0) + (((digs x.natAbs).getD i 0) * ((digs y.natAbs).getD k 0))) + c) % 1000000000), (by simp only [List.length_set]; exact hl2), (hd2.set (Nat.mod_lt _ (by decide))), (by omega), (by omega), (mul_step (by omega) hv2 rfl), rfl, rfl⟩, ?wk⟩
   case lt => omega
   case wk => exact Wk.sub ⟨rfl, rfl, rfl, rfl, rfl, (by first | rfl | exact nm_int (by omega)), (by first | rfl | exact nm_int (by omega)), trivial⟩ ⟨rfl, rfl, rfl, (by first | rfl | exact row_ns (by simp)), trivial⟩
  ·refine o_move (Nv c) (Gd.yes rfl rfl (decide_eq_false h2)) rfl ?_
   refine n_gtr c 0 (Gd.yes rfl rfl (decide_eq_false h2)) rfl rfl ?_
   refine o_pickF (bp (0 < c)) gn rfl (decide_eq_false h2) rfl ?_
   refine aops_end (hK10 _ ?_)
   refine awp_condQ (q := 0 < c) rfl (fun h3 => ?_) (fun h3 => ?_)
   ·refine awp_skip (hK9 _ (awp_seq fun K14 hK14 => ?_))
    refine awp_block ?_
    refine awp_seq fun K15 hK15 => awp_regionD rfl (o_mv (.row 5) rfl (o_mv (Nv i) rfl (o_mv (Nv k) rfl ?_)))
    refine n_add i k gn rfl rfl (by simp only [topOf]; omega) ?_
    refine n_indexRow o (i + k) gn f10_ rfl rfl rfl (by first | omega | (have := hkc (by assumption); omega)) ?_
    refine n_loadRow o (i + k) gn f11_ rfl rfl (by first | omega | (have := hkc (by assumption); omega)) ?_
    refine o_fieldRef 1 gn f0_ rfl rfl ?_
    refine o_loadS (.sl 1 (ns .i64 (digs x.natAbs))) gn f1_ rfl rfl rfl ?_
    refine o_mv (Nv i) rfl ?_
    refine n_index (digs x.natAbs) i gn f10_ rfl rfl (by omega) ?_
    refine n_loadI (digs x.natAbs) i gn f11_ rfl (by omega) ?_
    refine o_fieldRef 1 gn f0_ rfl rfl ?_
    refine o_loadS (.sl 1 (ns .i64 (digs y.natAbs))) gn f1_ rfl rfl rfl ?_
    refine o_mv (Nv k) rfl ?_
    refine o_ct (c_rPart (digs y.natAbs) k) gn f25_ rfl ?_
    refine n_mul ((digs x.natAbs).getD i 0) ((digs y.natAbs).getD k 0) gn rfl rfl (by simp only [topOf]; omega) ?_
    refine n_add (o.getD (i + k) 0) (((digs x.natAbs).getD i 0) * ((digs y.natAbs).getD k 0)) gn rfl rfl (by simp only [topOf]; omega) ?_
    refine o_mv (Nv c) rfl ?_
    refine n_add ((o.getD (i + k) 0) + (((digs x.natAbs).getD i 0) * ((digs y.natAbs).getD k 0))) c gn rfl rfl (by simp only [topOf]; omega) ?_
    refine o_as (Nv (((o.getD (i + k) 0) + (((digs x.natAbs).getD i 0) * ((digs y.natAbs).getD k 0))) + c)) rfl ?_
    refine aops_end ⟨by kernel_rfl, ?_⟩
    refine hK15 _ (awp_seq fun K16 hK16 => awp_region rfl (o_mv (.row 5) rfl (o_mv (Nv i) rfl (o_mv (Nv k) rfl ?_))))
    refine n_add i k gn rfl rfl (by simp only [topOf]; omega) ?_
    refine o_mv (Nv (((o.getD (i + k) 0) + (((digs x.natAbs).getD i 0) * ((digs y.natAbs).getD k 0))) + c)) rfl ?_
    refine n_rem (((o.getD (i + k) 0) + (((digs x.natAbs).getD i 0) * ((digs y.natAbs).getD k 0))) + c) 1000000000 gn rfl rfl (by omega) ?_
    refine n_indexRow o (i + k) gn f10_ rfl rfl rfl (by first | omega | (have := hkc (by assumption); omega)) ?_
    refine n_storeRow o (i + k) ((((o.getD (i + k) 0) + (((digs x.natAbs).getD i 0) * ((digs y.natAbs).getD k 0))) + c) % 1000000000) [(2, oZ 37 .i64 x), (3, oZ 37 .i64 y), (4, .var 37 [Fv, Zv]), (5, .row 3 1 (ns .i64 (o.set (i + k) ((((o.getD (i + k) 0) + (((digs x.natAbs).getD i 0) * ((digs y.natAbs).getD k 0))) + c) % 1000000000))))] gn f41_ rfl rfl rfl (by first | omega | (have := hkc (by assumption); omega)) rfl ?_
    refine aops_end (hK16 _ (awp_region rfl (o_mv (Nv (((o.getD (i + k) 0) + (((digs x.natAbs).getD i 0) * ((digs y.natAbs).getD k 0))) + c)) rfl ?_)))
    refine n_quo (((o.getD (i + k) 0) + (((digs x.natAbs).getD i 0) * ((digs y.natAbs).getD k 0))) + c) 1000000000 gn rfl rfl (by omega) (by simp only [topOf]; omega) ?_
    refine o_as (Nv ((((o.getD (i + k) 0) + (((digs x.natAbs).getD i 0) * ((digs y.natAbs).getD k 0))) + c) / 1000000000)) rfl (aops_end (hK14 _ (awp_region rfl (o_mv (Nv k) rfl ?_))))
    refine n_add k 1 gn rfl rfl (by simp only [topOf]; omega) ?_
    refine o_as (Nv (k + 1)) rfl (aops_end ?_)
    refine ⟨_, _, ?lt, ⟨k + 1, (((o.getD (i + k) 0) + (((digs x.natAbs).getD i 0) * ((digs y.natAbs).getD k 0))) + c) / 1000000000, o.set (i + k) ((((o.getD (i + k) 0) + (((digs x.natAbs).getD i 0) * ((digs y.natAbs).getD k 0))) + c) % 1000000000), (by simp only [List.length_set]; exact hl2), (hd2.set (Nat.mod_lt _ (by decide))), (by have := hkc (by assumption); omega), (by omega), (mul_step (by have := hkc (by assumption); omega) hv2 rfl), rfl, rfl⟩, ?wk⟩
    case lt => omega
    case wk => exact Wk.sub ⟨rfl, rfl, rfl, rfl, rfl, (by first | rfl | exact nm_int (by omega)), (by first | rfl | exact nm_int (by omega)), trivial⟩ ⟨rfl, rfl, rfl, (by first | rfl | exact row_ns (by simp)), trivial⟩
   ·refine awp_exit ?_
    refine hK6 _ (awp_region rfl (o_mv (Nv i) rfl ?_))
    refine n_add i 1 gn rfl rfl (by simp only [topOf]; omega) ?_
    refine o_as (Nv (i + 1)) rfl (aops_end ?_)
    refine ⟨_, _, ?lt, ⟨i + 1, o, hl2, hd2, (by omega), (mul_end (k := k) (by omega) (by rw [show c = 0 by omega] at hv2; exact hv2)), rfl, rfl⟩, ?wk⟩
    case lt => omega
    case wk => exact Wk.sub ⟨rfl, rfl, rfl, rfl, (by first | rfl | exact nm_int (by omega)), trivial⟩ ⟨rfl, rfl, rfl, rfl, trivial⟩
 ·refine awp_exit ?_
  refine hK2 _ (awp_seq fun K17 hK17 => awp_region rfl ?_)
  refine o_fieldRef 0 gn f3_ rfl rfl ?_
  refine o_loadS (bp (x < 0)) gn f4_ rfl rfl rfl ?_
  refine o_fieldRef 0 gn f3_ rfl rfl ?_
  refine o_loadS (bp (y < 0)) gn f4_ rfl rfl rfl ?_
  refine o_neqB (a := (decide (x < 0))) (c := (decide (y < 0))) gn rfl rfl f30_ ?_
  refine o_mv (.row 5) rfl ?_
  refine o_callG [(5, 1, ns .i64 o)] [bp ((decide (x < 0)) ≠ (decide (y < 0))), .sl 1 (ns .i64 o)] _ (intR (sg (decide ((decide (x < 0)) ≠ (decide (y < 0)))) (val o))) [(2, oZ 37 .i64 x), (3, oZ 37 .i64 y), (4, .var 37 [Fv, Zv])] gn f32_ rfl ⟨⟨_, rfl⟩, trivial⟩ rfl rfl (LeL.cons (AV.le_refl _) (LeL.cons (AV.le_refl _) LeL.nil)) (c_rTrim (decide ((decide (x < 0)) ≠ (decide (y < 0)))) o (by first | assumption | exact dgn_dig _ _ | exact digs_dig _ | exact Dig.snoc (by assumption) (by assumption) | exact Dig.cons (by omega) (digs_dig _))) rfl ?_
  refine o_store [(2, oZ 37 .i64 x), (3, oZ 37 .i64 y), (4, oZ 37 .i64 (sg (decide ((decide (x < 0)) ≠ (decide (y < 0)))) (val o)))] gn f13_ rfl rfl rfl rfl rfl rfl ?_
  refine aops_end (hK17 _ ?_)
  refine awp_ret ?_
  refine post_ret ⟨[intR (sg (decide ((decide (x < 0)) ≠ (decide (y < 0)))) (val o))], ⟨⟨4, oZ 37 .i64 (sg (decide ((decide (x < 0)) ≠ (decide (y < 0)))) (val o)), rfl, rfl, rfl, Or.inl ⟨f14_, AV.le_refl _⟩⟩, trivial⟩, rfl, ?_⟩
  refine congrArg (intK .i64) ?_
  rw [hv, val_take_all (by omega), val_digs]
  exact sg_mul x y

theorem c_wMul (x y : Int) (hx : (digs x.natAbs).length ≤ 1000000000) (hy : (digs y.natAbs).length ≤ 1000000000) : ECalls cx 69 [intW x, intW y] (intW (x * y)) := by
 refine ecalls_of_awp Tryz.func69 (c := _) rfl (Nat.le_of_ble_eq_true rfl) ?_
 show awp cx 97 _ (postF cx Tryz.f69 _) ⟨[(0, intW x), (1, intW y)], []⟩
 refine awp_seq fun K0 hK0 => awp_region rfl ?_
 refine o_box 2 [bp (x < 0), .sl 1 (ns .u32 (digs x.natAbs))] gn rfl rfl ?_
 refine o_box 3 [bp (y < 0), .sl 1 (ns .u32 (digs y.natAbs))] gn rfl rfl ?_
 refine o_alloc 4 [Fv, Zv] gn f15_ rfl rfl rfl ?_
 refine aops_end (hK0 _ (awp_seq fun K1 hK1 => awp_region rfl ?_))
 refine o_fieldRef 1 gn f5_ rfl rfl ?_
 refine o_loadS (.sl 1 (ns .u32 (digs x.natAbs))) gn f6_ rfl rfl rfl ?_
 refine n_len (digs x.natAbs) gn f7_ rfl ?_
 refine o_fieldRef 1 gn f5_ rfl rfl ?_
 refine o_loadS (.sl 1 (ns .u32 (digs y.natAbs))) gn f6_ rfl rfl rfl ?_
 refine n_len (digs y.natAbs) gn f7_ rfl ?_
 refine n_add ((digs x.natAbs).length) ((digs y.natAbs).length) gn rfl rfl (by simp only [topOf]; omega) ?_
 refine n_add (((digs x.natAbs).length) + ((digs y.natAbs).length)) 1 gn rfl rfl (by simp only [topOf]; omega) ?_
 refine n_make 5 ((((digs x.natAbs).length) + ((digs y.natAbs).length)) + 1) gn f16_ f27_ rfl rfl (by omega) rfl rfl ?_
 refine o_as (.row 5) rfl (aops_end (hK1 _ (awp_seq fun K2 hK2 => awp_seq fun K3 hK3 => awp_region rfl ?_)))
 refine o_fieldRef 1 gn f5_ rfl rfl ?_
 refine o_loadS (.sl 1 (ns .u32 (digs x.natAbs))) gn f6_ rfl rfl rfl ?_
 refine n_len (digs x.natAbs) gn f7_ rfl ?_
 refine o_mv (Nv 0) rfl (aops_end (hK3 _ ?_))
 refine awp_block ?_
 refine awp_loopR (fun κ σ => ∃ (i : Nat), ∃ (o : List Nat), (o.length = (digs x.natAbs).length + (digs y.natAbs).length + 1) ∧ (Dig o) ∧ (i ≤ (digs x.natAbs).length) ∧ (val o = val ((digs x.natAbs).take i) * y.natAbs) ∧ ((digs x.natAbs).length - i) = κ ∧ σ = ⟨[(2, .ref 2 0), (3, .ref 3 0), (4, .ref 4 0), (5, .row 5), (24, .sl 1 (ns .u32 (digs x.natAbs))), (25, Nv ((digs x.natAbs).length)), (26, Nv i)], [(2, oZ 51 .u32 x), (3, oZ 51 .u32 y), (4, .var 51 [Fv, Zv]), (5, .row 93 1 (ns .u32 o))]⟩) ⟨_, _, ⟨0, List.replicate ((digs x.natAbs).length + (digs y.natAbs).length + 1) 0, (by simp), Dig.repl _, (by omega), (by rw [val_repl]; simp [val]), rfl, rfl⟩, ?wk0⟩ ?rd0
 case wk0 =>
  exact Wk.sub ⟨rfl, rfl, rfl, rfl, rfl, (by first | rfl | exact nm_int (by omega)), (by first | rfl | exact nm_int (by omega)), trivial⟩ ⟨rfl, rfl, rfl, (by first | rfl | exact row_ns (by simp)), trivial⟩
 rintro κ _ ⟨i, o, hl, hd, hi, hv, rfl, rfl⟩
 refine awp_seq fun K4 hK4 => awp_region rfl ?_
 refine n_lss i ((digs x.natAbs).length) gn rfl rfl ?_
 refine aops_end (hK4 _ (awp_seq fun K5 hK5 => ?_))
 refine awp_condQ (q := i < ((digs x.natAbs).length)) rfl (fun h1 => ?_) (fun h1 => ?_)
 ·refine awp_skip (hK5 _ (awp_seq fun K6 hK6 => ?_))
  refine awp_block ?_
  refine awp_seq fun K7 hK7 => awp_region rfl (o_mv (Nv i) rfl ?_)
  refine n_index (digs x.natAbs) i gn f16_ rfl rfl (by omega) ?_
  refine n_loadI (digs x.natAbs) i gn f17_ rfl (by omega) ?_
  refine o_as (Nv i) rfl (o_as (nm .u32 ((digs x.natAbs).getD i 0)) rfl (aops_end (hK7 _ (awp_seq fun K8 hK8 => awp_region rfl (o_as (nm .u64 0) rfl (aops_end (hK8 _ (awp_seq fun K9 hK9 => awp_seq fun K10 hK10 => awp_region rfl ?_))))))))
  refine o_fieldRef 1 gn f5_ rfl rfl ?_
  refine o_loadS (.sl 1 (ns .u32 (digs y.natAbs))) gn f6_ rfl rfl rfl ?_
  refine n_len (digs y.natAbs) gn f7_ rfl ?_
  refine o_mv (Nv 0) rfl (aops_end (hK10 _ ?_))
  refine awp_block ?_
  refine awp_loopR (fun κ σ => ∃ (k : Nat), ∃ (c : Nat), ∃ (o : List Nat), (o.length = (digs x.natAbs).length + (digs y.natAbs).length + 1) ∧ (Dig o) ∧ (k ≤ (digs y.natAbs).length) ∧ (c < 1000000000) ∧ (val o + 1000000000 ^ (i + k) * c = val ((digs x.natAbs).take i) * y.natAbs + 1000000000 ^ i * ((digs x.natAbs).getD i 0 * val ((digs y.natAbs).take k))) ∧ ((digs y.natAbs).length - k) = κ ∧ σ = ⟨[(2, .ref 2 0), (3, .ref 3 0), (4, .ref 4 0), (5, .row 5), (24, .sl 1 (ns .u32 (digs x.natAbs))), (25, Nv ((digs x.natAbs).length)), (26, Nv i), (6, Nv i), (7, nm .u32 ((digs x.natAbs).getD i 0)), (8, nm .u64 c), (32, .sl 1 (ns .u32 (digs y.natAbs))), (33, Nv ((digs y.natAbs).length)), (34, Nv k)], [(2, oZ 51 .u32 x), (3, oZ 51 .u32 y), (4, .var 51 [Fv, Zv]), (5, .row 93 1 (ns .u32 o))]⟩) ⟨_, _, ⟨0, 0, _, hl, hd, (by omega), (by omega), (by simp only [Nat.mul_zero, Nat.add_zero, hv, List.take_zero, val]), rfl, rfl⟩, ?wk1⟩ ?rd1
  case wk1 =>
   exact Wk.sub ⟨rfl, rfl, rfl, rfl, rfl, rfl, rfl, rfl, (by first | rfl | exact nm_int (by omega)), (by first | rfl | exact nm_int (by omega)), rfl, (by first | rfl | exact nm_int (by omega)), (by first | rfl | exact nm_int (by omega)), trivial⟩ ⟨rfl, rfl, rfl, rfl, trivial⟩
  rintro κ _ ⟨k, c, o, hl2, hd2, hk, hc, hv2, rfl, rfl⟩
  have hA := (digs_dig x.natAbs).mulb (digs_dig y.natAbs) i k
  have hA1 := (digs_dig x.natAbs).getD i
  have hB1 := (digs_dig y.natAbs).getD k
  have hO := hd2.getD (i + k)
  refine awp_seq fun K11 hK11 => awp_region rfl ?_
  refine n_lss k ((digs y.natAbs).length) gn rfl rfl ?_
  refine aops_end (hK11 _ (awp_seq fun K12 hK12 => ?_))
  refine awp_condQ (q := k < ((digs y.natAbs).length)) rfl (fun h2 => ?_) (fun h2 => ?_)
  ·refine awp_skip (hK12 _ (awp_seq fun K13 hK13 => ?_))
   refine awp_block ?_
   refine awp_seq fun K14 hK14 => awp_region rfl (o_mv (Nv k) rfl ?_)
   refine n_index (digs y.natAbs) k gn f16_ rfl rfl (by omega) ?_
   refine n_loadI (digs y.natAbs) k gn f17_ rfl (by omega) ?_
   refine o_as (Nv k) rfl (o_as (nm .u32 ((digs y.natAbs).getD k 0)) rfl (aops_end (hK14 _ (awp_seq fun K15 hK15 => awp_region rfl (o_mv (.row 5) rfl (o_mv (Nv i) rfl (o_mv (Nv k) rfl ?_)))))))
   refine n_add i k gn rfl rfl (by simp only [topOf]; omega) ?_
   refine n_indexRow o (i + k) gn f16_ rfl rfl rfl (by omega) ?_
   refine n_loadRow o (i + k) gn f17_ rfl rfl (by omega) ?_
   refine n_conv (o.getD (i + k) 0) gn rfl f28_ f40_ (by simp only [topOf]; omega) ?_
   refine o_mv (nm .u32 ((digs x.natAbs).getD i 0)) rfl ?_
   refine n_conv ((digs x.natAbs).getD i 0) gn rfl f28_ f40_ (by simp only [topOf]; omega) ?_
   refine o_mv (nm .u32 ((digs y.natAbs).getD k 0)) rfl ?_
   refine n_conv ((digs y.natAbs).getD k 0) gn rfl f28_ f40_ (by simp only [topOf]; omega) ?_
   refine n_mul ((digs x.natAbs).getD i 0) ((digs y.natAbs).getD k 0) gn rfl rfl (by simp only [topOf]; omega) ?_
   refine n_add (o.getD (i + k) 0) (((digs x.natAbs).getD i 0) * ((digs y.natAbs).getD k 0)) gn rfl rfl (by simp only [topOf]; omega) ?_
   refine o_mv (nm .u64 c) rfl ?_
   refine n_add ((o.getD (i + k) 0) + (((digs x.natAbs).getD i 0) * ((digs y.natAbs).getD k 0))) c gn rfl rfl (by simp only [topOf]; omega) ?_
   refine o_as (nm .u64 (((o.getD (i + k) 0) + (((digs x.natAbs).getD i 0) * ((digs y.natAbs).getD k 0))) + c)) rfl (aops_end (hK15 _ (awp_seq fun K16 hK16 => awp_region rfl (o_mv (.row 5) rfl (o_mv (Nv i) rfl (o_mv (Nv k) rfl ?_))))))
   refine n_add i k gn rfl rfl (by simp only [topOf]; omega) ?_
   refine o_mv (nm .u64 (((o.getD (i + k) 0) + (((digs x.natAbs).getD i 0) * ((digs y.natAbs).getD k 0))) + c)) rfl ?_
   refine n_rem (((o.getD (i + k) 0) + (((digs x.natAbs).getD i 0) * ((digs y.natAbs).getD k 0))) + c) 1000000000 gn rfl rfl (by omega) ?_
   refine n_conv ((((o.getD (i + k) 0) + (((digs x.natAbs).getD i 0) * ((digs y.natAbs).getD k 0))) + c) % 1000000000) gn rfl f40_ f28_ (by simp only [topOf]; omega) ?_
   refine n_indexRow o (i + k) gn f16_ rfl rfl rfl (by omega) ?_
   refine n_storeRow o (i + k) ((((o.getD (i + k) 0) + (((digs x.natAbs).getD i 0) * ((digs y.natAbs).getD k 0))) + c) % 1000000000) [(2, oZ 51 .u32 x), (3, oZ 51 .u32 y), (4, .var 51 [Fv, Zv]), (5, .row 93 1 (ns .u32 (o.set (i + k) ((((o.getD (i + k) 0) + (((digs x.natAbs).getD i 0) * ((digs y.natAbs).getD k 0))) + c) % 1000000000))))] gn f42_ rfl rfl rfl (by omega) rfl ?_
   refine aops_end (hK16 _ (awp_region rfl (o_mv (nm .u64 (((o.getD (i + k) 0) + (((digs x.natAbs).getD i 0) * ((digs y.natAbs).getD k 0))) + c)) rfl ?_)))
   refine n_quo (((o.getD (i + k) 0) + (((digs x.natAbs).getD i 0) * ((digs y.natAbs).getD k 0))) + c) 1000000000 gn rfl rfl (by omega) (by simp only [topOf]; omega) ?_
   refine o_as (nm .u64 ((((o.getD (i + k) 0) + (((digs x.natAbs).getD i 0) * ((digs y.natAbs).getD k 0))) + c) / 1000000000)) rfl (aops_end (hK13 _ (awp_region rfl ?_)))
   refine n_add k 1 gn rfl rfl (by simp only [topOf]; omega) ?_
   refine o_mv (Nv (k + 1)) rfl (aops_end ?_)
   refine ⟨_, _, ?lt, ⟨k + 1, (((o.getD (i + k) 0) + (((digs x.natAbs).getD i 0) * ((digs y.natAbs).getD k 0))) + c) / 1000000000, o.set (i + k) ((((o.getD (i + k) 0) + (((digs x.natAbs).getD i 0) * ((digs y.natAbs).getD k 0))) + c) % 1000000000), (by simp only [List.length_set]; exact hl2), (hd2.set (Nat.mod_lt _ (by decide))), (by omega), (by omega), (mul_step (by omega) hv2 rfl), rfl, rfl⟩, ?wk⟩
   case lt => omega
   case wk => exact Wk.sub ⟨rfl, rfl, rfl, rfl, rfl, rfl, rfl, rfl, rfl, (by first | rfl | exact nm_int (by omega)), rfl, rfl, (by first | rfl | exact nm_int (by omega)), trivial⟩ ⟨rfl, rfl, rfl, (by first | rfl | exact row_ns (by simp)), trivial⟩
  ·refine awp_exit ?_
   refine hK9 _ (awp_seq fun K17 hK17 => awp_region rfl (o_mv (Nv i) rfl ?_))
   refine o_fieldRef 1 gn f5_ rfl rfl ?_
   refine o_loadS (.sl 1 (ns .u32 (digs y.natAbs))) gn f6_ rfl rfl rfl ?_
   refine n_len (digs y.natAbs) gn f7_ rfl ?_
   refine n_add i ((digs y.natAbs).length) gn rfl rfl (by simp only [topOf]; omega) ?_
   refine o_as (Nv (i + ((digs y.natAbs).length))) rfl (aops_end (hK17 _ ?_))
   refine awp_block ?_
   refine awp_loopR (fun κ σ => ∃ (k : Nat), ∃ (c : Nat), ∃ (o : List Nat), (o.length = (digs x.natAbs).length + (digs y.natAbs).length + 1) ∧ (Dig o) ∧ ((digs y.natAbs).length ≤ k) ∧ (k ≤ (digs y.natAbs).length + 1) ∧ (c < 1000000000) ∧ (val o + 1000000000 ^ (i + k) * c = val ((digs x.natAbs).take i) * y.natAbs + 1000000000 ^ i * ((digs x.natAbs).getD i 0 * val ((digs y.natAbs).take k))) ∧ ((digs y.natAbs).length + 1 - k) = κ ∧ σ = ⟨[(2, .ref 2 0), (3, .ref 3 0), (4, .ref 4 0), (5, .row 5), (24, .sl 1 (ns .u32 (digs x.natAbs))), (25, Nv ((digs x.natAbs).length)), (26, Nv i), (6, Nv i), (8, nm .u64 c), (12, Nv (i + k))], [(2, oZ 51 .u32 x), (3, oZ 51 .u32 y), (4, .var 51 [Fv, Zv]), (5, .row 93 1 (ns .u32 o))]⟩) ⟨_, _, ⟨k, c, o, hl2, hd2, (by omega), (by omega), hc, hv2, rfl, rfl⟩, ?wk2⟩ ?rd2
   case wk2 =>
    exact Wk.sub ⟨rfl, rfl, rfl, rfl, rfl, rfl, rfl, rfl, rfl, (by first | rfl | exact nm_int (by omega)), trivial⟩ ⟨rfl, rfl, rfl, rfl, trivial⟩
   rintro κ _ ⟨k, c, o, hl3, hd3, hk3, hk4, hc3, hv3, rfl, rfl⟩
   have hO3 := hd3.getD (i + k)
   have hkc := mul_k hv3
   refine awp_seq fun K18 hK18 => awp_seq fun K19 hK19 => awp_region rfl (o_mv (nm .u64 c) rfl ?_)
   refine n_gtr c 0 gn rfl rfl ?_
   refine aops_end (hK19 _ ?_)
   refine awp_condQ (q := 0 < c) rfl (fun h3 => ?_) (fun h3 => ?_)
   ·refine awp_skip (hK18 _ (awp_seq fun K20 hK20 => ?_))
    refine awp_block ?_
    refine awp_seq fun K21 hK21 => awp_region rfl (o_mv (.row 5) rfl (o_mv (Nv (i + k)) rfl ?_))
    refine n_indexRow o (i + k) gn f16_ rfl rfl rfl (by have := hkc (by assumption); omega) ?_
    refine n_loadRow o (i + k) gn f17_ rfl rfl (by have := hkc (by assumption); omega) ?_
    refine n_conv (o.getD (i + k) 0) gn rfl f28_ f40_ (by simp only [topOf]; omega) ?_
    refine o_mv (nm .u64 c) rfl ?_
    refine n_add (o.getD (i + k) 0) c gn rfl rfl (by simp only [topOf]; omega) ?_
    refine o_as (nm .u64 ((o.getD (i + k) 0) + c)) rfl (aops_end (hK21 _ (awp_seq fun K22 hK22 => awp_region rfl (o_mv (.row 5) rfl (o_mv (Nv (i + k)) rfl (o_mv (nm .u64 ((o.getD (i + k) 0) + c)) rfl ?_))))))
    refine n_rem ((o.getD (i + k) 0) + c) 1000000000 gn rfl rfl (by omega) ?_
    refine n_conv (((o.getD (i + k) 0) + c) % 1000000000) gn rfl f40_ f28_ (by simp only [topOf]; omega) ?_
    refine n_indexRow o (i + k) gn f16_ rfl rfl rfl (by have := hkc (by assumption); omega) ?_
    refine n_storeRow o (i + k) (((o.getD (i + k) 0) + c) % 1000000000) [(2, oZ 51 .u32 x), (3, oZ 51 .u32 y), (4, .var 51 [Fv, Zv]), (5, .row 93 1 (ns .u32 (o.set (i + k) (((o.getD (i + k) 0) + c) % 1000000000))))] gn f42_ rfl rfl rfl (by have := hkc (by assumption); omega) rfl ?_
    refine aops_end (hK22 _ (awp_region rfl (o_mv (nm .u64 ((o.getD (i + k) 0) + c)) rfl ?_)))
    refine n_quo ((o.getD (i + k) 0) + c) 1000000000 gn rfl rfl (by omega) (by simp only [topOf]; omega) ?_
    refine o_as (nm .u64 (((o.getD (i + k) 0) + c) / 1000000000)) rfl (aops_end (hK20 _ (awp_region rfl (o_mv (Nv (i + k)) rfl ?_))))
    refine n_add (i + k) 1 gn rfl rfl (by simp only [topOf]; omega) ?_
    refine o_as (Nv ((i + k) + 1)) rfl (aops_end ?_)
    refine ⟨_, _, ?lt, ⟨k + 1, ((o.getD (i + k) 0) + c) / 1000000000, o.set (i + k) (((o.getD (i + k) 0) + c) % 1000000000), (by simp only [List.length_set]; exact hl3), (hd3.set (Nat.mod_lt _ (by decide))), (by omega), (by have := hkc (by assumption); omega), (by omega), (mul_step (by have := hkc (by assumption); omega) hv3 (by rw [getD_ge (xs := digs y.natAbs) hk3]; simp)), rfl, rfl⟩, ?wk⟩
    case lt => (have := hkc (by assumption); omega)
    case wk => exact Wk.sub ⟨rfl, rfl, rfl, rfl, rfl, rfl, rfl, rfl, (by first | rfl | exact nm_int (by omega)), (by first | rfl | exact nm_int (by omega)), trivial⟩ ⟨rfl, rfl, rfl, (by first | rfl | exact row_ns (by simp)), trivial⟩
   ·refine awp_exit ?_
    refine hK6 _ (awp_region rfl ?_)
    refine n_add i 1 gn rfl rfl (by simp only [topOf]; omega) ?_
    refine o_mv (Nv (i + 1)) rfl (aops_end ?_)
    refine ⟨_, _, ?lt, ⟨i + 1, o, hl3, hd3, (by omega), (mul_end (k := k) (by omega) (by rw [show c = 0 by omega] at hv3; exact hv3)), rfl, rfl⟩, ?wk⟩
    case lt => omega
    case wk => exact Wk.sub ⟨rfl, rfl, rfl, rfl, rfl, rfl, (by first | rfl | exact nm_int (by omega)), trivial⟩ ⟨rfl, rfl, rfl, rfl, trivial⟩
 ·refine awp_exit ?_
  refine hK2 _ (awp_seq fun K23 hK23 => awp_region rfl ?_)
  refine o_fieldRef 0 gn f8_ rfl rfl ?_
  refine o_loadS (bp (x < 0)) gn f4_ rfl rfl rfl ?_
  refine o_fieldRef 0 gn f8_ rfl rfl ?_
  refine o_loadS (bp (y < 0)) gn f4_ rfl rfl rfl ?_
  refine o_neqB (a := (decide (x < 0))) (c := (decide (y < 0))) gn rfl rfl f30_ ?_
  refine o_mv (.row 5) rfl ?_
  refine o_callG [(5, 1, ns .u32 o)] [bp ((decide (x < 0)) ≠ (decide (y < 0))), .sl 1 (ns .u32 o)] _ (intW (sg (decide ((decide (x < 0)) ≠ (decide (y < 0)))) (val o))) [(2, oZ 51 .u32 x), (3, oZ 51 .u32 y), (4, .var 51 [Fv, Zv])] gn f35_ rfl ⟨⟨_, rfl⟩, trivial⟩ rfl rfl (LeL.cons (AV.le_refl _) (LeL.cons (AV.le_refl _) LeL.nil)) (c_wTrim (decide ((decide (x < 0)) ≠ (decide (y < 0)))) o (by first | assumption | exact dgn_dig _ _ | exact digs_dig _ | exact Dig.snoc (by assumption) (by assumption) | exact Dig.cons (by omega) (digs_dig _))) rfl ?_
  refine o_store [(2, oZ 51 .u32 x), (3, oZ 51 .u32 y), (4, oZ 51 .u32 (sg (decide ((decide (x < 0)) ≠ (decide (y < 0)))) (val o)))] gn f19_ rfl rfl rfl rfl rfl rfl ?_
  refine aops_end (hK23 _ ?_)
  refine awp_ret ?_
  refine post_ret ⟨[intW (sg (decide ((decide (x < 0)) ≠ (decide (y < 0)))) (val o))], ⟨⟨4, oZ 51 .u32 (sg (decide ((decide (x < 0)) ≠ (decide (y < 0)))) (val o)), rfl, rfl, rfl, Or.inl ⟨f20_, AV.le_refl _⟩⟩, trivial⟩, rfl, ?_⟩
  refine congrArg (intK .u32) ?_
  rw [hv, val_take_all (by omega), val_digs]
  exact sg_mul x y

end Go.Proofs.YtaeknciienkijaaGreatDoor

namespace Go.Proofs.YtaeknciienkijaaGreatDoor
open Go Go.Ab Go.Mth
theorem f43_ : callable cx.P 96 = true := by kernel_rfl
theorem f44_ : callable cx.P 62 = true := by kernel_rfl
theorem f45_ : callable cx.P 60 = true := by kernel_rfl
theorem f46_ : callable cx.P 18 = true := by kernel_rfl
theorem f47_ : callable cx.P 43 = true := by kernel_rfl
theorem c_rQR (z : Int) (d : Nat) (hd0 : 0 < d) (hd2 : d ≤ 2147483647) (hz : (digs z.natAbs).length ≤ 1000000000) : ECalls cx 59 [intR z, Nv d] (.tup [(intR (z / (d : Int))), .lit (.int .i64 (z % (d : Int)))]) := by
 refine ecalls_of_awp Tryz.func59 (c := _) rfl (Nat.le_of_ble_eq_true rfl) ?_
 show awp cx 58 _ (postF cx Tryz.f59 _) ⟨[(0, intR z), (1, Nv d)], []⟩
 refine awp_seq fun K0 hK0 => awp_region rfl ?_
 refine o_box 2 [bp (z < 0), .sl 1 (ns .i64 (digs z.natAbs))] gn rfl rfl ?_
 refine o_alloc 3 [Fv, Zv] gn f9_ rfl rfl rfl ?_
 refine o_as (Nv 0) rfl (aops_end (hK0 _ (awp_seq fun K1 hK1 => awp_region rfl ?_)))
 refine o_fieldRef 1 gn f0_ rfl rfl ?_
 refine o_loadS (.sl 1 (ns .i64 (digs z.natAbs))) gn f1_ rfl rfl rfl ?_
 refine n_len (digs z.natAbs) gn f2_ rfl ?_
 refine n_make 4 ((digs z.natAbs).length) gn f10_ f26_ rfl rfl (by omega) rfl rfl ?_
 refine o_as (.row 4) rfl (aops_end (hK1 _ (awp_seq fun K2 hK2 => awp_region rfl (o_as (Nv 0) rfl (aops_end (hK2 _ (awp_seq fun K3 hK3 => awp_seq fun K4 hK4 => awp_region rfl ?_)))))))
 refine o_fieldRef 1 gn f0_ rfl rfl ?_
 refine o_loadS (.sl 1 (ns .i64 (digs z.natAbs))) gn f1_ rfl rfl rfl ?_
 refine n_len (digs z.natAbs) gn f2_ rfl ?_
 refine o_sub (a := (((digs z.natAbs).length : Nat) : Int)) (c := ((1 : Nat) : Int)) gn rfl rfl (by exact wrap64 (by omega) (by omega)) ?_
 refine o_as (Iv ((((digs z.natAbs).length : Nat) : Int) - ((1 : Nat) : Int))) rfl (aops_end (hK4 _ ?_))
 refine awp_block ?_
 refine awp_loopR (fun κ σ => ∃ (j : Nat), ∃ (o : List Nat), ∃ (r : Nat), (j ≤ (digs z.natAbs).length) ∧ (o.length = (digs z.natAbs).length) ∧ (Dig o) ∧ (r < d) ∧ (val ((digs z.natAbs).drop j) = d * val (o.drop j) + r) ∧ j = κ ∧ σ = ⟨[(1, Nv d), (2, .ref 2 0), (4, .ref 3 0), (6, .row 4), (7, Nv r), (8, (Iv ((j : Int) - 1)))], [(2, oZ 37 .i64 z), (3, .var 37 [Fv, Zv]), (4, .row 3 1 (ns .i64 o))]⟩) ⟨_, _, ⟨(digs z.natAbs).length, List.replicate (digs z.natAbs).length 0, 0, Nat.le_refl _, (by simp), Dig.repl _, hd0, (by rw [val_drop_all (Nat.le_refl _), val_drop_all (by simp)]; simp), rfl, rfl⟩, ?wk0⟩ ?rd0
 case wk0 =>
  exact Wk.sub ⟨rfl, rfl, rfl, rfl, (by first | rfl | exact nm_int (by omega)), (by first | rfl | exact int_eq (by omega) | exact int_nm (by omega)), trivial⟩ ⟨rfl, rfl, (by first | rfl | exact row_ns (by simp)), trivial⟩
 rintro κ _ ⟨j, o, r, hj, hl, hd, hr, hv, rfl, rfl⟩
 have hA := (digs_dig z.natAbs).getD (j - 1)
 refine awp_seq fun K5 hK5 => awp_seq fun K6 hK6 => awp_region rfl (o_mv (Iv ((j : Int) - 1)) rfl ?_)
 refine o_geq (a := ((j : Int) - 1)) (c := ((0 : Nat) : Int)) gn rfl rfl ?_
 refine aops_end (hK6 _ ?_)
 refine awp_condQ (q := ((0 : Nat) : Int) ≤ ((j : Int) - 1)) rfl (fun h1 => ?_) (fun h1 => ?_)
 ·refine awp_wk (Wk.slot (i := 8) (y := (Nv (j - 1))) (AV.le_eq (by exact nm_int (by omega)))) ?_
  refine awp_skip (hK5 _ (awp_seq fun K7 hK7 => ?_))
  refine awp_block ?_
  refine awp_seq fun K8 hK8 => awp_region rfl (o_mv (Nv r) rfl ?_)
  refine n_mul r 1000000000 gn rfl rfl (by simp only [topOf]; omega) ?_
  refine o_fieldRef 1 gn f0_ rfl rfl ?_
  refine o_loadS (.sl 1 (ns .i64 (digs z.natAbs))) gn f1_ rfl rfl rfl ?_
  refine o_mv (Nv (j - 1)) rfl ?_
  refine n_index (digs z.natAbs) (j - 1) gn f10_ rfl rfl (by omega) ?_
  refine n_loadI (digs z.natAbs) (j - 1) gn f11_ rfl (by omega) ?_
  refine n_add (r * 1000000000) ((digs z.natAbs).getD (j - 1) 0) gn rfl rfl (by simp only [topOf]; omega) ?_
  refine o_as (Nv ((r * 1000000000) + ((digs z.natAbs).getD (j - 1) 0))) rfl (aops_end (hK8 _ (awp_seq fun K9 hK9 => awp_region rfl (o_mv (.row 4) rfl (o_mv (Nv (j - 1)) rfl (o_mv (Nv ((r * 1000000000) + ((digs z.natAbs).getD (j - 1) 0))) rfl (o_mv (Nv d) rfl ?_)))))))
  refine n_quo ((r * 1000000000) + ((digs z.natAbs).getD (j - 1) 0)) d gn rfl rfl (by omega) (by simp only [topOf]; have := div_dig hr hA rfl; omega) ?_
  refine n_indexRow o (j - 1) gn f10_ rfl rfl rfl (by omega) ?_
  refine n_storeRow o (j - 1) (((r * 1000000000) + ((digs z.natAbs).getD (j - 1) 0)) / d) [(2, oZ 37 .i64 z), (3, .var 37 [Fv, Zv]), (4, .row 3 1 (ns .i64 (o.set (j - 1) (((r * 1000000000) + ((digs z.natAbs).getD (j - 1) 0)) / d))))] gn f41_ rfl rfl rfl (by omega) rfl ?_
  refine aops_end (hK9 _ (awp_region rfl (o_mv (Nv ((r * 1000000000) + ((digs z.natAbs).getD (j - 1) 0))) rfl (o_mv (Nv d) rfl ?_))))
  refine n_rem ((r * 1000000000) + ((digs z.natAbs).getD (j - 1) 0)) d gn rfl rfl (by omega) ?_
  refine o_as (Nv (((r * 1000000000) + ((digs z.natAbs).getD (j - 1) 0)) % d)) rfl (aops_end (hK7 _ (awp_region rfl (o_mv (Nv (j - 1)) rfl ?_))))
  refine o_sub (a := ((j - 1 : Nat) : Int)) (c := ((1 : Nat) : Int)) gn rfl rfl (by exact wrap64 (by omega) (by omega)) ?_
  refine o_as (Iv (((j - 1 : Nat) : Int) - ((1 : Nat) : Int))) rfl (aops_end ?_)
  refine ⟨_, _, ?lt, ⟨j - 1, o.set (j - 1) (((r * 1000000000) + ((digs z.natAbs).getD (j - 1) 0)) / d), ((r * 1000000000) + ((digs z.natAbs).getD (j - 1) 0)) % d, (by omega), (by simp only [List.length_set]; exact hl), hd.set (div_dig hr hA rfl), Nat.mod_lt _ hd0, (div_step (by omega) hl hd0 (by rw [Nat.sub_add_cancel (by omega)]; exact hv) rfl), rfl, rfl⟩, ?wk⟩
  case lt => omega
  case wk => exact Wk.sub ⟨rfl, rfl, rfl, rfl, (by first | rfl | exact nm_int (by omega)), (by first | rfl | exact int_eq (by omega) | exact int_nm (by omega)), trivial⟩ ⟨rfl, rfl, (by first | rfl | exact row_ns (by simp)), trivial⟩
 ·have hj0 : j = 0 := by omega
  have hv0 := hv
  rw [hj0] at hv0
  have hE := div_end hr hv0
  have hq := hE.1
  have hq1 := len_div hE.1 hz false
  have hq2 := len_one
  refine awp_exit ?_
  refine hK3 _ (awp_seq fun K10 hK10 => awp_region rfl (o_mv (.row 4) rfl ?_))
  refine o_callG [(4, 1, ns .i64 o)] [Fv, .sl 1 (ns .i64 o)] _ (intR (sg false (val o))) [(2, oZ 37 .i64 z), (3, .var 37 [Fv, Zv])] gn f32_ rfl ⟨⟨_, rfl⟩, trivial⟩ rfl rfl (LeL.cons (AV.le_refl _) (LeL.cons (AV.le_refl _) LeL.nil)) (c_rTrim false o (by first | assumption | exact dgn_dig _ _ | exact digs_dig _ | exact Dig.snoc (by assumption) (by assumption) | exact Dig.cons (by omega) (digs_dig _))) rfl ?_
  refine o_alloc 101 [Fv, Zv] gn f9_ rfl rfl rfl ?_
  refine o_store [(101, oZ 37 .i64 (sg false (val o))), (2, oZ 37 .i64 z), (3, .var 37 [Fv, Zv])] gn f13_ rfl rfl rfl rfl rfl rfl ?_
  refine aops_end (hK10 _ (awp_seq fun K11 hK11 => awp_seq fun K12 hK12 => awp_region rfl ?_))
  refine o_fieldRef 0 gn f3_ rfl rfl ?_
  refine o_loadS (bp (z < 0)) gn f4_ rfl rfl rfl ?_
  refine o_notP (q := z < 0) gn rfl ?_
  refine aops_end (hK12 _ ?_)
  refine awp_condQ (q := ¬ (z < 0)) rfl (fun h2 => ?_) (fun h2 => ?_)
  ·refine awp_seq fun K13 hK13 => awp_region rfl ?_
   refine o_loadA [bp ((sg false (val o)) < 0), .sl 1 (ns .i64 (digs (sg false (val o)).natAbs))] gn f14_ rfl rfl rfl rfl rfl ?_
   refine o_mv (Nv r) rfl ?_
   refine o_store [(101, oZ 37 .i64 (sg false (val o))), (2, oZ 37 .i64 z), (3, oZ 37 .i64 (sg false (val o)))] gn f13_ rfl rfl rfl rfl rfl rfl ?_
   refine o_as (Nv r) rfl (aops_end (hK13 _ ?_))
   refine awp_ret ?_
   refine post_ret ⟨[intR (sg false (val o)), Nv r], ⟨⟨3, oZ 37 .i64 (sg false (val o)), rfl, rfl, rfl, Or.inl ⟨f14_, AV.le_refl _⟩⟩, AV.le_refl _, trivial⟩, rfl, ?_⟩
   have e := part1 h2 hd0 hE.1 hE.2
   exact tup_eq2 (congrArg (intK .i64) e.1) (int_eq e.2)
  ·refine awp_skip (hK11 _ (awp_seq fun K14 hK14 => awp_seq fun K15 hK15 => awp_region rfl (o_mv (Nv r) rfl ?_)))
   refine n_eql r 0 gn rfl rfl ?_
   refine aops_end (hK15 _ ?_)
   refine awp_condQ (q := r = 0) rfl (fun h3 => ?_) (fun h3 => ?_)
   ·refine awp_seq fun K16 hK16 => awp_region rfl ?_
    refine o_loadA [bp ((sg false (val o)) < 0), .sl 1 (ns .i64 (digs (sg false (val o)).natAbs))] gn f14_ rfl rfl rfl rfl rfl ?_
    refine o_ct (c_rMinus (sg false (val o))) gn f43_ rfl ?_
    refine o_store [(101, oZ 37 .i64 (sg false (val o))), (2, oZ 37 .i64 z), (3, oZ 37 .i64 (-(sg false (val o))))] gn f13_ rfl rfl rfl rfl rfl rfl ?_
    refine o_as (Nv 0) rfl (aops_end (hK16 _ ?_))
    refine awp_ret ?_
    refine post_ret ⟨[intR (-(sg false (val o))), Nv 0], ⟨⟨3, oZ 37 .i64 (-(sg false (val o))), rfl, rfl, rfl, Or.inl ⟨f14_, AV.le_refl _⟩⟩, AV.le_refl _, trivial⟩, rfl, ?_⟩
    have e := part2 (Decidable.not_not.1 h2) hd0 hE.1 hE.2 h3
    exact tup_eq2 (congrArg (intK .i64) (e.1.trans (by simp [sg]))) (int_eq e.2)
   ·refine awp_skip (hK14 _ (awp_seq fun K17 hK17 => awp_regionD rfl ?_))
    refine o_loadA [bp ((sg false (val o)) < 0), .sl 1 (ns .i64 (digs (sg false (val o)).natAbs))] gn f14_ rfl rfl rfl rfl rfl ?_
    refine o_ct (c_rOf (1 : Int) (by first | decide | omega) (by first | decide | omega)) gn f44_ rfl ?_
    refine o_ct (c_rAdd (sg false (val o)) (1 : Int) (by first | omega | assumption | (simp only [Int.natAbs_neg]; omega)) (by first | omega | assumption | (simp only [Int.natAbs_neg]; omega))) gn f45_ rfl ?_
    refine o_ct (c_rMinus ((sg false (val o)) + (1 : Int))) gn f43_ rfl ?_
    refine o_mv (Nv d) rfl (o_mv (Nv r) rfl ?_)
    refine o_sub (a := ((d : Nat) : Int)) (c := ((r : Nat) : Int)) gn rfl rfl (by exact wrap64 (by omega) (by omega)) ?_
    refine o_store [(101, oZ 37 .i64 (sg false (val o))), (2, oZ 37 .i64 z), (3, (oZ 37 .i64 (-((sg false (val o)) + (1 : Int)))))] gn f13_ rfl rfl rfl rfl rfl rfl ?_
    refine o_as (Iv (((d : Nat) : Int) - ((r : Nat) : Int))) rfl ?_
    refine aops_end ⟨by kernel_rfl, ?_⟩
    refine hK17 _ ?_
    refine awp_ret ?_
    refine post_ret ⟨[(intR (-((sg false (val o)) + (1 : Int)))), (Iv (((d : Nat) : Int) - ((r : Nat) : Int)))], ⟨⟨3, (oZ 37 .i64 (-((sg false (val o)) + (1 : Int)))), rfl, rfl, rfl, Or.inl ⟨f14_, AV.le_refl _⟩⟩, AV.le_refl _, trivial⟩, rfl, ?_⟩
    have e := part3 (Decidable.not_not.1 h2) hd0 hE.1 hE.2 h3
    exact tup_eq2 (congrArg (intK .i64) (e.1.trans (by simp [sg]; omega))) (int_eq e.2)

theorem c_wQR (z : Int) (d : Nat) (hd0 : 0 < d) (hd2 : d ≤ 2147483647) (hz : (digs z.natAbs).length ≤ 1000000000) : ECalls cx 73 [intW z, Nv d] (.tup [(intW (z / (d : Int))), .lit (.int .i64 (z % (d : Int)))]) := by
 refine ecalls_of_awp Tryz.func73 (c := _) rfl (Nat.le_of_ble_eq_true rfl) ?_
 show awp cx 64 _ (postF cx Tryz.f73 _) ⟨[(0, intW z), (1, Nv d)], []⟩
 refine awp_seq fun K0 hK0 => awp_region rfl ?_
 refine o_box 2 [bp (z < 0), .sl 1 (ns .u32 (digs z.natAbs))] gn rfl rfl ?_
 refine o_alloc 3 [Fv, Zv] gn f15_ rfl rfl rfl ?_
 refine o_as (Nv 0) rfl (aops_end (hK0 _ (awp_seq fun K1 hK1 => awp_region rfl ?_)))
 refine o_fieldRef 1 gn f5_ rfl rfl ?_
 refine o_loadS (.sl 1 (ns .u32 (digs z.natAbs))) gn f6_ rfl rfl rfl ?_
 refine n_len (digs z.natAbs) gn f7_ rfl ?_
 refine n_make 4 ((digs z.natAbs).length) gn f16_ f27_ rfl rfl (by omega) rfl rfl ?_
 refine o_as (.row 4) rfl (aops_end (hK1 _ (awp_seq fun K2 hK2 => awp_region rfl (o_as (nm .u64 0) rfl (aops_end (hK2 _ (awp_seq fun K3 hK3 => awp_seq fun K4 hK4 => awp_region rfl ?_)))))))
 refine o_fieldRef 1 gn f5_ rfl rfl ?_
 refine o_loadS (.sl 1 (ns .u32 (digs z.natAbs))) gn f6_ rfl rfl rfl ?_
 refine n_len (digs z.natAbs) gn f7_ rfl ?_
 refine o_sub (a := (((digs z.natAbs).length : Nat) : Int)) (c := ((1 : Nat) : Int)) gn rfl rfl (by exact wrap64 (by omega) (by omega)) ?_
 refine o_as (Iv ((((digs z.natAbs).length : Nat) : Int) - ((1 : Nat) : Int))) rfl (aops_end (hK4 _ ?_))
 refine awp_block ?_
 refine awp_loopR (fun κ σ => ∃ (j : Nat), ∃ (o : List Nat), ∃ (r : Nat), (j ≤ (digs z.natAbs).length) ∧ (o.length = (digs z.natAbs).length) ∧ (Dig o) ∧ (r < d) ∧ (val ((digs z.natAbs).drop j) = d * val (o.drop j) + r) ∧ j = κ ∧ σ = ⟨[(1, Nv d), (2, .ref 2 0), (4, .ref 3 0), (6, .row 4), (7, nm .u64 r), (8, (Iv ((j : Int) - 1)))], [(2, oZ 51 .u32 z), (3, .var 51 [Fv, Zv]), (4, .row 93 1 (ns .u32 o))]⟩) ⟨_, _, ⟨(digs z.natAbs).length, List.replicate (digs z.natAbs).length 0, 0, Nat.le_refl _, (by simp), Dig.repl _, hd0, (by rw [val_drop_all (Nat.le_refl _), val_drop_all (by simp)]; simp), rfl, rfl⟩, ?wk0⟩ ?rd0
 case wk0 =>
  exact Wk.sub ⟨rfl, rfl, rfl, rfl, (by first | rfl | exact nm_int (by omega)), (by first | rfl | exact int_eq (by omega) | exact int_nm (by omega)), trivial⟩ ⟨rfl, rfl, (by first | rfl | exact row_ns (by simp)), trivial⟩
 rintro κ _ ⟨j, o, r, hj, hl, hd, hr, hv, rfl, rfl⟩
 have hA := (digs_dig z.natAbs).getD (j - 1)
 refine awp_seq fun K5 hK5 => awp_seq fun K6 hK6 => awp_region rfl (o_mv (Iv ((j : Int) - 1)) rfl ?_)
 refine o_geq (a := ((j : Int) - 1)) (c := ((0 : Nat) : Int)) gn rfl rfl ?_
 refine aops_end (hK6 _ ?_)
 refine awp_condQ (q := ((0 : Nat) : Int) ≤ ((j : Int) - 1)) rfl (fun h1 => ?_) (fun h1 => ?_)
 ·refine awp_wk (Wk.slot (i := 8) (y := (Nv (j - 1))) (AV.le_eq (by exact nm_int (by omega)))) ?_
  refine awp_skip (hK5 _ (awp_seq fun K7 hK7 => ?_))
  refine awp_block ?_
  refine awp_seq fun K8 hK8 => awp_region rfl (o_mv (nm .u64 r) rfl ?_)
  refine n_mul r 1000000000 gn rfl rfl (by simp only [topOf]; omega) ?_
  refine o_fieldRef 1 gn f5_ rfl rfl ?_
  refine o_loadS (.sl 1 (ns .u32 (digs z.natAbs))) gn f6_ rfl rfl rfl ?_
  refine o_mv (Nv (j - 1)) rfl ?_
  refine n_index (digs z.natAbs) (j - 1) gn f16_ rfl rfl (by omega) ?_
  refine n_loadI (digs z.natAbs) (j - 1) gn f17_ rfl (by omega) ?_
  refine n_conv ((digs z.natAbs).getD (j - 1) 0) gn rfl f28_ f40_ (by simp only [topOf]; omega) ?_
  refine n_add (r * 1000000000) ((digs z.natAbs).getD (j - 1) 0) gn rfl rfl (by simp only [topOf]; omega) ?_
  refine o_as (nm .u64 ((r * 1000000000) + ((digs z.natAbs).getD (j - 1) 0))) rfl (aops_end (hK8 _ (awp_seq fun K9 hK9 => awp_region rfl (o_mv (.row 4) rfl (o_mv (Nv (j - 1)) rfl (o_mv (nm .u64 ((r * 1000000000) + ((digs z.natAbs).getD (j - 1) 0))) rfl (o_mv (Nv d) rfl ?_)))))))
  refine n_conv d gn rfl f39_ f40_ (by simp only [topOf]; omega) ?_
  refine n_quo ((r * 1000000000) + ((digs z.natAbs).getD (j - 1) 0)) d gn rfl rfl (by omega) (by simp only [topOf]; have := div_dig hr hA rfl; omega) ?_
  refine n_conv (((r * 1000000000) + ((digs z.natAbs).getD (j - 1) 0)) / d) gn rfl f40_ f28_ (by simp only [topOf]; have := div_dig hr hA rfl; omega) ?_
  refine n_indexRow o (j - 1) gn f16_ rfl rfl rfl (by omega) ?_
  refine n_storeRow o (j - 1) (((r * 1000000000) + ((digs z.natAbs).getD (j - 1) 0)) / d) [(2, oZ 51 .u32 z), (3, .var 51 [Fv, Zv]), (4, .row 93 1 (ns .u32 (o.set (j - 1) (((r * 1000000000) + ((digs z.natAbs).getD (j - 1) 0)) / d))))] gn f42_ rfl rfl rfl (by omega) rfl ?_
  refine aops_end (hK9 _ (awp_region rfl (o_mv (nm .u64 ((r * 1000000000) + ((digs z.natAbs).getD (j - 1) 0))) rfl (o_mv (Nv d) rfl ?_))))
  refine n_conv d gn rfl f39_ f40_ (by simp only [topOf]; omega) ?_
  refine n_rem ((r * 1000000000) + ((digs z.natAbs).getD (j - 1) 0)) d gn rfl rfl (by omega) ?_
  refine o_as (nm .u64 (((r * 1000000000) + ((digs z.natAbs).getD (j - 1) 0)) % d)) rfl (aops_end (hK7 _ (awp_region rfl (o_mv (Nv (j - 1)) rfl ?_))))
  refine o_sub (a := ((j - 1 : Nat) : Int)) (c := ((1 : Nat) : Int)) gn rfl rfl (by exact wrap64 (by omega) (by omega)) ?_
  refine o_as (Iv (((j - 1 : Nat) : Int) - ((1 : Nat) : Int))) rfl (aops_end ?_)
  refine ⟨_, _, ?lt, ⟨j - 1, o.set (j - 1) (((r * 1000000000) + ((digs z.natAbs).getD (j - 1) 0)) / d), ((r * 1000000000) + ((digs z.natAbs).getD (j - 1) 0)) % d, (by omega), (by simp only [List.length_set]; exact hl), hd.set (div_dig hr hA rfl), Nat.mod_lt _ hd0, (div_step (by omega) hl hd0 (by rw [Nat.sub_add_cancel (by omega)]; exact hv) rfl), rfl, rfl⟩, ?wk⟩
  case lt => omega
  case wk => exact Wk.sub ⟨rfl, rfl, rfl, rfl, (by first | rfl | exact nm_int (by omega)), (by first | rfl | exact int_eq (by omega) | exact int_nm (by omega)), trivial⟩ ⟨rfl, rfl, (by first | rfl | exact row_ns (by simp)), trivial⟩
 ·have hj0 : j = 0 := by omega
  have hv0 := hv
  rw [hj0] at hv0
  have hE := div_end hr hv0
  have hq := hE.1
  have hq1 := len_div hE.1 hz (decide (z < 0))
  have hq2 := len_one
  refine awp_exit ?_
  refine hK3 _ (awp_seq fun K10 hK10 => awp_region rfl ?_)
  refine o_fieldRef 0 gn f8_ rfl rfl ?_
  refine o_loadS (bp (z < 0)) gn f4_ rfl rfl rfl ?_
  refine o_mv (.row 4) rfl ?_
  refine o_callG [(4, 1, ns .u32 o)] [bp (z < 0), .sl 1 (ns .u32 o)] _ (intW (sg (decide (z < 0)) (val o))) [(2, oZ 51 .u32 z), (3, .var 51 [Fv, Zv])] gn f35_ rfl ⟨⟨_, rfl⟩, trivial⟩ rfl rfl (LeL.cons (AV.le_refl _) (LeL.cons (AV.le_refl _) LeL.nil)) (c_wTrim (decide (z < 0)) o (by first | assumption | exact dgn_dig _ _ | exact digs_dig _ | exact Dig.snoc (by assumption) (by assumption) | exact Dig.cons (by omega) (digs_dig _))) rfl ?_
  refine o_alloc 101 [Fv, Zv] gn f15_ rfl rfl rfl ?_
  refine o_store [(101, oZ 51 .u32 (sg (decide (z < 0)) (val o))), (2, oZ 51 .u32 z), (3, .var 51 [Fv, Zv])] gn f19_ rfl rfl rfl rfl rfl rfl ?_
  refine aops_end (hK10 _ (awp_seq fun K11 hK11 => awp_seq fun K12 hK12 => awp_region rfl ?_))
  refine o_fieldRef 0 gn f8_ rfl rfl ?_
  refine o_loadS (bp (z < 0)) gn f4_ rfl rfl rfl ?_
  refine o_mv (bp (z < 0)) rfl ?_
  refine o_splitP (q := z < 0) 50 rfl (fun h2 => ?_) (fun h2 => ?_)
  ·refine o_move (nm .u64 r) (Gd.yes rfl rfl (decide_eq_true h2)) rfl ?_
   refine n_gtr r 0 (Gd.yes rfl rfl (decide_eq_true h2)) rfl rfl ?_
   refine o_pickT (bp (0 < r)) gn rfl (decide_eq_true h2) rfl ?_
   refine aops_end (hK12 _ ?_)
   refine awp_condQ (q := 0 < r) rfl (fun h3 => ?_) (fun h3 => ?_)
   ·refine awp_seq fun K13 hK13 => awp_regionD rfl ?_
    refine o_loadA [bp ((sg (decide (z < 0)) (val o)) < 0), .sl 1 (ns .u32 (digs (sg (decide (z < 0)) (val o)).natAbs))] gn f20_ rfl rfl rfl rfl rfl ?_
    refine o_ct (c_wOf (1 : Int) (by first | decide | omega) (by first | decide | omega)) gn f46_ rfl ?_
    refine o_ct (c_wSub (sg (decide (z < 0)) (val o)) (1 : Int) (by first | omega | assumption | (simp only [Int.natAbs_neg]; omega)) (by first | omega | assumption | (simp only [Int.natAbs_neg]; omega))) gn f47_ rfl ?_
    refine o_mv (Nv d) rfl (o_mv (nm .u64 r) rfl ?_)
    refine n_conv r gn rfl f40_ f39_ (by simp only [topOf]; omega) ?_
    refine o_sub (a := ((d : Nat) : Int)) (c := ((r : Nat) : Int)) gn rfl rfl (by exact wrap64 (by omega) (by omega)) ?_
    refine o_store [(101, oZ 51 .u32 (sg (decide (z < 0)) (val o))), (2, oZ 51 .u32 z), (3, (oZ 51 .u32 ((sg (decide (z < 0)) (val o)) - (1 : Int))))] gn f19_ rfl rfl rfl rfl rfl rfl ?_
    refine o_as (Iv (((d : Nat) : Int) - ((r : Nat) : Int))) rfl ?_
    refine aops_end ⟨by kernel_rfl, ?_⟩
    refine hK13 _ ?_
    refine awp_ret ?_
    refine post_ret ⟨[(intW ((sg (decide (z < 0)) (val o)) - (1 : Int))), (Iv (((d : Nat) : Int) - ((r : Nat) : Int)))], ⟨⟨3, (oZ 51 .u32 ((sg (decide (z < 0)) (val o)) - (1 : Int))), rfl, rfl, rfl, Or.inl ⟨f20_, AV.le_refl _⟩⟩, AV.le_refl _, trivial⟩, rfl, ?_⟩
    have e := part3 h2 hd0 hE.1 hE.2 (by omega)
    exact tup_eq2 (congrArg (intK .u32) (e.1.trans (by simp [sg, h2]))) (int_eq e.2)
   ·refine awp_skip (hK11 _ (awp_seq fun K14 hK14 => awp_region rfl ?_))
    refine o_loadA [bp ((sg (decide (z < 0)) (val o)) < 0), .sl 1 (ns .u32 (digs (sg (decide (z < 0)) (val o)).natAbs))] gn f20_ rfl rfl rfl rfl rfl ?_
    refine o_mv (nm .u64 r) rfl ?_
    refine n_conv r gn rfl f40_ f39_ (by simp only [topOf]; omega) ?_
    refine o_store [(101, oZ 51 .u32 (sg (decide (z < 0)) (val o))), (2, oZ 51 .u32 z), (3, oZ 51 .u32 (sg (decide (z < 0)) (val o)))] gn f19_ rfl rfl rfl rfl rfl rfl ?_
    refine o_as (Nv r) rfl (aops_end (hK14 _ ?_))
    refine awp_ret ?_
    refine post_ret ⟨[intW (sg (decide (z < 0)) (val o)), Nv r], ⟨⟨3, oZ 51 .u32 (sg (decide (z < 0)) (val o)), rfl, rfl, rfl, Or.inl ⟨f20_, AV.le_refl _⟩⟩, AV.le_refl _, trivial⟩, rfl, ?_⟩
    have e := part2 h2 hd0 hE.1 hE.2 (by omega)
    exact tup_eq2 (congrArg (intK .u32) (e.1.trans (by simp [sg, h2]))) (int_eq (e.2.trans (by omega)))
  ·refine o_skip rfl rfl (decide_eq_false h2) (o_skip rfl rfl (decide_eq_false h2) ?_)
   refine o_pickF Fv gn rfl (decide_eq_false h2) rfl ?_
   refine aops_end (hK12 _ ?_)
   refine awp_condB (b := false) rfl (fun hh => absurd (hh.symm.trans rfl) (by decide)) (fun _ => ?_)
   refine awp_skip (hK11 _ (awp_seq fun K15 hK15 => awp_region rfl ?_))
   refine o_loadA [bp ((sg (decide (z < 0)) (val o)) < 0), .sl 1 (ns .u32 (digs (sg (decide (z < 0)) (val o)).natAbs))] gn f20_ rfl rfl rfl rfl rfl ?_
   refine o_mv (nm .u64 r) rfl ?_
   refine n_conv r gn rfl f40_ f39_ (by simp only [topOf]; omega) ?_
   refine o_store [(101, oZ 51 .u32 (sg (decide (z < 0)) (val o))), (2, oZ 51 .u32 z), (3, oZ 51 .u32 (sg (decide (z < 0)) (val o)))] gn f19_ rfl rfl rfl rfl rfl rfl ?_
   refine o_as (Nv r) rfl (aops_end (hK15 _ ?_))
   refine awp_ret ?_
   refine post_ret ⟨[intW (sg (decide (z < 0)) (val o)), Nv r], ⟨⟨3, oZ 51 .u32 (sg (decide (z < 0)) (val o)), rfl, rfl, rfl, Or.inl ⟨f20_, AV.le_refl _⟩⟩, AV.le_refl _, trivial⟩, rfl, ?_⟩
   have e := part1 h2 hd0 hE.1 hE.2
   exact tup_eq2 (congrArg (intK .u32) (e.1.trans (by simp [sg, h2]))) (int_eq e.2)

theorem c_rDigits (z : Int) (hz : (digs z.natAbs).length ≤ 1000000000) : ECalls cx 34 [intR z] (Nv (ndig z.natAbs)) := by
 refine ecalls_of_awp Tryz.func34 (c := _) rfl (Nat.le_of_ble_eq_true rfl) ?_
 show awp cx 29 _ (postF cx Tryz.f34 _) ⟨[(0, intR z)], []⟩
 refine awp_seq fun K0 hK0 => awp_region rfl ?_
 refine o_box 2 [bp (z < 0), .sl 1 (ns .i64 (digs z.natAbs))] gn rfl rfl ?_
 refine o_as (Nv 0) rfl (aops_end (hK0 _ (awp_seq fun K1 hK1 => awp_seq fun K2 hK2 => awp_region rfl ?_)))
 refine o_fieldRef 1 gn f0_ rfl rfl ?_
 refine o_loadS (.sl 1 (ns .i64 (digs z.natAbs))) gn f1_ rfl rfl rfl ?_
 refine n_len (digs z.natAbs) gn f2_ rfl ?_
 refine n_eql ((digs z.natAbs).length) 0 gn rfl rfl ?_
 refine aops_end (hK2 _ ?_)
 refine awp_condQ (q := ((digs z.natAbs).length) = 0) rfl (fun h1 => ?_) (fun h1 => ?_)
 ·refine awp_seq fun K3 hK3 => awp_region rfl (o_as (Nv 1) rfl (aops_end (hK3 _ ?_)))
  refine awp_ret ?_
  refine post_ret ⟨[Nv 1], ⟨AV.le_refl _, trivial⟩, rfl, ?_⟩
  refine congrArg (nm .i64) ?_
  unfold ndig
  rw [if_pos (digs_len_zero.1 h1)]
 ·have ht := ndig_top (n := z.natAbs) (by rcases Nat.eq_zero_or_pos z.natAbs with e | e; exact absurd (digs_len_zero.2 e) h1; exact e)
  have htl := (digs_dig z.natAbs).getD ((digs z.natAbs).length - 1)
  have ht9 := decs_len_lt (n := (digs z.natAbs).getD ((digs z.natAbs).length - 1) 0) (k := 9) htl
  refine awp_skip (hK1 _ (awp_seq fun K4 hK4 => awp_region rfl ?_))
  refine o_fieldRef 1 gn f0_ rfl rfl ?_
  refine o_loadS (.sl 1 (ns .i64 (digs z.natAbs))) gn f1_ rfl rfl rfl ?_
  refine n_len (digs z.natAbs) gn f2_ rfl ?_
  refine n_sub ((digs z.natAbs).length) 1 gn rfl rfl (by omega) (by simp only [topOf]; omega) ?_
  refine n_mul 9 (((digs z.natAbs).length) - 1) gn rfl rfl (by simp only [topOf]; omega) ?_
  refine o_as (Nv (9 * (((digs z.natAbs).length) - 1))) rfl (aops_end (hK4 _ (awp_seq fun K5 hK5 => awp_seq fun K6 hK6 => awp_region rfl ?_)))
  refine o_fieldRef 1 gn f0_ rfl rfl ?_
  refine o_loadS (.sl 1 (ns .i64 (digs z.natAbs))) gn f1_ rfl rfl rfl ?_
  refine o_fieldRef 1 gn f0_ rfl rfl ?_
  refine o_loadS (.sl 1 (ns .i64 (digs z.natAbs))) gn f1_ rfl rfl rfl ?_
  refine n_len (digs z.natAbs) gn f2_ rfl ?_
  refine n_sub ((digs z.natAbs).length) 1 gn rfl rfl (by omega) (by simp only [topOf]; omega) ?_
  refine n_index (digs z.natAbs) (((digs z.natAbs).length) - 1) gn f10_ rfl rfl (by omega) ?_
  refine n_loadI (digs z.natAbs) (((digs z.natAbs).length) - 1) gn f11_ rfl (by omega) ?_
  refine o_as (Nv ((digs z.natAbs).getD (((digs z.natAbs).length) - 1) 0)) rfl (aops_end (hK6 _ ?_))
  refine awp_block ?_
  refine awp_loopR (fun κ σ => ∃ (p : Nat), ∃ (q : Nat), (q < 1000000000) ∧ (p + (decs q).length = 9 * ((digs z.natAbs).length - 1) + (decs ((digs z.natAbs).getD ((digs z.natAbs).length - 1) 0)).length) ∧ q = κ ∧ σ = ⟨[(1, .ref 2 0), (3, Nv p), (4, Nv q)], [(2, oZ 37 .i64 z)]⟩) ⟨_, _, ⟨9 * ((digs z.natAbs).length - 1), (digs z.natAbs).getD ((digs z.natAbs).length - 1) 0, htl, rfl, rfl, rfl⟩, ?wk0⟩ ?rd0
  case wk0 =>
   exact Wk.sub ⟨rfl, (by first | rfl | exact nm_int (by omega)), (by first | rfl | exact nm_int (by omega)), trivial⟩ ⟨rfl, trivial⟩
  rintro κ _ ⟨p, q, hq, hp, rfl, rfl⟩
  refine awp_seq fun K7 hK7 => awp_seq fun K8 hK8 => awp_region rfl (o_mv (Nv q) rfl ?_)
  refine n_gtr q 0 gn rfl rfl ?_
  refine aops_end (hK8 _ ?_)
  refine awp_condQ (q := 0 < q) rfl (fun h2 => ?_) (fun h2 => ?_)
  ·refine awp_skip (hK7 _ (awp_seq fun K9 hK9 => ?_))
   refine awp_block ?_
   refine awp_region rfl (o_mv (Nv p) rfl ?_)
   refine n_add p 1 gn rfl rfl (by simp only [topOf]; omega) ?_
   refine o_as (Nv (p + 1)) rfl (aops_end (hK9 _ (awp_region rfl (o_mv (Nv q) rfl ?_))))
   refine n_quo q 10 gn rfl rfl (by omega) (by simp only [topOf]; omega) ?_
   refine o_as (Nv (q / 10)) rfl (aops_end ?_)
   refine ⟨_, _, ?lt, ⟨p + 1, q / 10, (by omega), (by rw [decs_pos (by assumption)] at hp; simp only [List.length_cons] at hp; omega), rfl, rfl⟩, ?wk⟩
   case lt => omega
   case wk => exact Wk.sub ⟨rfl, (by first | rfl | exact nm_int (by omega)), (by first | rfl | exact nm_int (by omega)), trivial⟩ ⟨rfl, trivial⟩
  ·refine awp_exit ?_
   refine hK5 _ (awp_seq fun K10 hK10 => awp_region rfl (o_mv (Nv p) rfl (o_as (Nv p) rfl (aops_end (hK10 _ ?_)))))
   refine awp_ret ?_
   refine post_ret ⟨[Nv p], ⟨AV.le_refl _, trivial⟩, rfl, ?_⟩
   refine congrArg (nm .i64) ?_
   unfold ndig
   rw [if_neg (fun e => h1 (digs_len_zero.2 e)), ht, ← hp, show q = 0 by omega, decs_zero]
   rfl

end Go.Proofs.YtaeknciienkijaaGreatDoor

namespace Go.Proofs.YtaeknciienkijaaGreatDoor
open Go Go.Ab Go.Mth
theorem f48_ : tyInt cx.P 5 = some .u8 := by kernel_rfl
theorem f49_ : tyElem cx.P 100 = some (5, 1, 1) := by kernel_rfl
theorem f50_ : tyZero cx.P 5 = some [Go.Value.int IntKind.u8 0] := by kernel_rfl
theorem f51_ : cx.P.underlying 100 = some (.slice 5) := by kernel_rfl
theorem f52_ : tySc cx.P 5 = true := by kernel_rfl
theorem f53_ : cx.P.underlying 5 = some (.int .u8) := by kernel_rfl
theorem f54_ : cx.P.underlying 9 = some .string := by kernel_rfl
theorem c_rText (z : Int) (hz : (digs z.natAbs).length ≤ 1000000000) : ECalls cx 32 [intR z] (.lit (.string (txt z))) := by
 refine ecalls_of_awp Tryz.func32 (c := _) rfl (Nat.le_of_ble_eq_true rfl) ?_
 show awp cx 71 _ (postF cx Tryz.f32 _) ⟨[(0, intR z)], []⟩
 refine awp_seq fun K0 hK0 => awp_region rfl ?_
 refine o_box 2 [bp (z < 0), .sl 1 (ns .i64 (digs z.natAbs))] gn rfl rfl ?_
 refine o_as (Sv Ev) rfl (aops_end (hK0 _ (awp_seq fun K1 hK1 => awp_seq fun K2 hK2 => awp_region rfl ?_)))
 refine o_fieldRef 1 gn f0_ rfl rfl ?_
 refine o_loadS (.sl 1 (ns .i64 (digs z.natAbs))) gn f1_ rfl rfl rfl ?_
 refine n_len (digs z.natAbs) gn f2_ rfl ?_
 refine n_eql ((digs z.natAbs).length) 0 gn rfl rfl ?_
 refine aops_end (hK2 _ ?_)
 refine awp_condQ (q := ((digs z.natAbs).length) = 0) rfl (fun h1 => ?_) (fun h1 => ?_)
 ·refine awp_seq fun K3 hK3 => awp_region rfl (o_as (Sv ({data := #[48]} : ByteArray)) rfl (aops_end (hK3 _ ?_)))
  refine awp_ret ?_
  refine post_ret ⟨[(Sv ({data := #[48]} : ByteArray))], ⟨AV.le_refl _, trivial⟩, rfl, ?_⟩
  rw [show z = 0 by have := digs_len_zero.1 h1; omega]
  rfl
 ·have hz0 : z.natAbs ≠ 0 := fun e => h1 (digs_len_zero.2 e)
  have hdl := decs_len_le z.natAbs
  refine awp_skip (hK1 _ (awp_seq fun K4 hK4 => awp_region rfl (o_as Zv rfl (aops_end (hK4 _ (awp_seq fun K5 hK5 => awp_seq fun K6 hK6 => awp_region rfl (o_as (Nv 0) rfl (aops_end ?_))))))))
  refine hK6 _ ?_
  refine awp_block ?_
  refine awp_loopR (fun κ σ => ∃ (i : Nat), ∃ (bk : List Nat), (i ≤ (digs z.natAbs).length) ∧ (bk ++ decs (val ((digs z.natAbs).drop i)) = decs z.natAbs) ∧ ((digs z.natAbs).length - i) = κ ∧ σ = ⟨[(1, .ref 2 0), (3, .row 3), (4, Nv i)], [(2, oZ 37 .i64 z), (3, .row 5 1 (ns .u8 bk))]⟩) ⟨_, _, ⟨0, [], (by omega), (by simp [val_digs]), rfl, rfl⟩, ?wk0⟩ ?rd0
  case wk0 =>
   exact Wk.trans (Wk.newNil (i := 3) (id := 503) (e := 5) (sz := 1) rfl rfl (by decide)) (Wk.trans (Wk.sub (σ' := ⟨[(1, .ref 2 0), (3, .row 503), (4, Nv 0)], [(2, oZ 37 .i64 z), (503, .row 5 1 (ns .u8 ([])))]⟩) ⟨rfl, rfl, rfl, trivial⟩ ⟨rfl, rfl, trivial⟩) (Wk.trans (Wk.ren (id := 503) (id' := 3) rfl) (Wk.sub ⟨rfl, (by first | rfl | simp), (by first | rfl | exact nm_int (by omega)), trivial⟩ ⟨rfl, (by first | rfl | exact row_ns (by simp)), trivial⟩)))
  rintro κ _ ⟨i, bk, hi, hv, rfl, rfl⟩
  have hA := (digs_dig z.natAbs).getD i
  refine awp_seq fun K7 hK7 => awp_seq fun K8 hK8 => awp_region rfl (o_mv (Nv i) rfl ?_)
  refine o_fieldRef 1 gn f0_ rfl rfl ?_
  refine o_loadS (.sl 1 (ns .i64 (digs z.natAbs))) gn f1_ rfl rfl rfl ?_
  refine n_len (digs z.natAbs) gn f2_ rfl ?_
  refine n_lss i ((digs z.natAbs).length) gn rfl rfl ?_
  refine aops_end (hK8 _ ?_)
  refine awp_condQ (q := i < ((digs z.natAbs).length)) rfl (fun h2 => ?_) (fun h2 => ?_)
  ·refine awp_skip (hK7 _ (awp_seq fun K9 hK9 => ?_))
   refine awp_block ?_
   refine awp_seq fun K10 hK10 => awp_region rfl ?_
   refine o_fieldRef 1 gn f0_ rfl rfl ?_
   refine o_loadS (.sl 1 (ns .i64 (digs z.natAbs))) gn f1_ rfl rfl rfl ?_
   refine o_mv (Nv i) rfl ?_
   refine n_index (digs z.natAbs) i gn f10_ rfl rfl (by omega) ?_
   refine n_loadI (digs z.natAbs) i gn f11_ rfl (by omega) ?_
   refine o_as (Nv ((digs z.natAbs).getD i 0)) rfl (aops_end (hK10 _ (awp_seq fun K11 hK11 => awp_region rfl (o_as (Nv 0) rfl (aops_end (hK11 _ ?_))))))
   refine awp_block ?_
   refine awp_loopR (fun κ σ => ∃ (k : Nat), ∃ (p : Nat), ∃ (bk : List Nat), (k ≤ 9) ∧ (p < 10 ^ (9 - k)) ∧ (p < 1000000000) ∧ (bk ++ decs (p + 10 ^ (9 - k) * val ((digs z.natAbs).drop (i + 1))) = decs z.natAbs) ∧ (9 - k) = κ ∧ σ = ⟨[(1, .ref 2 0), (3, .row 3), (4, Nv i), (5, Nv p), (6, Nv k)], [(2, oZ 37 .i64 z), (3, .row 5 1 (ns .u8 bk))]⟩) ⟨_, _, ⟨0, _, bk, (by omega), (by simpa using hA), hA, (by rw [← drop_hi (by omega)]; exact hv), rfl, rfl⟩, ?wk1⟩ ?rd1
   case wk1 =>
    exact Wk.sub ⟨rfl, rfl, rfl, (by first | rfl | exact nm_int (by omega)), (by first | rfl | exact nm_int (by omega)), trivial⟩ ⟨rfl, rfl, trivial⟩
   rintro κ _ ⟨k, p, bk, hk, hp, hp2, hw, rfl, rfl⟩
   have hpos : i + 1 < (digs z.natAbs).length → 0 < 10 ^ (9 - k) * val ((digs z.natAbs).drop (i + 1)) := fun h => Nat.mul_pos (Nat.pow_pos (by decide)) (val_drop_pos h)
   refine awp_seq fun K12 hK12 => awp_seq fun K13 hK13 => awp_region rfl (o_mv (Nv k) rfl ?_)
   refine n_lss k 9 gn rfl rfl ?_
   refine o_mv (bp (k < 9)) rfl ?_
   refine o_splitP (q := k < 9) 27 rfl (fun h3 => ?_) (fun h3 => ?_)
   ·refine o_move (Nv p) (Gd.yes rfl rfl (decide_eq_true h3)) rfl ?_
    refine n_gtr p 0 (Gd.yes rfl rfl (decide_eq_true h3)) rfl rfl ?_
    refine o_move (bp (0 < p)) (Gd.yes rfl rfl (decide_eq_true h3)) rfl ?_
    refine o_splitP (q := 0 < p) 30 rfl (fun h4 => ?_) (fun h4 => ?_)
    ·refine o_skip rfl rfl (decide_eq_true h4) (o_skip rfl rfl (decide_eq_true h4) (o_skip rfl rfl (decide_eq_true h4) (o_skip rfl rfl (decide_eq_true h4) (o_skip rfl rfl (decide_eq_true h4) (o_skip rfl rfl (decide_eq_true h4) ?_)))))
     refine o_pickT Tv (Gd.yes rfl rfl (decide_eq_true h3)) rfl (decide_eq_true h4) rfl ?_
     refine o_pickT Tv gn rfl (decide_eq_true h3) rfl ?_
     refine aops_end (hK13 _ ?_)
     refine awp_condB (b := true) rfl (fun _ => ?_) (fun hh => absurd (hh.symm.trans rfl) (by decide))
     refine awp_skip (hK12 _ (awp_seq fun K14 hK14 => ?_))
     refine awp_block ?_
     refine awp_seq fun K15 hK15 => awp_region rfl (o_mv (.row 3) rfl (o_mv (Nv p) rfl ?_))
     refine n_rem p 10 gn rfl rfl (by omega) ?_
     refine n_add 48 (p % 10) gn rfl rfl (by simp only [topOf]; omega) ?_
     refine n_conv (48 + (p % 10)) gn rfl f39_ f48_ (by simp only [topOf]; omega) ?_
     refine o_buildSlice 201 (ns .u8 ([48 + (p % 10)])) [(0, [nm .u8 (48 + (p % 10))])] gn f49_ rfl f50_ rfl rfl rfl rfl rfl rfl rfl ?_
     refine n_append 202 bk ([48 + (p % 10)]) [(201, .row 5 1 (ns .u8 ([48 + (p % 10)]))), (2, oZ 37 .i64 z)] gn f49_ f50_ rfl rfl rfl rfl rfl (by simp only [List.length_append, List.length_cons, List.length_nil]; have := bk_len hw (by first | omega | (have := hpos (by omega); omega)) hz; omega) (by decide) rfl rfl ?_
     refine o_as (.row 202) rfl (aops_end (hK15 _ (awp_region rfl (o_mv (Nv p) rfl ?_))))
     refine n_quo p 10 gn rfl rfl (by omega) (by simp only [topOf]; omega) ?_
     refine o_as (Nv (p / 10)) rfl (aops_end (hK14 _ (awp_region rfl (o_mv (Nv k) rfl ?_))))
     refine n_add k 1 gn rfl rfl (by simp only [topOf]; omega) ?_
     refine o_as (Nv (k + 1)) rfl (aops_end ?_)
     refine ⟨_, _, ?lt, ⟨k + 1, p / 10, bk ++ ([48 + (p % 10)]), (by omega), (by rw [Nat.div_lt_iff_lt_mul (by decide), ← Nat.pow_succ, show Nat.succ (9 - (k + 1)) = 9 - k by omega]; exact hp), (by omega), (text_step (by omega) (by first | omega | (have := hpos (by omega); omega)) hw), rfl, rfl⟩, ?wk⟩
     case lt => omega
     case wk => exact Wk.trans (Wk.sub (σ' := ⟨[(1, .ref 2 0), (3, .row 202), (4, Nv i), (5, Nv (p / 10)), (6, Nv (k + 1))], [(2, oZ 37 .i64 z), (202, .row 5 1 (ns .u8 (bk ++ ([48 + (p % 10)]))))]⟩) ⟨rfl, rfl, rfl, rfl, rfl, trivial⟩ ⟨rfl, rfl, trivial⟩) (Wk.trans (Wk.ren (id := 202) (id' := 3) rfl) (Wk.sub ⟨rfl, (by first | rfl | simp), rfl, (by first | rfl | exact nm_int (by omega)), (by first | rfl | exact nm_int (by omega)), trivial⟩ ⟨rfl, (by first | rfl | exact row_ns (by simp)), trivial⟩))
    ·refine o_move (Nv i) (Gd.yes rfl rfl (decide_eq_false h4)) rfl ?_
     refine o_fieldRef 1 (Gd.yes rfl rfl (decide_eq_false h4)) f0_ rfl rfl ?_
     refine o_loadS (.sl 1 (ns .i64 (digs z.natAbs))) (Gd.yes rfl rfl (decide_eq_false h4)) f1_ rfl rfl rfl ?_
     refine n_len (digs z.natAbs) (Gd.yes rfl rfl (decide_eq_false h4)) f2_ rfl ?_
     refine n_sub ((digs z.natAbs).length) 1 (Gd.yes rfl rfl (decide_eq_false h4)) rfl rfl (by omega) (by simp only [topOf]; omega) ?_
     refine n_lss i (((digs z.natAbs).length) - 1) (Gd.yes rfl rfl (decide_eq_false h4)) rfl rfl ?_
     refine o_pickF (bp (i < (((digs z.natAbs).length) - 1))) (Gd.yes rfl rfl (decide_eq_true h3)) rfl (decide_eq_false h4) rfl ?_
     refine o_pickT (bp (i < (((digs z.natAbs).length) - 1))) gn rfl (decide_eq_true h3) rfl ?_
     refine aops_end (hK13 _ ?_)
     refine awp_condQ (q := i < (((digs z.natAbs).length) - 1)) rfl (fun h5 => ?_) (fun h5 => ?_)
     ·refine awp_skip (hK12 _ (awp_seq fun K16 hK16 => ?_))
      refine awp_block ?_
      refine awp_seq fun K17 hK17 => awp_region rfl (o_mv (.row 3) rfl (o_mv (Nv p) rfl ?_))
      refine n_rem p 10 gn rfl rfl (by omega) ?_
      refine n_add 48 (p % 10) gn rfl rfl (by simp only [topOf]; omega) ?_
      refine n_conv (48 + (p % 10)) gn rfl f39_ f48_ (by simp only [topOf]; omega) ?_
      refine o_buildSlice 201 (ns .u8 ([48 + (p % 10)])) [(0, [nm .u8 (48 + (p % 10))])] gn f49_ rfl f50_ rfl rfl rfl rfl rfl rfl rfl ?_
      refine n_append 202 bk ([48 + (p % 10)]) [(201, .row 5 1 (ns .u8 ([48 + (p % 10)]))), (2, oZ 37 .i64 z)] gn f49_ f50_ rfl rfl rfl rfl rfl (by simp only [List.length_append, List.length_cons, List.length_nil]; have := bk_len hw (by first | omega | (have := hpos (by omega); omega)) hz; omega) (by decide) rfl rfl ?_
      refine o_as (.row 202) rfl (aops_end (hK17 _ (awp_region rfl (o_mv (Nv p) rfl ?_))))
      refine n_quo p 10 gn rfl rfl (by omega) (by simp only [topOf]; omega) ?_
      refine o_as (Nv (p / 10)) rfl (aops_end (hK16 _ (awp_region rfl (o_mv (Nv k) rfl ?_))))
      refine n_add k 1 gn rfl rfl (by simp only [topOf]; omega) ?_
      refine o_as (Nv (k + 1)) rfl (aops_end ?_)
      refine ⟨_, _, ?lt, ⟨k + 1, p / 10, bk ++ ([48 + (p % 10)]), (by omega), (by rw [Nat.div_lt_iff_lt_mul (by decide), ← Nat.pow_succ, show Nat.succ (9 - (k + 1)) = 9 - k by omega]; exact hp), (by omega), (text_step (by omega) (by first | omega | (have := hpos (by omega); omega)) hw), rfl, rfl⟩, ?wk⟩
      case lt => omega
      case wk => exact Wk.trans (Wk.sub (σ' := ⟨[(1, .ref 2 0), (3, .row 202), (4, Nv i), (5, Nv (p / 10)), (6, Nv (k + 1))], [(2, oZ 37 .i64 z), (202, .row 5 1 (ns .u8 (bk ++ ([48 + (p % 10)]))))]⟩) ⟨rfl, rfl, rfl, rfl, rfl, trivial⟩ ⟨rfl, rfl, trivial⟩) (Wk.trans (Wk.ren (id := 202) (id' := 3) rfl) (Wk.sub ⟨rfl, (by first | rfl | simp), rfl, (by first | rfl | exact nm_int (by omega)), (by first | rfl | exact nm_int (by omega)), trivial⟩ ⟨rfl, (by first | rfl | exact row_ns (by simp)), trivial⟩))
     ·refine awp_exit ?_
      refine hK9 _ (awp_region rfl (o_mv (Nv i) rfl ?_))
      refine n_add i 1 gn rfl rfl (by simp only [topOf]; omega) ?_
      refine o_as (Nv (i + 1)) rfl (aops_end ?_)
      have h0 : val ((digs z.natAbs).drop (i + 1)) = 0 := val_drop_all (by omega)
      have hh := hw
      rw [h0, show p = 0 by omega, Nat.mul_zero] at hh
      have hend : bk ++ decs (val ((digs z.natAbs).drop (i + 1))) = decs z.natAbs := by rw [h0]; exact hh
      refine ⟨_, _, ?lt, ⟨i + 1, bk, (by omega), hend, rfl, rfl⟩, ?wk⟩
      case lt => omega
      case wk => exact Wk.sub ⟨rfl, rfl, (by first | rfl | exact nm_int (by omega)), trivial⟩ ⟨rfl, rfl, trivial⟩
   ·refine o_skip rfl rfl (decide_eq_false h3) (o_skip rfl rfl (decide_eq_false h3) (o_skip rfl rfl (decide_eq_false h3) (o_skipU rfl rfl (o_skipU rfl rfl (o_skipU rfl rfl (o_skipU rfl rfl (o_skipU rfl rfl (o_skipU rfl rfl (o_skip rfl rfl (decide_eq_false h3) ?_)))))))))
    refine o_pickF Fv gn rfl (decide_eq_false h3) rfl ?_
    refine aops_end (hK13 _ ?_)
    refine awp_condB (b := false) rfl (fun hh => absurd (hh.symm.trans rfl) (by decide)) (fun _ => ?_)
    refine awp_exit ?_
    refine hK9 _ (awp_region rfl (o_mv (Nv i) rfl ?_))
    refine n_add i 1 gn rfl rfl (by simp only [topOf]; omega) ?_
    refine o_as (Nv (i + 1)) rfl (aops_end ?_)
    have hend := hw
    rw [show k = 9 by omega, show p = 0 by (have h9 := hp; rw [show k = 9 by omega] at h9; simpa using h9)] at hend
    simp only [Nat.sub_self, Nat.pow_zero, Nat.one_mul, Nat.zero_add] at hend
    refine ⟨_, _, ?lt, ⟨i + 1, bk, (by omega), hend, rfl, rfl⟩, ?wk⟩
    case lt => omega
    case wk => exact Wk.sub ⟨rfl, rfl, (by first | rfl | exact nm_int (by omega)), trivial⟩ ⟨rfl, rfl, trivial⟩
  ·refine awp_exit ?_
   refine hK5 _ ?_
   refine awp_seqJ (J := fun σ => ∃ (b : List Nat), (b = decs z.natAbs ++ if z < 0 then [45] else []) ∧ (b.length ≤ 9000000001) ∧ True ∧ σ = ⟨[(3, .row 3)], [(3, .row 5 1 (ns .u8 b))]⟩) ?ja2 ?jb2
   case ja2 =>
    refine awp_seq fun K18 hK18 => awp_region rfl ?_
    refine o_fieldRef 0 gn f3_ rfl rfl ?_
    refine o_loadS (bp (z < 0)) gn f4_ rfl rfl rfl ?_
    refine aops_end (hK18 _ ?_)
    refine awp_condQ (q := z < 0) rfl (fun h6 => ?_) (fun h6 => ?_)
    ·refine awp_region rfl (o_mv (.row 3) rfl ?_)
     refine o_buildSlice 101 (ns .u8 ([45])) [(0, [nm .u8 45])] gn f49_ rfl f50_ rfl rfl rfl rfl rfl rfl rfl ?_
     refine n_append 102 bk ([45]) [(101, .row 5 1 (ns .u8 ([45]))), (2, oZ 37 .i64 z)] gn f49_ f50_ rfl rfl rfl rfl rfl (by simp only [List.length_append, List.length_cons, List.length_nil]; have := congrArg List.length (bk_end hv (by omega)); omega) (by decide) rfl rfl ?_
     refine o_as (.row 102) rfl (aops_end ?_)
     have hbe := bk_end hv (by omega)
     exact ⟨_, ⟨bk ++ ([45]), (by rw [hbe]; simp [*]), (by simp [hbe]; omega), trivial, rfl⟩, Wk.trans (Wk.sub (σ' := ⟨[(3, .row 102)], [(102, .row 5 1 (ns .u8 (bk ++ ([45]))))]⟩) ⟨rfl, trivial⟩ ⟨rfl, trivial⟩) (Wk.trans (Wk.ren (id := 102) (id' := 3) rfl) (Wk.sub ⟨(by first | rfl | simp), trivial⟩ ⟨(by first | rfl | exact row_ns (by simp)), trivial⟩))⟩
    ·refine awp_skip ?_
     have hbe := bk_end hv (by omega)
     exact ⟨_, ⟨bk, (by rw [hbe]; simp [*]), (by simp [hbe]; omega), trivial, rfl⟩, Wk.sub ⟨rfl, trivial⟩ ⟨(by first | rfl | exact row_ns (by simp)), trivial⟩⟩
   rintro _ ⟨b, hb, hbl, -, rfl⟩
   refine awp_seq fun K19 hK19 => awp_region rfl (o_as Zv rfl (aops_end (hK19 _ (awp_seq fun K20 hK20 => awp_seq fun K21 hK21 => awp_region rfl (o_mv (.row 3) rfl ?_)))))
   refine n_lenRow b gn f51_ rfl rfl ?_
   refine o_sub (a := ((b.length : Nat) : Int)) (c := ((1 : Nat) : Int)) gn rfl rfl (by exact wrap64 (by omega) (by omega)) ?_
   refine o_as (Iv (((b.length : Nat) : Int) - ((1 : Nat) : Int))) rfl (aops_end (hK21 _ ?_))
   refine awp_block ?_
   refine awp_loopR (fun κ σ => ∃ (j : Nat), ∃ (out : List Nat), (j ≤ b.length) ∧ (out = (b.drop j).reverse) ∧ j = κ ∧ σ = ⟨[(3, .row 3), (7, .row 4), (8, (Iv ((j : Int) - 1)))], [(3, .row 5 1 (ns .u8 b)), (4, .row 5 1 (ns .u8 out))]⟩) ⟨_, _, ⟨b.length, [], Nat.le_refl _, (by simp), rfl, rfl⟩, ?wk3⟩ ?rd3
   case wk3 =>
    exact Wk.trans (Wk.newNil (i := 7) (id := 801) (e := 5) (sz := 1) rfl rfl (by decide)) (Wk.trans (Wk.sub (σ' := ⟨[(3, .row 3), (7, .row 801), (8, (Iv (((b.length : Nat) : Int) - ((1 : Nat) : Int))))], [(3, .row 5 1 (ns .u8 b)), (801, .row 5 1 (ns .u8 ([])))]⟩) ⟨rfl, rfl, rfl, trivial⟩ ⟨rfl, rfl, trivial⟩) (Wk.trans (Wk.ren (id := 801) (id' := 4) rfl) (Wk.sub ⟨rfl, (by first | rfl | simp), (by first | rfl | exact int_eq (by omega) | exact int_nm (by omega)), trivial⟩ ⟨(by first | rfl | exact row_ns (by simp)), (by first | rfl | exact row_ns (by simp)), trivial⟩)))
   rintro κ _ ⟨j, out, hj, ho, rfl, rfl⟩
   refine awp_seq fun K22 hK22 => awp_seq fun K23 hK23 => awp_region rfl (o_mv (Iv ((j : Int) - 1)) rfl ?_)
   refine o_geq (a := ((j : Int) - 1)) (c := ((0 : Nat) : Int)) gn rfl rfl ?_
   refine aops_end (hK23 _ ?_)
   refine awp_condQ (q := ((0 : Nat) : Int) ≤ ((j : Int) - 1)) rfl (fun h7 => ?_) (fun h7 => ?_)
   ·refine awp_wk (Wk.slot (i := 8) (y := (Nv (j - 1))) (AV.le_eq (by exact nm_int (by omega)))) ?_
    refine awp_skip (hK22 _ (awp_seq fun K24 hK24 => ?_))
    refine awp_block ?_
    refine awp_region rfl (o_mv (.row 4) rfl (o_mv (.row 3) rfl (o_mv (Nv (j - 1)) rfl ?_)))
    refine n_indexRow b (j - 1) gn f49_ rfl rfl rfl (by omega) ?_
    refine n_loadRow b (j - 1) gn f52_ rfl rfl (by omega) ?_
    refine o_buildSlice 401 (ns .u8 ([b.getD (j - 1) 0])) [(0, [nm .u8 (b.getD (j - 1) 0)])] gn f49_ rfl f50_ rfl rfl rfl rfl rfl rfl rfl ?_
    refine n_append 402 out ([b.getD (j - 1) 0]) [(401, .row 5 1 (ns .u8 ([b.getD (j - 1) 0]))), (3, .row 5 1 (ns .u8 b))] gn f49_ f50_ rfl rfl rfl rfl rfl (by simp only [ho, List.length_append, List.length_cons, List.length_nil, List.length_reverse, List.length_drop]; omega) (by decide) rfl rfl ?_
    refine o_as (.row 402) rfl (aops_end (hK24 _ (awp_region rfl (o_mv (Nv (j - 1)) rfl ?_))))
    refine o_sub (a := ((j - 1 : Nat) : Int)) (c := ((1 : Nat) : Int)) gn rfl rfl (by exact wrap64 (by omega) (by omega)) ?_
    refine o_as (Iv (((j - 1 : Nat) : Int) - ((1 : Nat) : Int))) rfl (aops_end ?_)
    refine ⟨_, _, ?lt, ⟨j - 1, out ++ ([b.getD (j - 1) 0]), (by omega), (by rw [ho]; exact rev_step (by omega) hj), rfl, rfl⟩, ?wk⟩
    case lt => omega
    case wk => exact Wk.trans (Wk.sub (σ' := ⟨[(3, .row 3), (7, .row 402), (8, (Iv (((j - 1 : Nat) : Int) - ((1 : Nat) : Int))))], [(3, .row 5 1 (ns .u8 b)), (402, .row 5 1 (ns .u8 (out ++ ([b.getD (j - 1) 0]))))]⟩) ⟨rfl, rfl, rfl, trivial⟩ ⟨rfl, rfl, trivial⟩) (Wk.trans (Wk.ren (id := 402) (id' := 4) rfl) (Wk.sub ⟨rfl, (by first | rfl | simp), (by first | rfl | exact int_eq (by omega) | exact int_nm (by omega)), trivial⟩ ⟨(by first | rfl | exact row_ns (by simp)), (by first | rfl | exact row_ns (by simp)), trivial⟩))
   ·refine awp_exit ?_
    refine hK20 _ (awp_seq fun K25 hK25 => awp_region rfl (o_mv (.row 4) rfl ?_))
    refine n_strOf out gn f51_ f53_ f54_ rfl rfl ?_
    refine o_as (Sv (strN out)) rfl (aops_end (hK25 _ ?_))
    refine awp_ret ?_
    refine post_ret ⟨[Sv (strN out)], ⟨AV.le_refl _, trivial⟩, rfl, ?_⟩
    have hj0 : j = 0 := by omega
    subst hj0
    rw [ho, List.drop_zero]
    exact congrArg (fun x => AV.lit (.string x)) (txt_fin hz0 hb)

end Go.Proofs.YtaeknciienkijaaGreatDoor

namespace Go.Proofs.YtaeknciienkijaaGreatDoor
open Go Go.Ab Go.Mth
theorem c_rParse (a : ByteArray) (hok : OkS a) : ECalls cx 7 [Sv a] (intR (numS a)) := by
 refine ecalls_of_awp Tryz.func7 (c := _) rfl (Nat.le_of_ble_eq_true rfl) ?_
 show awp cx 44 _ (postF cx Tryz.f7 _) ⟨[(0, Sv a)], []⟩
 obtain ⟨o1, o2, o3, o4⟩ := hok
 have hs1 : sgnAt a ≤ 1 := by unfold sgnAt; split <;> omega
 refine awp_seq fun K0 hK0 => awp_region rfl ?_
 refine o_alloc 2 [Fv, Zv] gn f9_ rfl rfl rfl ?_
 refine aops_end (hK0 _ (awp_seq fun K1 hK1 => awp_region rfl (o_mv (Sv a) rfl ?_)))
 refine n_indexS a 0 gn f54_ rfl rfl (by omega) ?_
 refine n_eql (byt a 0) 45 gn rfl rfl ?_
 refine o_as (bp ((byt a 0) = 45)) rfl (aops_end (hK1 _ (awp_seq fun K2 hK2 => awp_region rfl (o_as (Nv 0) rfl (aops_end (hK2 _ ?_))))))
 refine awp_seqJ (J := fun σ => True ∧ σ = ⟨[(0, Sv a), (2, .ref 2 0), (3, bp (byt a 0 = 45)), (4, Nv (sgnAt a))], [(2, .var 37 [Fv, Zv])]⟩) ?ja0 ?jb0
 case ja0 =>
  refine awp_seq fun K3 hK3 => awp_region rfl (o_mv (bp ((byt a 0) = 45)) rfl (aops_end (hK3 _ ?_)))
  refine awp_condQ (q := (byt a 0) = 45) rfl (fun h1 => ?_) (fun h1 => ?_)
  ·refine awp_region rfl (o_as (Nv 1) rfl (aops_end ?_))
   have hs : sgnAt a = 1 := if_pos h1
   exact ⟨_, ⟨trivial, rfl⟩, Wk.sub ⟨rfl, rfl, (by first | rfl | exact bp_congr (by first | omega | simp) | exact bl_bp (by first | omega | simp)), (by first | rfl | exact nm_int (by omega)), trivial⟩ ⟨rfl, trivial⟩⟩
  ·refine awp_skip ?_
   have hs : sgnAt a = 0 := if_neg h1
   exact ⟨_, ⟨trivial, rfl⟩, Wk.sub ⟨rfl, rfl, (by first | rfl | exact bp_congr (by first | omega | simp) | exact bl_bp (by first | omega | simp)), (by first | rfl | exact nm_int (by omega)), trivial⟩ ⟨rfl, trivial⟩⟩
 rintro _ ⟨-, rfl⟩
 refine awp_seq fun K4 hK4 => awp_region rfl (o_as Zv rfl (aops_end (hK4 _ (awp_seq fun K5 hK5 => awp_seq fun K6 hK6 => awp_region rfl (o_mv (Sv a) rfl ?_)))))
 refine n_lenS a gn rfl f54_ ?_
 refine o_as (Nv (a.size)) rfl (aops_end (hK6 _ ?_))
 refine awp_block ?_
 refine awp_loopR (fun κ σ => ∃ (E : Int), ∃ (L : List Nat), (E ≤ a.size) ∧ (Dig L) ∧ ((sgnAt a : Int) < E → L.length * 9 = a.size - E.toNat) ∧ (L.length ≤ 2000) ∧ (val L = dvk a (max (sgnAt a) E.toNat) (a.size - max (sgnAt a) E.toNat)) ∧ E.toNat = κ ∧ σ = ⟨[(0, Sv a), (2, .ref 2 0), (3, bp (byt a 0 = 45)), (4, Nv (sgnAt a)), (5, .row 3), (6, Iv E)], [(2, .var 37 [Fv, Zv]), (3, .row 3 1 (ns .i64 L))]⟩) ⟨_, _, ⟨(a.size : Int), [], (by omega), Dig.nil, (by intro _; simp), (by simp), (by rw [show max (sgnAt a) (a.size : Int).toNat = a.size by omega]; simp [val, dvk]), rfl, rfl⟩, ?wk1⟩ ?rd1
 case wk1 =>
  exact Wk.trans (Wk.newNil (i := 5) (id := 601) (e := 3) (sz := 1) rfl rfl (by decide)) (Wk.trans (Wk.sub (σ' := ⟨[(0, Sv a), (2, .ref 2 0), (3, bp (byt a 0 = 45)), (4, Nv (sgnAt a)), (5, .row 601), (6, Nv (a.size))], [(2, .var 37 [Fv, Zv]), (601, .row 3 1 (ns .i64 ([])))]⟩) ⟨rfl, rfl, rfl, rfl, rfl, rfl, trivial⟩ ⟨rfl, rfl, trivial⟩) (Wk.trans (Wk.ren (id := 601) (id' := 3) rfl) (Wk.sub ⟨rfl, rfl, rfl, rfl, (by first | rfl | simp), (by first | rfl | exact int_eq (by omega) | exact int_nm (by omega)), trivial⟩ ⟨rfl, (by first | rfl | exact row_ns (by simp)), trivial⟩)))
 rintro κ _ ⟨E, L, hE, hd, hl, hl2, hv, rfl, rfl⟩
 refine awp_seq fun K7 hK7 => awp_seq fun K8 hK8 => awp_region rfl (o_mv (Iv E) rfl (o_mv (Nv (sgnAt a)) rfl ?_))
 refine o_gtr (a := E) (c := ((sgnAt a : Nat) : Int)) gn rfl rfl ?_
 refine aops_end (hK8 _ ?_)
 refine awp_condQ (q := ((sgnAt a : Nat) : Int) < E) rfl (fun h2 => ?_) (fun h2 => ?_)
 ·refine awp_wk (Wk.slot (i := 6) (y := (Nv E.toNat)) (AV.le_eq (by exact nm_int (by omega)))) ?_
  refine awp_skip (hK7 _ (awp_seq fun K9 hK9 => ?_))
  refine awp_block ?_
  refine awp_seq fun K10 hK10 => awp_region rfl (o_as (Nv 0) rfl (aops_end (hK10 _ (awp_seq fun K11 hK11 => awp_seq fun K12 hK12 => awp_region rfl (o_mv (Nv (sgnAt a)) rfl (o_mv (Nv E.toNat) rfl ?_))))))
  refine o_sub (a := ((E.toNat : Nat) : Int)) (c := ((9 : Nat) : Int)) gn rfl rfl (by exact wrap64 (by omega) (by omega)) ?_
  refine o_max (a := ((sgnAt a : Nat) : Int)) (c := ((E.toNat : Nat) : Int) - ((9 : Nat) : Int)) gn rfl rfl (fun w => run_max _ _ w) ?_
  refine n_as (v' := (Nv (max (sgnAt a) (E.toNat - 9)))) (nm_int (by omega)) ?_
  refine o_as (Nv (max (sgnAt a) (E.toNat - 9))) rfl (aops_end (hK12 _ ?_))
  refine awp_block ?_
  refine awp_loopR (fun κ σ => ∃ (i : Nat), ∃ (q : Nat), (max (sgnAt a) (E.toNat - 9) ≤ i) ∧ (i ≤ E.toNat) ∧ (q = dvk a (max (sgnAt a) (E.toNat - 9)) (i - (max (sgnAt a) (E.toNat - 9)))) ∧ (E.toNat - i) = κ ∧ σ = ⟨[(0, Sv a), (2, .ref 2 0), (3, bp (byt a 0 = 45)), (4, Nv (sgnAt a)), (5, .row 3), (6, Nv E.toNat), (7, Nv q), (8, Nv i)], [(2, .var 37 [Fv, Zv]), (3, .row 3 1 (ns .i64 L))]⟩) ⟨_, _, ⟨max (sgnAt a) (E.toNat - 9), 0, (by omega), (by omega), (by simp [dvk]), rfl, rfl⟩, ?wk2⟩ ?rd2
  case wk2 =>
   exact Wk.sub ⟨rfl, rfl, rfl, rfl, rfl, rfl, (by first | rfl | exact nm_int (by omega)), (by first | rfl | exact nm_int (by omega)), trivial⟩ ⟨rfl, rfl, trivial⟩
  rintro κ _ ⟨i, q, hi, hi2, hq0, rfl, rfl⟩
  have hdl := dvk_lt (a := a) (s := max (sgnAt a) (E.toNat - 9)) (k := i - (max (sgnAt a) (E.toNat - 9))) fun j h1 h2 => o4 j (by omega) (by omega)
  rw [← hq0] at hdl
  have hq2 : q < 1000000000 := Nat.lt_of_lt_of_le hdl (by have := Nat.pow_le_pow_right (n := 10) (by decide) (show i - (max (sgnAt a) (E.toNat - 9)) ≤ 9 by omega); simpa using this)
  have hb := fun h => o4 i (by omega) h
  refine awp_seq fun K13 hK13 => awp_seq fun K14 hK14 => awp_region rfl (o_mv (Nv i) rfl (o_mv (Nv E.toNat) rfl ?_))
  refine n_lss i E.toNat gn rfl rfl ?_
  refine aops_end (hK14 _ ?_)
  refine awp_condQ (q := i < E.toNat) rfl (fun h3 => ?_) (fun h3 => ?_)
  ·refine awp_skip (hK13 _ (awp_seq fun K15 hK15 => ?_))
   refine awp_block ?_
   refine awp_region rfl (o_mv (Nv q) rfl ?_)
   refine n_mul 10 q gn rfl rfl (by simp only [topOf]; omega) ?_
   refine o_mv (Sv a) rfl (o_mv (Nv i) rfl ?_)
   refine n_indexS a i gn f54_ rfl rfl (by omega) ?_
   refine n_sub (byt a i) 48 gn rfl rfl (by have := hb (by omega); omega) (by have := byt_lt a i; simp only [topOf]; omega) ?_
   refine n_conv ((byt a i) - 48) gn rfl f48_ f39_ (by have := byt_lt a i; simp only [topOf]; omega) ?_
   refine n_add (10 * q) ((byt a i) - 48) gn rfl rfl (by have := byt_lt a i; simp only [topOf]; omega) ?_
   refine o_as (Nv ((10 * q) + ((byt a i) - 48))) rfl (aops_end (hK15 _ (awp_region rfl (o_mv (Nv i) rfl ?_))))
   refine n_add i 1 gn rfl rfl (by simp only [topOf]; omega) ?_
   refine o_as (Nv (i + 1)) rfl (aops_end ?_)
   refine ⟨_, _, ?lt, ⟨i + 1, (10 * q) + ((byt a i) - 48), (by omega), (by omega), (by rw [show i + 1 - (max (sgnAt a) (E.toNat - 9)) = (i - (max (sgnAt a) (E.toNat - 9))) + 1 by omega, dvk, ← hq0, show max (sgnAt a) (E.toNat - 9) + (i - (max (sgnAt a) (E.toNat - 9))) = i by omega]), rfl, rfl⟩, ?wk⟩
   case lt => omega
   case wk => exact Wk.sub ⟨rfl, rfl, rfl, rfl, rfl, rfl, (by first | rfl | exact nm_int (by omega)), (by first | rfl | exact nm_int (by omega)), trivial⟩ ⟨rfl, rfl, trivial⟩
  ·have hq : q = dvk a (max (sgnAt a) (E.toNat - 9)) (E.toNat - (max (sgnAt a) (E.toNat - 9))) := by rw [hq0, show i = E.toNat by omega]
   refine awp_exit ?_
   refine hK11 _ (awp_region rfl (o_mv (.row 3) rfl (o_mv (Nv q) rfl ?_)))
   refine o_buildSlice 301 (ns .i64 ([q])) [(0, [Nv q])] gn f10_ rfl f26_ rfl rfl rfl rfl rfl rfl rfl ?_
   refine n_append 302 L ([q]) [(301, .row 3 1 (ns .i64 ([q]))), (2, .var 37 [Fv, Zv])] gn f10_ f26_ rfl rfl rfl rfl rfl (by simp only [List.length_append, List.length_cons, List.length_nil]; omega) (by decide) rfl rfl ?_
   refine o_as (.row 302) rfl (aops_end (hK9 _ (awp_region rfl (o_mv (Nv E.toNat) rfl ?_))))
   refine o_sub (a := ((E.toNat : Nat) : Int)) (c := ((9 : Nat) : Int)) gn rfl rfl (by exact wrap64 (by omega) (by omega)) ?_
   refine o_as (Iv (((E.toNat : Nat) : Int) - ((9 : Nat) : Int))) rfl (aops_end ?_)
   refine ⟨_, _, ?lt, ⟨(E.toNat : Int) - 9, L ++ ([q]), (by omega), hd.snoc hq2, (by intro h; have := hl (by omega); simp only [List.length_append, List.length_cons, List.length_nil]; omega), (by have := hl (by omega); simp only [List.length_append, List.length_cons, List.length_nil]; omega), (by rw [hq]; rw [show max (sgnAt a) E.toNat = E.toNat by omega] at hv; have hh := parse_step (s := max (sgnAt a) (E.toNat - 9)) (by omega) (by omega) (hl (by omega)) hv; rw [show max (sgnAt a) ((E.toNat : Int) - 9).toNat = max (sgnAt a) (E.toNat - 9) by omega]; exact hh), rfl, rfl⟩, ?wk⟩
   case lt => omega
   case wk => exact Wk.trans (Wk.sub (σ' := ⟨[(0, Sv a), (2, .ref 2 0), (3, bp (byt a 0 = 45)), (4, Nv (sgnAt a)), (5, .row 302), (6, (Iv (((E.toNat : Nat) : Int) - ((9 : Nat) : Int))))], [(2, .var 37 [Fv, Zv]), (302, .row 3 1 (ns .i64 (L ++ ([q]))))]⟩) ⟨rfl, rfl, rfl, rfl, rfl, rfl, trivial⟩ ⟨rfl, rfl, trivial⟩) (Wk.trans (Wk.ren (id := 302) (id' := 3) rfl) (Wk.sub ⟨rfl, rfl, rfl, rfl, (by first | rfl | simp), (by first | rfl | exact int_eq (by omega) | exact int_nm (by omega)), trivial⟩ ⟨rfl, (by first | rfl | exact row_ns (by simp)), trivial⟩))
 ·refine awp_exit ?_
  refine hK5 _ (awp_seq fun K16 hK16 => awp_region rfl (o_mv (bp (byt a 0 = 45)) rfl (o_mv (.row 3) rfl ?_)))
  refine o_callG [(3, 1, ns .i64 L)] [bp (byt a 0 = 45), .sl 1 (ns .i64 L)] _ (intR (sg (decide (byt a 0 = 45)) (val L))) [(2, .var 37 [Fv, Zv])] gn f32_ rfl ⟨⟨_, rfl⟩, trivial⟩ rfl rfl (LeL.cons (AV.le_refl _) (LeL.cons (AV.le_refl _) LeL.nil)) (c_rTrim (decide (byt a 0 = 45)) L (by first | assumption | exact dgn_dig _ _ | exact digs_dig _ | exact Dig.snoc (by assumption) (by assumption) | exact Dig.cons (by omega) (digs_dig _))) rfl ?_
  refine o_store [(2, oZ 37 .i64 (sg (decide (byt a 0 = 45)) (val L)))] gn f13_ rfl rfl rfl rfl rfl rfl ?_
  refine aops_end (hK16 _ ?_)
  refine awp_ret ?_
  refine post_ret ⟨[intR (sg (decide (byt a 0 = 45)) (val L))], ⟨⟨2, oZ 37 .i64 (sg (decide (byt a 0 = 45)) (val L)), rfl, rfl, rfl, Or.inl ⟨f14_, AV.le_refl _⟩⟩, trivial⟩, rfl, ?_⟩
  refine congrArg (intK .i64) ?_
  rw [hv, show max (sgnAt a) E.toNat = sgnAt a by omega]
  rfl

end Go.Proofs.YtaeknciienkijaaGreatDoor

namespace Go.Mth
open Go.Ab
theorem decDigits_decs (u : Nat) : Lib.decDigits u = (if u = 0 then [48] else (decs u).reverse).map UInt8.ofNat := by
 induction u using Nat.strongRecOn with
 | _ u ih =>
  rw [Lib.decDigits]
  split
  ·rename_i h
   by_cases h0 : u = 0
   ·subst h0; simp
   ·rw [if_neg h0, decs_pos (by omega), show u / 10 = 0 by omega, decs_zero, show u % 10 = u by omega]; simp
  ·rename_i h
   rw [ih (u / 10) (by omega), if_neg (by omega), if_neg (by omega), decs_pos (n := u) (by omega)]
   simp
theorem itoa_txt (x : Nat) : (⟨(Lib.itoa (x : Int)).toArray⟩ : ByteArray) = txt x := by
 unfold Lib.itoa txt txtL strN strOfNums
 rw [if_neg (by omega), Int.toNat_natCast, decDigits_decs]
 by_cases h : x = 0
 ·subst h; rfl
 ·rw [if_neg h, if_neg (by omega), if_neg (by omega)]
  simp
theorem parse_ok (a : ByteArray) (h : ∀ i, i < a.size → 48 ≤ byt a i ∧ byt a i ≤ 57) (h9 : a.size ≤ 9) : ∀ (l : List UInt8) (s : Nat), a.data.toList.drop s = l → s + l.length = a.size → Lib.parseUintM 4294967295 (dvk a 0 s) l = .ok (dvk a 0 a.size) := by
 intro l
 induction l with
 | nil =>
  intro s hd hs
  rw [Lib.parseUintM, show s = a.size by simpa using hs]
 | cons c r ih =>
  intro s hd hs
  simp only [List.length_cons] at hs
  have hc : byt a s = c.toNat := by
   unfold byt
   have := congrArg (·[0]?) hd
   simp only [List.getElem?_drop, Nat.add_zero, List.getElem?_cons_zero] at this
   rw [List.getD_eq_getElem?_getD, this]; rfl
  have hb := h s (by omega)
  rw [hc] at hb
  have hlt := dvk_lt (a := a) (s := 0) (k := s + 1) fun i _ hi => h i (by omega)
  have hp : 10 ^ (s + 1) ≤ 10 ^ 9 := Nat.pow_le_pow_right (by decide) (by omega)
  have e : dvk a 0 (s + 1) = dvk a 0 s * 10 + (c.toNat - 48) := by rw [dvk, Nat.zero_add, hc]; omega
  rw [Lib.parseUintM, if_pos hb, if_neg (by omega), if_neg (by omega), ← e]
  refine ih (s + 1) ?_ (by omega)
  have := congrArg (List.drop 1) hd
  simpa using this
end Go.Mth
namespace Go.Proofs.YtaeknciienkijaaGreatDoor
open Go Go.Ab Go.Mth
theorem c_itoa (x : Nat) (hx : x ≤ 9223372036854775807) : ECalls cx 50 [nm .i64 x] (.lit (.string (txt x))) := by
 intro H L vals w hG hH hr
 simp only [RepL, RepV, nm] at hr
 obtain ⟨v, r, rfl, rfl, rfl⟩ := hr
 refine (Tryz.strconv_Itoa (x : Int) (by omega) (by omega) w (tabIs hG hH)).mono ?_
 rintro e w' ⟨rfl, k, os, rfl⟩
 have hold : ∀ b, b < w.heap.size → (Sort.grow (w.drewN k) os).heap[b]? = w.heap[b]? := fun b hb => by
  simp only [Sort.grow, World.drewN]
  rw [Array.getElem?_append_left hb]
 refine ⟨H, _, rfl, by simp only [RepV]; rw [itoa_txt], Ext.refl _ _, fun b o hb => ?_, ⟨rfl, rfl, rfl, by simp [Sort.grow, World.drewN], hold, Nat.le_add_right _ _⟩⟩
 rw [hold b (Array.getElem?_eq_some_iff.1 (hH b o hb)).1]
 exact hH b o hb
theorem c_iparse (a : ByteArray) (h0 : 0 < a.size) (h9 : a.size ≤ 9) (h : ∀ i, i < a.size → 48 ≤ byt a i ∧ byt a i ≤ 57) : ECalls cx 85 [.lit (.string a), nm .i64 10, nm .i64 32] (.tup [nm .u64 (dvk a 0 a.size), .lit .nilIface]) := by
 intro H L vals w hG hH hr
 simp only [RepL, RepV, nm] at hr
 obtain ⟨_, _, rfl, rfl, _, _, rfl, rfl, _, _, rfl, rfl, rfl⟩ := hr
 refine (Tryz.internal_strconv_ParseUint_10_b32 a (by omega) (by omega) w).mono ?_
 rintro e w' ⟨rfl, rfl⟩
 have hbl := Lib.bytesWorld_below w 5 a
 refine ⟨H, _, rfl, ?_, Ext.refl _ _, fun b o hb => ?_, .of hbl (by unfold Lib.bytesWorld World.freeze; exact Nat.le_succ _)⟩
 ·have := parse_ok a h h9 a.data.toList 0 rfl (by simp)
  rw [dvk] at this
  rw [this]
  simp only [RepV, RepL, nm, Lib.uintTupleM]
  exact ⟨[_, _], rfl, _, _, rfl, rfl, _, _, rfl, rfl, rfl⟩
 ·rw [hbl.block b (Array.getElem?_eq_some_iff.1 (hH b o hb)).1]
  exact hH b o hb
end Go.Proofs.YtaeknciienkijaaGreatDoor

namespace Go.Proofs.YtaeknciienkijaaGreatDoor
open Go Go.Ab Go.Mth
theorem f55_ : callable cx.P 85 = true := by kernel_rfl
theorem f56_ : cx.P.underlying 103 = some (.interface #[("Error", 61)]) := by kernel_rfl
theorem f57_ : callable cx.P 51 = true := by kernel_rfl
theorem f58_ : callable cx.P 50 = true := by kernel_rfl
theorem f59_ : tyZ1 cx.P 5 = some (.int .u8 0) := by kernel_rfl
theorem f60_ : callable cx.P 27 = true := by kernel_rfl
theorem f61_ : callable cx.P 22 = true := by kernel_rfl
theorem c_parse (a : ByteArray) (h0 : 0 < a.size) (h9 : a.size ≤ 9) (h : ∀ i, i < a.size → 48 ≤ byt a i ∧ byt a i ≤ 57) : ECalls cx 51 [Sv a, Nv 10, Nv 32] (.tup [nm .u64 (dvk a 0 a.size), .lit .nilIface]) := by
 refine ecalls_of_awp Tryz.func51 (c := _) rfl (Nat.le_of_ble_eq_true rfl) ?_
 show awp cx 26 _ (postF cx Tryz.f51 _) ⟨[(0, Sv a), (1, Nv 10), (2, Nv 32)], []⟩
 refine awp_seq fun K0 hK0 => awp_region rfl (o_as (nm .u64 0) rfl (o_as (.lit .nilIface) rfl (aops_end (hK0 _ (awp_seq fun K1 hK1 => awp_region rfl (o_mv (Sv a) rfl (o_mv (Nv 10) rfl (o_mv (Nv 32) rfl ?_))))))))
 refine o_ct (c_iparse a (by omega) (by omega) (by assumption)) gn f55_ rfl ?_
 refine o_mv (.tup [nm .u64 (dvk a 0 a.size), .lit .nilIface]) rfl (o_extract (nm .u64 (dvk a 0 a.size)) gn rfl rfl (o_extract (.lit .nilIface) gn rfl rfl (o_as (nm .u64 (dvk a 0 a.size)) rfl (o_as (.lit .nilIface) rfl (aops_end (hK1 _ (awp_seq fun K2 hK2 => awp_seq fun K3 hK3 => awp_region rfl (o_mv (.lit .nilIface) rfl ?_))))))))
 refine o_neqNil gn rfl f56_ ?_
 refine aops_end (hK3 _ ?_)
 refine awp_condB (b := false) rfl (fun hh => absurd (hh.symm.trans rfl) (by decide)) (fun _ => ?_)
 refine awp_skip (hK2 _ (awp_seq fun K4 hK4 => awp_region rfl (o_mv (nm .u64 (dvk a 0 a.size)) rfl (o_as (nm .u64 (dvk a 0 a.size)) rfl (o_as (.lit .nilIface) rfl (aops_end (hK4 _ ?_)))))))
 refine awp_ret ?_
 refine post_ret ⟨[nm .u64 (dvk a 0 a.size), .lit .nilIface], ⟨AV.le_refl _, AV.le_refl _, trivial⟩, rfl, ?_⟩
 rfl

theorem c_wParse (a : ByteArray) (hok : OkS a) : ECalls cx 25 [Sv a] (intW (numS a)) := by
 refine ecalls_of_awp Tryz.func25 (c := _) rfl (Nat.le_of_ble_eq_true rfl) ?_
 show awp cx 38 _ (postF cx Tryz.f25 _) ⟨[(0, Sv a)], []⟩
 obtain ⟨o1, o2, o3, o4⟩ := hok
 have hs1 : sgnAt a ≤ 1 := by unfold sgnAt; split <;> omega
 refine awp_seq fun K0 hK0 => awp_region rfl ?_
 refine o_alloc 2 [Fv, Zv] gn f15_ rfl rfl rfl ?_
 refine aops_end (hK0 _ (awp_seq fun K1 hK1 => awp_region rfl (o_mv (Sv a) rfl ?_)))
 refine n_indexS a 0 gn f54_ rfl rfl (by omega) ?_
 refine n_eql (byt a 0) 45 gn rfl rfl ?_
 refine o_as (bp ((byt a 0) = 45)) rfl (aops_end (hK1 _ ?_))
 refine awp_seqJ (J := fun σ => ∃ (b : ByteArray), (b.size = a.size - sgnAt a) ∧ (∀ i, i < b.size → byt b i = byt a (sgnAt a + i)) ∧ True ∧ σ = ⟨[(0, Sv b), (2, .ref 2 0), (3, bp (byt a 0 = 45))], [(2, .var 51 [Fv, Zv])]⟩) ?ja0 ?jb0
 case ja0 =>
  refine awp_seq fun K2 hK2 => awp_region rfl (o_mv (bp ((byt a 0) = 45)) rfl (aops_end (hK2 _ ?_)))
  refine awp_condQ (q := (byt a 0) = 45) rfl (fun h1 => ?_) (fun h1 => ?_)
  ·refine awp_region rfl (o_mv (Sv a) rfl ?_)
   refine n_sliceSL a 1 (a.size) gn f54_ rfl rfl (by omega) (by omega) ?_
   refine o_as (Sv (a.extract 1 (a.size))) rfl (aops_end ?_)
   have hs : sgnAt a = 1 := if_pos h1
   exact ⟨_, ⟨(a).extract 1 (a.size), (by rw [extract_size a (by omega) (by omega)]; omega), (fun i hi => by rw [extract_size a (by omega) (by omega)] at hi; rw [byt_extract a (by omega) (by omega), hs]), trivial, rfl⟩, Wk.sub ⟨(by first | rfl | simp), rfl, (by first | rfl | exact bp_congr (by first | omega | simp) | exact bl_bp (by first | omega | simp)), trivial⟩ ⟨rfl, trivial⟩⟩
  ·refine awp_skip ?_
   have hs : sgnAt a = 0 := if_neg h1
   exact ⟨_, ⟨a, (by omega), (fun i hi => by rw [hs, Nat.zero_add]), trivial, rfl⟩, Wk.sub ⟨(by first | rfl | simp), rfl, (by first | rfl | exact bp_congr (by first | omega | simp) | exact bl_bp (by first | omega | simp)), trivial⟩ ⟨rfl, trivial⟩⟩
 rintro _ ⟨b, hbs, hb, -, rfl⟩
 have hbd : ∀ i, i < b.size → 48 ≤ byt b i ∧ byt b i ≤ 57 := fun i hi => by rw [hb i hi]; exact o4 _ (by omega) (by omega)
 refine awp_seq fun K3 hK3 => awp_region rfl (o_as Zv rfl (aops_end (hK3 _ (awp_seq fun K4 hK4 => awp_seq fun K5 hK5 => awp_region rfl (o_mv (Sv b) rfl ?_)))))
 refine n_lenS b gn rfl f54_ ?_
 refine o_as (Nv (b.size)) rfl (aops_end (hK5 _ ?_))
 refine awp_block ?_
 refine awp_loopR (fun κ σ => ∃ (E : Int), ∃ (L : List Nat), (E ≤ b.size) ∧ (Dig L) ∧ (0 < E → L.length * 9 = b.size - E.toNat) ∧ (L.length ≤ 2000) ∧ (val L = dvk b E.toNat (b.size - E.toNat)) ∧ E.toNat = κ ∧ σ = ⟨[(0, Sv b), (2, .ref 2 0), (3, bp (byt a 0 = 45)), (4, .row 3), (5, Iv E)], [(2, .var 51 [Fv, Zv]), (3, .row 93 1 (ns .u32 L))]⟩) ⟨_, _, ⟨(b.size : Int), [], (by omega), Dig.nil, (by intro _; simp), (by simp), (by simp [val, dvk]), rfl, rfl⟩, ?wk1⟩ ?rd1
 case wk1 =>
  exact Wk.trans (Wk.newNil (i := 4) (id := 601) (e := 93) (sz := 1) rfl rfl (by decide)) (Wk.trans (Wk.sub (σ' := ⟨[(0, Sv b), (2, .ref 2 0), (3, bp (byt a 0 = 45)), (4, .row 601), (5, Nv (b.size))], [(2, .var 51 [Fv, Zv]), (601, .row 93 1 (ns .u32 ([])))]⟩) ⟨rfl, rfl, rfl, rfl, rfl, trivial⟩ ⟨rfl, rfl, trivial⟩) (Wk.trans (Wk.ren (id := 601) (id' := 3) rfl) (Wk.sub ⟨rfl, rfl, rfl, (by first | rfl | simp), (by first | rfl | exact int_eq (by omega) | exact int_nm (by omega)), trivial⟩ ⟨rfl, (by first | rfl | exact row_ns (by simp)), trivial⟩)))
 rintro κ _ ⟨E, L, hE, hd, hl, hl2, hv, rfl, rfl⟩
 refine awp_seq fun K6 hK6 => awp_seq fun K7 hK7 => awp_region rfl (o_mv (Iv E) rfl ?_)
 refine o_gtr (a := E) (c := ((0 : Nat) : Int)) gn rfl rfl ?_
 refine aops_end (hK7 _ ?_)
 refine awp_condQ (q := ((0 : Nat) : Int) < E) rfl (fun h2 => ?_) (fun h2 => ?_)
 ·have hps : (b.extract (E.toNat - 9) E.toNat).size = E.toNat - (E.toNat - 9) := extract_size b (by omega) (by omega)
  have hpb : ∀ i, i < (b.extract (E.toNat - 9) E.toNat).size → byt (b.extract (E.toNat - 9) E.toNat) i = byt b (E.toNat - 9 + i) := fun i hi => byt_extract b (by omega) (by omega)
  have hpd : ∀ i, i < (b.extract (E.toNat - 9) E.toNat).size → 48 ≤ byt (b.extract (E.toNat - 9) E.toNat) i ∧ byt (b.extract (E.toNat - 9) E.toNat) i ≤ 57 := fun i hi => by rw [hpb i hi]; exact hbd _ (by omega)
  have hq : dvk (b.extract (E.toNat - 9) E.toNat) 0 (b.extract (E.toNat - 9) E.toNat).size = dvk b (E.toNat - 9) (E.toNat - (E.toNat - 9)) := by rw [dvk_congr (t := E.toNat - 9) (b := b) (fun i hi => by rw [Nat.zero_add]; exact hpb i hi), hps]
  have hql := dvk_lt (a := b) (s := E.toNat - 9) (k := E.toNat - (E.toNat - 9)) fun j h1 h2 => hbd j (by omega)
  have hq9 : dvk b (E.toNat - 9) (E.toNat - (E.toNat - 9)) < 1000000000 := Nat.lt_of_lt_of_le hql (by have := Nat.pow_le_pow_right (n := 10) (by decide) (show E.toNat - (E.toNat - 9) ≤ 9 by omega); simpa using this)
  refine awp_wk (Wk.slot (i := 5) (y := (Nv E.toNat)) (AV.le_eq (by exact nm_int (by omega)))) ?_
  refine awp_skip (hK6 _ (awp_seq fun K8 hK8 => ?_))
  refine awp_block ?_
  refine awp_seq fun K9 hK9 => awp_region rfl (o_mv (Sv b) rfl (o_mv (Nv E.toNat) rfl ?_))
  refine o_sub (a := ((E.toNat : Nat) : Int)) (c := ((9 : Nat) : Int)) gn rfl rfl (by exact wrap64 (by omega) (by omega)) ?_
  refine o_max (a := ((0 : Nat) : Int)) (c := ((E.toNat : Nat) : Int) - ((9 : Nat) : Int)) gn rfl rfl (fun w => run_max _ _ w) ?_
  refine n_as (v' := (Nv (E.toNat - 9))) (nm_int (by omega)) ?_
  refine o_mv (Nv E.toNat) rfl ?_
  refine n_sliceSLH b (E.toNat - 9) E.toNat gn f54_ rfl rfl rfl (by omega) (by omega) ?_
  refine o_ct (c_parse (b.extract (E.toNat - 9) E.toNat) (by omega) (by omega) (by assumption)) gn f57_ rfl ?_
  refine o_mv (.tup [nm .u64 (dvk (b.extract (E.toNat - 9) E.toNat) 0 (b.extract (E.toNat - 9) E.toNat).size), .lit .nilIface]) rfl (o_extract (nm .u64 (dvk (b.extract (E.toNat - 9) E.toNat) 0 (b.extract (E.toNat - 9) E.toNat).size)) gn rfl rfl ?_)
  refine n_as (v' := (nm .u64 (dvk b (E.toNat - 9) (E.toNat - (E.toNat - 9))))) (congrArg (nm _) (by exact hq)) ?_
  refine o_extract (.lit .nilIface) gn rfl rfl (o_as (nm .u64 (dvk b (E.toNat - 9) (E.toNat - (E.toNat - 9)))) rfl (o_as (.lit .nilIface) rfl (aops_end (hK9 _ (awp_region rfl (o_mv (.row 3) rfl (o_mv (nm .u64 (dvk b (E.toNat - 9) (E.toNat - (E.toNat - 9)))) rfl ?_)))))))
  refine n_conv (dvk b (E.toNat - 9) (E.toNat - (E.toNat - 9))) gn rfl f40_ f28_ (by simp only [topOf]; omega) ?_
  refine o_buildSlice 201 (ns .u32 ([dvk b (E.toNat - 9) (E.toNat - (E.toNat - 9))])) [(0, [nm .u32 (dvk b (E.toNat - 9) (E.toNat - (E.toNat - 9)))])] gn f16_ rfl f27_ rfl rfl rfl rfl rfl rfl rfl ?_
  refine n_append 202 L ([dvk b (E.toNat - 9) (E.toNat - (E.toNat - 9))]) [(201, .row 93 1 (ns .u32 ([dvk b (E.toNat - 9) (E.toNat - (E.toNat - 9))]))), (2, .var 51 [Fv, Zv])] gn f16_ f27_ rfl rfl rfl rfl rfl (by simp only [List.length_append, List.length_cons, List.length_nil]; omega) (by decide) rfl rfl ?_
  refine o_as (.row 202) rfl (aops_end (hK8 _ (awp_region rfl (o_mv (Nv E.toNat) rfl ?_))))
  refine o_sub (a := ((E.toNat : Nat) : Int)) (c := ((9 : Nat) : Int)) gn rfl rfl (by exact wrap64 (by omega) (by omega)) ?_
  refine o_as (Iv (((E.toNat : Nat) : Int) - ((9 : Nat) : Int))) rfl (aops_end ?_)
  refine ⟨_, _, ?lt, ⟨(E.toNat : Int) - 9, L ++ ([dvk b (E.toNat - 9) (E.toNat - (E.toNat - 9))]), (by omega), hd.snoc hq9, (by intro h; have := hl (by omega); simp only [List.length_append, List.length_cons, List.length_nil]; omega), (by have := hl (by omega); simp only [List.length_append, List.length_cons, List.length_nil]; omega), (by have hh := parse_step (s := E.toNat - 9) (by omega) (by omega) (hl (by omega)) hv; rw [show ((E.toNat : Int) - 9).toNat = E.toNat - 9 by omega]; exact hh), rfl, rfl⟩, ?wk⟩
  case lt => omega
  case wk => exact Wk.trans (Wk.sub (σ' := ⟨[(0, Sv b), (2, .ref 2 0), (3, bp (byt a 0 = 45)), (4, .row 202), (5, (Iv (((E.toNat : Nat) : Int) - ((9 : Nat) : Int))))], [(2, .var 51 [Fv, Zv]), (202, .row 93 1 (ns .u32 (L ++ ([dvk b (E.toNat - 9) (E.toNat - (E.toNat - 9))]))))]⟩) ⟨rfl, rfl, rfl, rfl, rfl, trivial⟩ ⟨rfl, rfl, trivial⟩) (Wk.trans (Wk.ren (id := 202) (id' := 3) rfl) (Wk.sub ⟨rfl, rfl, rfl, (by first | rfl | simp), (by first | rfl | exact int_eq (by omega) | exact int_nm (by omega)), trivial⟩ ⟨rfl, (by first | rfl | exact row_ns (by simp)), trivial⟩))
 ·refine awp_exit ?_
  refine hK4 _ (awp_seq fun K10 hK10 => awp_region rfl (o_mv (bp (byt a 0 = 45)) rfl (o_mv (.row 3) rfl ?_)))
  refine o_callG [(3, 1, ns .u32 L)] [bp (byt a 0 = 45), .sl 1 (ns .u32 L)] _ (intW (sg (decide (byt a 0 = 45)) (val L))) [(2, .var 51 [Fv, Zv])] gn f35_ rfl ⟨⟨_, rfl⟩, trivial⟩ rfl rfl (LeL.cons (AV.le_refl _) (LeL.cons (AV.le_refl _) LeL.nil)) (c_wTrim (decide (byt a 0 = 45)) L (by first | assumption | exact dgn_dig _ _ | exact digs_dig _ | exact Dig.snoc (by assumption) (by assumption) | exact Dig.cons (by omega) (digs_dig _))) rfl ?_
  refine o_store [(2, oZ 51 .u32 (sg (decide (byt a 0 = 45)) (val L)))] gn f19_ rfl rfl rfl rfl rfl rfl ?_
  refine aops_end (hK10 _ ?_)
  refine awp_ret ?_
  refine post_ret ⟨[intW (sg (decide (byt a 0 = 45)) (val L))], ⟨⟨2, oZ 51 .u32 (sg (decide (byt a 0 = 45)) (val L)), rfl, rfl, rfl, Or.inl ⟨f20_, AV.le_refl _⟩⟩, trivial⟩, rfl, ?_⟩
  refine congrArg (intK .u32) ?_
  rw [hv, show E.toNat = 0 by omega]
  unfold numS
  congr 1
  rw [← hbs]
  exact (dvk_congr fun i hi => by rw [Nat.zero_add]; exact (hb i (by omega))).symm

theorem c_wDigits (z : Int) (hz : (digs z.natAbs).length ≤ 1000000000) : ECalls cx 27 [intW z] (Nv (ndig z.natAbs)) := by
 refine ecalls_of_awp Tryz.func27 (c := _) rfl (Nat.le_of_ble_eq_true rfl) ?_
 show awp cx 24 _ (postF cx Tryz.f27 _) ⟨[(0, intW z)], []⟩
 refine awp_seq fun K0 hK0 => awp_region rfl ?_
 refine o_box 2 [bp (z < 0), .sl 1 (ns .u32 (digs z.natAbs))] gn rfl rfl ?_
 refine o_as (Nv 0) rfl (aops_end (hK0 _ (awp_seq fun K1 hK1 => awp_seq fun K2 hK2 => awp_region rfl ?_)))
 refine o_fieldRef 1 gn f5_ rfl rfl ?_
 refine o_loadS (.sl 1 (ns .u32 (digs z.natAbs))) gn f6_ rfl rfl rfl ?_
 refine n_len (digs z.natAbs) gn f7_ rfl ?_
 refine n_eql ((digs z.natAbs).length) 0 gn rfl rfl ?_
 refine aops_end (hK2 _ ?_)
 refine awp_condQ (q := ((digs z.natAbs).length) = 0) rfl (fun h1 => ?_) (fun h1 => ?_)
 ·refine awp_seq fun K3 hK3 => awp_region rfl (o_as (Nv 1) rfl (aops_end (hK3 _ ?_)))
  refine awp_ret ?_
  refine post_ret ⟨[Nv 1], ⟨AV.le_refl _, trivial⟩, rfl, ?_⟩
  refine congrArg (nm .i64) ?_
  unfold ndig
  rw [if_pos (digs_len_zero.1 h1)]
 ·have hn0 : 0 < z.natAbs := by rcases Nat.eq_zero_or_pos z.natAbs with e | e; exact absurd (digs_len_zero.2 e) h1; exact e
  have ht := ndig_top hn0
  have htl := (digs_dig z.natAbs).getD ((digs z.natAbs).length - 1)
  have hsz := txt_size ((digs z.natAbs).getD ((digs z.natAbs).length - 1) 0)
  have hsm := ndig_small htl
  refine awp_skip (hK1 _ (awp_seq fun K4 hK4 => awp_regionD rfl ?_))
  refine o_fieldRef 1 gn f5_ rfl rfl ?_
  refine o_loadS (.sl 1 (ns .u32 (digs z.natAbs))) gn f6_ rfl rfl rfl ?_
  refine n_len (digs z.natAbs) gn f7_ rfl ?_
  refine n_sub ((digs z.natAbs).length) 1 gn rfl rfl (by omega) (by simp only [topOf]; omega) ?_
  refine n_mul 9 (((digs z.natAbs).length) - 1) gn rfl rfl (by simp only [topOf]; omega) ?_
  refine o_fieldRef 1 gn f5_ rfl rfl ?_
  refine o_loadS (.sl 1 (ns .u32 (digs z.natAbs))) gn f6_ rfl rfl rfl ?_
  refine o_fieldRef 1 gn f5_ rfl rfl ?_
  refine o_loadS (.sl 1 (ns .u32 (digs z.natAbs))) gn f6_ rfl rfl rfl ?_
  refine n_len (digs z.natAbs) gn f7_ rfl ?_
  refine n_sub ((digs z.natAbs).length) 1 gn rfl rfl (by omega) (by simp only [topOf]; omega) ?_
  refine n_index (digs z.natAbs) (((digs z.natAbs).length) - 1) gn f16_ rfl rfl (by omega) ?_
  refine n_loadI (digs z.natAbs) (((digs z.natAbs).length) - 1) gn f17_ rfl (by omega) ?_
  refine n_conv ((digs z.natAbs).getD (((digs z.natAbs).length) - 1) 0) gn rfl f28_ f39_ (by simp only [topOf]; omega) ?_
  refine o_ct (c_itoa ((digs z.natAbs).getD (((digs z.natAbs).length) - 1) 0) (by omega)) gn f58_ rfl ?_
  refine n_lenS (txt (((digs z.natAbs).getD (((digs z.natAbs).length) - 1) 0 : Nat) : Int)) gn rfl f54_ ?_
  refine n_add (9 * (((digs z.natAbs).length) - 1)) ((txt (((digs z.natAbs).getD (((digs z.natAbs).length) - 1) 0 : Nat) : Int)).size) gn rfl rfl (by simp only [topOf]; omega) ?_
  refine o_as (Nv ((9 * (((digs z.natAbs).length) - 1)) + ((txt (((digs z.natAbs).getD (((digs z.natAbs).length) - 1) 0 : Nat) : Int)).size))) rfl ?_
  refine aops_end ⟨by kernel_rfl, ?_⟩
  refine hK4 _ ?_
  refine awp_ret ?_
  refine post_ret ⟨[(Nv ((9 * (((digs z.natAbs).length) - 1)) + ((txt (((digs z.natAbs).getD (((digs z.natAbs).length) - 1) 0 : Nat) : Int)).size)))], ⟨AV.le_refl _, trivial⟩, rfl, ?_⟩
  refine congrArg (nm .i64) ?_
  rw [hsz]
  have hp := val_drop_pos (n := z.natAbs) (j := (digs z.natAbs).length - 1) (by omega)
  rw [val_drop_succ (by omega), val_drop_all (xs := digs z.natAbs) (j := (digs z.natAbs).length - 1 + 1) (by omega)] at hp
  unfold ndig
  rw [if_neg (by omega), if_neg (by omega), ht]

theorem c_wText (z : Int) (hz : (digs z.natAbs).length ≤ 1000000000) : ECalls cx 22 [intW z] (.lit (.string (txt z))) := by
 refine ecalls_of_awp Tryz.func22 (c := _) rfl (Nat.le_of_ble_eq_true rfl) ?_
 show awp cx 54 _ (postF cx Tryz.f22 _) ⟨[(0, intW z)], []⟩
 refine awp_seq fun K0 hK0 => awp_region rfl ?_
 refine o_box 2 [bp (z < 0), .sl 1 (ns .u32 (digs z.natAbs))] gn rfl rfl ?_
 refine o_as (Sv Ev) rfl (aops_end (hK0 _ (awp_seq fun K1 hK1 => awp_seq fun K2 hK2 => awp_region rfl ?_)))
 refine o_fieldRef 1 gn f5_ rfl rfl ?_
 refine o_loadS (.sl 1 (ns .u32 (digs z.natAbs))) gn f6_ rfl rfl rfl ?_
 refine n_len (digs z.natAbs) gn f7_ rfl ?_
 refine n_eql ((digs z.natAbs).length) 0 gn rfl rfl ?_
 refine aops_end (hK2 _ ?_)
 refine awp_condQ (q := ((digs z.natAbs).length) = 0) rfl (fun h1 => ?_) (fun h1 => ?_)
 ·refine awp_seq fun K3 hK3 => awp_region rfl (o_as (Sv ({data := #[48]} : ByteArray)) rfl (aops_end (hK3 _ ?_)))
  refine awp_ret ?_
  refine post_ret ⟨[(Sv ({data := #[48]} : ByteArray))], ⟨AV.le_refl _, trivial⟩, rfl, ?_⟩
  rw [show z = 0 by have := digs_len_zero.1 h1; omega]
  rfl
 ·have hz0 : z.natAbs ≠ 0 := fun e => h1 (digs_len_zero.2 e)
  refine awp_skip (hK1 _ (awp_seq fun K4 hK4 => awp_region rfl ?_))
  refine o_buildSlice 3 (ns .u8 ([])) [] gn f49_ rfl f50_ rfl rfl rfl rfl rfl rfl rfl ?_
  refine o_as (.row 3) rfl (aops_end (hK4 _ ?_))
  refine awp_seqJ (J := fun σ => ∃ (o0 : List Nat), (o0 = (if z < 0 then [45] else [] : List Nat)) ∧ True ∧ σ = ⟨[(1, .ref 2 0), (3, .row 3)], [(2, oZ 51 .u32 z), (3, .row 5 1 (ns .u8 o0))]⟩) ?ja0 ?jb0
  case ja0 =>
   refine awp_seq fun K5 hK5 => awp_region rfl ?_
   refine o_fieldRef 0 gn f8_ rfl rfl ?_
   refine o_loadS (bp (z < 0)) gn f4_ rfl rfl rfl ?_
   refine aops_end (hK5 _ ?_)
   refine awp_condQ (q := z < 0) rfl (fun h2 => ?_) (fun h2 => ?_)
   ·refine awp_region rfl (o_mv (.row 3) rfl ?_)
    refine o_buildSlice 4 (ns .u8 ([45])) [(0, [nm .u8 45])] gn f49_ rfl f50_ rfl rfl rfl rfl rfl rfl rfl ?_
    refine n_append 5 ([]) ([45]) [(4, .row 5 1 (ns .u8 ([45]))), (2, oZ 51 .u32 z)] gn f49_ f50_ rfl rfl rfl rfl rfl (by simp) (by decide) rfl rfl ?_
    refine o_as (.row 5) rfl (aops_end ?_)
    exact ⟨_, ⟨([]) ++ ([45]), (by simp [*]), trivial, rfl⟩, Wk.trans (Wk.sub (σ' := ⟨[(1, .ref 2 0), (3, .row 5)], [(2, oZ 51 .u32 z), (5, .row 5 1 (ns .u8 (([]) ++ ([45]))))]⟩) ⟨rfl, rfl, trivial⟩ ⟨rfl, rfl, trivial⟩) (Wk.trans (Wk.ren (id := 5) (id' := 3) rfl) (Wk.sub ⟨rfl, (by first | rfl | simp), trivial⟩ ⟨rfl, (by first | rfl | exact row_ns (by simp)), trivial⟩))⟩
   ·refine awp_skip ?_
    exact ⟨_, ⟨[], (by simp [*]), trivial, rfl⟩, Wk.sub ⟨rfl, rfl, trivial⟩ ⟨rfl, (by first | rfl | exact row_ns (by simp)), trivial⟩⟩
  rintro _ ⟨o0, ho0, -, rfl⟩
  have hol : o0.length ≤ 1 := by rw [ho0]; split <;> simp
  refine awp_seq fun K6 hK6 => awp_seq fun K7 hK7 => awp_region rfl ?_
  refine o_fieldRef 1 gn f5_ rfl rfl ?_
  refine o_loadS (.sl 1 (ns .u32 (digs z.natAbs))) gn f6_ rfl rfl rfl ?_
  refine n_len (digs z.natAbs) gn f7_ rfl ?_
  refine o_sub (a := (((digs z.natAbs).length : Nat) : Int)) (c := ((1 : Nat) : Int)) gn rfl rfl (by exact wrap64 (by omega) (by omega)) ?_
  refine o_as (Iv ((((digs z.natAbs).length : Nat) : Int) - ((1 : Nat) : Int))) rfl (aops_end (hK7 _ ?_))
  refine awp_block ?_
  refine awp_loopR (fun κ σ => ∃ (j : Nat), ∃ (out : List Nat), ∃ (body : List Nat), (j ≤ (digs z.natAbs).length) ∧ (body = (decs (val ((digs z.natAbs).drop j))).reverse) ∧ (out = o0 ++ body) ∧ (out.length ≤ 1 + 9 * ((digs z.natAbs).length - j)) ∧ j = κ ∧ σ = ⟨[(1, .ref 2 0), (3, .row 3), (4, (Iv ((j : Int) - 1)))], [(2, oZ 51 .u32 z), (3, .row 5 1 (ns .u8 out))]⟩) ⟨_, _, ⟨(digs z.natAbs).length, o0, [], Nat.le_refl _, (by rw [val_drop_all (Nat.le_refl _), decs_zero]; rfl), (by simp), (by omega), rfl, rfl⟩, ?wk1⟩ ?rd1
  case wk1 =>
   exact Wk.sub ⟨rfl, rfl, (by first | rfl | exact int_eq (by omega) | exact int_nm (by omega)), trivial⟩ ⟨rfl, (by first | rfl | exact row_ns (by simp)), trivial⟩
  rintro κ _ ⟨j, out, body, hj, hb, ho, hol2, rfl, rfl⟩
  have hp := (digs_dig z.natAbs).getD (j - 1)
  have htsz := txt_size ((digs z.natAbs).getD (j - 1) 0)
  have hnd := ndig_small hp
  refine awp_seq fun K8 hK8 => awp_seq fun K9 hK9 => awp_region rfl (o_mv (Iv ((j : Int) - 1)) rfl ?_)
  refine o_geq (a := ((j : Int) - 1)) (c := ((0 : Nat) : Int)) gn rfl rfl ?_
  refine aops_end (hK9 _ ?_)
  refine awp_condQ (q := ((0 : Nat) : Int) ≤ ((j : Int) - 1)) rfl (fun h3 => ?_) (fun h3 => ?_)
  ·refine awp_wk (Wk.slot (i := 4) (y := (Nv (j - 1))) (AV.le_eq (by exact nm_int (by omega)))) ?_
   refine awp_skip (hK8 _ (awp_seq fun K10 hK10 => ?_))
   refine awp_block ?_
   refine awp_seq fun K11 hK11 => awp_region rfl ?_
   refine o_fieldRef 1 gn f5_ rfl rfl ?_
   refine o_loadS (.sl 1 (ns .u32 (digs z.natAbs))) gn f6_ rfl rfl rfl ?_
   refine o_mv (Nv (j - 1)) rfl ?_
   refine n_index (digs z.natAbs) (j - 1) gn f16_ rfl rfl (by omega) ?_
   refine n_loadI (digs z.natAbs) (j - 1) gn f17_ rfl (by omega) ?_
   refine n_conv ((digs z.natAbs).getD (j - 1) 0) gn rfl f28_ f39_ (by simp only [topOf]; omega) ?_
   refine o_ct (c_itoa ((digs z.natAbs).getD (j - 1) 0) (by omega)) gn f58_ rfl ?_
   refine o_as (Sv (txt (((digs z.natAbs).getD (j - 1) 0 : Nat) : Int))) rfl (aops_end (hK11 _ (awp_seq fun K12 hK12 => awp_seq fun K13 hK13 => awp_region rfl (o_mv (Sv (txt (((digs z.natAbs).getD (j - 1) 0 : Nat) : Int))) rfl ?_))))
   refine n_lenS (txt (((digs z.natAbs).getD (j - 1) 0 : Nat) : Int)) gn rfl f54_ ?_
   refine n_as (v' := (Nv (ndig ((digs z.natAbs).getD (j - 1) 0)))) (congrArg (nm _) (by exact htsz)) ?_
   refine o_as (Nv (ndig ((digs z.natAbs).getD (j - 1) 0))) rfl (aops_end (hK13 _ ?_))
   refine awp_block ?_
   refine awp_loopR (fun κ σ => ∃ (k : Nat), ∃ (out2 : List Nat), (ndig ((digs z.natAbs).getD (j - 1) 0) ≤ k) ∧ (k ≤ 9) ∧ (¬ j < (digs z.natAbs).length → k = ndig ((digs z.natAbs).getD (j - 1) 0)) ∧ (out2 = out ++ List.replicate (k - ndig ((digs z.natAbs).getD (j - 1) 0)) 48) ∧ (out2.length + ndig ((digs z.natAbs).getD (j - 1) 0) = out.length + k) ∧ (9 - k) = κ ∧ σ = ⟨[(1, .ref 2 0), (3, .row 3), (4, Nv (j - 1)), (5, (Sv (txt (((digs z.natAbs).getD (j - 1) 0 : Nat) : Int)))), (6, Nv k)], [(2, oZ 51 .u32 z), (3, .row 5 1 (ns .u8 out2))]⟩) ⟨_, _, ⟨ndig ((digs z.natAbs).getD (j - 1) 0), _, Nat.le_refl _, hnd, (fun _ => rfl), (by simp), rfl, rfl, rfl⟩, ?wk2⟩ ?rd2
   case wk2 =>
    exact Wk.sub ⟨rfl, rfl, rfl, (by first | rfl | simp), (by first | rfl | exact nm_int (by omega)), trivial⟩ ⟨rfl, (by first | rfl | exact row_ns (by simp)), trivial⟩
   rintro κ _ ⟨k, out2, hk9, hk10, hk0, hk, hk11, rfl, rfl⟩
   refine awp_seq fun K14 hK14 => awp_seq fun K15 hK15 => awp_region rfl (o_mv (Nv k) rfl ?_)
   refine n_lss k 9 gn rfl rfl ?_
   refine o_mv (bp (k < 9)) rfl ?_
   refine o_splitP (q := k < 9) 36 rfl (fun h4 => ?_) (fun h4 => ?_)
   ·refine o_move (Nv (j - 1)) (Gd.yes rfl rfl (decide_eq_true h4)) rfl ?_
    refine o_fieldRef 1 (Gd.yes rfl rfl (decide_eq_true h4)) f5_ rfl rfl ?_
    refine o_loadS (.sl 1 (ns .u32 (digs z.natAbs))) (Gd.yes rfl rfl (decide_eq_true h4)) f6_ rfl rfl rfl ?_
    refine n_len (digs z.natAbs) (Gd.yes rfl rfl (decide_eq_true h4)) f7_ rfl ?_
    refine n_sub ((digs z.natAbs).length) 1 (Gd.yes rfl rfl (decide_eq_true h4)) rfl rfl (by omega) (by simp only [topOf]; omega) ?_
    refine n_lss (j - 1) (((digs z.natAbs).length) - 1) (Gd.yes rfl rfl (decide_eq_true h4)) rfl rfl ?_
    refine o_pickT (bp ((j - 1) < (((digs z.natAbs).length) - 1))) gn rfl (decide_eq_true h4) rfl ?_
    refine aops_end (hK15 _ ?_)
    refine awp_condQ (q := (j - 1) < (((digs z.natAbs).length) - 1)) rfl (fun h5 => ?_) (fun h5 => ?_)
    ·refine awp_skip (hK14 _ (awp_seq fun K16 hK16 => ?_))
     refine awp_block ?_
     refine awp_region rfl (o_mv (.row 3) rfl ?_)
     refine o_buildSlice 301 (ns .u8 ([48])) [(0, [nm .u8 48])] gn f49_ rfl f50_ rfl rfl rfl rfl rfl rfl rfl ?_
     refine n_append 302 out2 ([48]) [(301, .row 5 1 (ns .u8 ([48]))), (2, oZ 51 .u32 z)] gn f49_ f50_ rfl rfl rfl rfl rfl (by simp only [List.length_append, List.length_cons, List.length_nil]; omega) (by decide) rfl rfl ?_
     refine o_as (.row 302) rfl (aops_end (hK16 _ (awp_region rfl (o_mv (Nv k) rfl ?_))))
     refine n_add k 1 gn rfl rfl (by simp only [topOf]; omega) ?_
     refine o_as (Nv (k + 1)) rfl (aops_end ?_)
     refine ⟨_, _, ?lt, ⟨k + 1, out2 ++ ([48]), (by omega), (by omega), (fun h => by omega), (by rw [hk, List.append_assoc, ← List.replicate_succ', show k - ndig ((digs z.natAbs).getD (j - 1) 0) + 1 = k + 1 - ndig ((digs z.natAbs).getD (j - 1) 0) by omega]), (by simp only [List.length_append, List.length_cons, List.length_nil]; omega), rfl, rfl⟩, ?wk⟩
     case lt => omega
     case wk => exact Wk.trans (Wk.sub (σ' := ⟨[(1, .ref 2 0), (3, .row 302), (4, Nv (j - 1)), (5, (Sv (txt (((digs z.natAbs).getD (j - 1) 0 : Nat) : Int)))), (6, Nv (k + 1))], [(2, oZ 51 .u32 z), (302, .row 5 1 (ns .u8 (out2 ++ ([48]))))]⟩) ⟨rfl, rfl, rfl, rfl, rfl, trivial⟩ ⟨rfl, rfl, trivial⟩) (Wk.trans (Wk.ren (id := 302) (id' := 3) rfl) (Wk.sub ⟨rfl, (by first | rfl | simp), rfl, rfl, (by first | rfl | exact nm_int (by omega)), trivial⟩ ⟨rfl, (by first | rfl | exact row_ns (by simp)), trivial⟩))
    ·refine awp_exit ?_
     refine hK12 _ (awp_region rfl (o_mv (.row 3) rfl (o_mv (Sv (txt (((digs z.natAbs).getD (j - 1) 0 : Nat) : Int))) rfl ?_)))
     refine n_appendS 301 out2 (txt (((digs z.natAbs).getD (j - 1) 0 : Nat) : Int)) [(2, oZ 51 .u32 z)] gn f49_ f54_ f59_ rfl rfl rfl (by rw [htsz]; omega) rfl rfl ?_
     refine o_as (.row 301) rfl (aops_end (hK10 _ (awp_region rfl (o_mv (Nv (j - 1)) rfl ?_))))
     refine o_sub (a := ((j - 1 : Nat) : Int)) (c := ((1 : Nat) : Int)) gn rfl rfl (by exact wrap64 (by omega) (by omega)) ?_
     refine o_as (Iv (((j - 1 : Nat) : Int) - ((1 : Nat) : Int))) rfl (aops_end ?_)
     have hk2 : out2 = if j < (digs z.natAbs).length then out ++ List.replicate (9 - ndig ((digs z.natAbs).getD (j - 1) 0)) 48 else out := by
      rw [hk]
      by_cases hj2 : j < (digs z.natAbs).length
      ·rw [if_pos hj2, show k = 9 by omega]
      ·rw [if_neg hj2, hk0 hj2]; simp
     refine ⟨_, _, ?lt, ⟨j - 1, out2 ++ byts (txt (((digs z.natAbs).getD (j - 1) 0 : Nat) : Int)), (if j < (digs z.natAbs).length then body ++ List.replicate (9 - ndig ((digs z.natAbs).getD (j - 1) 0)) 48 else body) ++ txtL ((digs z.natAbs).getD (j - 1) 0 : Nat), (by omega), (str_step (by omega) hj hb), (by rw [hk2, ho, byts_txt]; split <;> simp [*]), (by simp only [List.length_append, byts_len, htsz]; omega), rfl, rfl⟩, ?wk⟩
     case lt => omega
     case wk => exact Wk.trans (Wk.sub (σ' := ⟨[(1, .ref 2 0), (3, .row 301), (4, (Iv (((j - 1 : Nat) : Int) - ((1 : Nat) : Int))))], [(2, oZ 51 .u32 z), (301, (.row 5 1 (ns .u8 (out2 ++ byts (txt (((digs z.natAbs).getD (j - 1) 0 : Nat) : Int))))))]⟩) ⟨rfl, rfl, rfl, trivial⟩ ⟨rfl, rfl, trivial⟩) (Wk.trans (Wk.ren (id := 301) (id' := 3) rfl) (Wk.sub ⟨rfl, (by first | rfl | simp), (by first | rfl | exact int_eq (by omega) | exact int_nm (by omega)), trivial⟩ ⟨rfl, (by first | rfl | exact row_ns (by simp)), trivial⟩))
   ·refine o_skip rfl rfl (decide_eq_false h4) (o_skip rfl rfl (decide_eq_false h4) (o_skip rfl rfl (decide_eq_false h4) (o_skip rfl rfl (decide_eq_false h4) (o_skip rfl rfl (decide_eq_false h4) (o_skip rfl rfl (decide_eq_false h4) ?_)))))
    refine o_pickF Fv gn rfl (decide_eq_false h4) rfl ?_
    refine aops_end (hK15 _ ?_)
    refine awp_condB (b := false) rfl (fun hh => absurd (hh.symm.trans rfl) (by decide)) (fun _ => ?_)
    refine awp_exit ?_
    refine hK12 _ (awp_region rfl (o_mv (.row 3) rfl (o_mv (Sv (txt (((digs z.natAbs).getD (j - 1) 0 : Nat) : Int))) rfl ?_)))
    refine n_appendS 301 out2 (txt (((digs z.natAbs).getD (j - 1) 0 : Nat) : Int)) [(2, oZ 51 .u32 z)] gn f49_ f54_ f59_ rfl rfl rfl (by rw [htsz]; omega) rfl rfl ?_
    refine o_as (.row 301) rfl (aops_end (hK10 _ (awp_region rfl (o_mv (Nv (j - 1)) rfl ?_))))
    refine o_sub (a := ((j - 1 : Nat) : Int)) (c := ((1 : Nat) : Int)) gn rfl rfl (by exact wrap64 (by omega) (by omega)) ?_
    refine o_as (Iv (((j - 1 : Nat) : Int) - ((1 : Nat) : Int))) rfl (aops_end ?_)
    have hk2 : out2 = if j < (digs z.natAbs).length then out ++ List.replicate (9 - ndig ((digs z.natAbs).getD (j - 1) 0)) 48 else out := by
     rw [hk]
     by_cases hj2 : j < (digs z.natAbs).length
     ·rw [if_pos hj2, show k = 9 by omega]
     ·rw [if_neg hj2, hk0 hj2]; simp
    refine ⟨_, _, ?lt, ⟨j - 1, out2 ++ byts (txt (((digs z.natAbs).getD (j - 1) 0 : Nat) : Int)), (if j < (digs z.natAbs).length then body ++ List.replicate (9 - ndig ((digs z.natAbs).getD (j - 1) 0)) 48 else body) ++ txtL ((digs z.natAbs).getD (j - 1) 0 : Nat), (by omega), (str_step (by omega) hj hb), (by rw [hk2, ho, byts_txt]; split <;> simp [*]), (by simp only [List.length_append, byts_len, htsz]; omega), rfl, rfl⟩, ?wk⟩
    case lt => omega
    case wk => exact Wk.trans (Wk.sub (σ' := ⟨[(1, .ref 2 0), (3, .row 301), (4, (Iv (((j - 1 : Nat) : Int) - ((1 : Nat) : Int))))], [(2, oZ 51 .u32 z), (301, (.row 5 1 (ns .u8 (out2 ++ byts (txt (((digs z.natAbs).getD (j - 1) 0 : Nat) : Int))))))]⟩) ⟨rfl, rfl, rfl, trivial⟩ ⟨rfl, rfl, trivial⟩) (Wk.trans (Wk.ren (id := 301) (id' := 3) rfl) (Wk.sub ⟨rfl, (by first | rfl | simp), (by first | rfl | exact int_eq (by omega) | exact int_nm (by omega)), trivial⟩ ⟨rfl, (by first | rfl | exact row_ns (by simp)), trivial⟩))
  ·refine awp_exit ?_
   refine hK6 _ (awp_seq fun K17 hK17 => awp_region rfl (o_mv (.row 3) rfl ?_))
   refine n_strOf out gn f51_ f53_ f54_ rfl rfl ?_
   refine o_as (Sv (strN out)) rfl (aops_end (hK17 _ ?_))
   refine awp_ret ?_
   refine post_ret ⟨[Sv (strN out)], ⟨AV.le_refl _, trivial⟩, rfl, ?_⟩
   have hj0 : j = 0 := by omega
   subst hj0
   rw [List.drop_zero, val_digs] at hb
   refine congrArg (fun x => AV.lit (.string x)) ?_
   unfold txt txtL
   rw [if_neg (by omega), ho, ho0, hb]

theorem c_nTold (z : Int) (hz : (digs z.natAbs).length ≤ 1000000000) : ECalls cx 101 [intW z] (.tup [.lit (.string (toldS z)), nm .i64 (toldE z)]) := by
 refine ecalls_of_awp Tryz.func101 (c := _) rfl (Nat.le_of_ble_eq_true rfl) ?_
 show awp cx 9 _ (postF cx Tryz.f101 _) ⟨[(0, intW z)], []⟩
 refine awp_seq fun K0 hK0 => awp_region rfl ?_
 refine o_box 2 [bp (z < 0), .sl 1 (ns .u32 (digs z.natAbs))] gn rfl rfl ?_
 refine o_as (Sv Ev) rfl (o_as (Nv 0) rfl (aops_end (hK0 _ (awp_seq fun K1 hK1 => awp_seq fun K2 hK2 => awp_region rfl ?_))))
 refine o_loadA [bp (z < 0), .sl 1 (ns .u32 (digs z.natAbs))] gn f20_ rfl rfl rfl rfl rfl ?_
 refine o_ct (c_wDigits z (by first | omega | assumption | (simp only [Int.natAbs_neg]; omega))) gn f60_ rfl ?_
 refine n_gtr (ndig z.natAbs) 2000 gn rfl rfl ?_
 refine aops_end (hK2 _ ?_)
 refine awp_condQ (q := 2000 < (ndig z.natAbs)) rfl (fun h1 => ?_) (fun h1 => ?_)
 ·refine awp_seq fun K3 hK3 => awp_region rfl (o_as (Sv Ev) rfl (o_as (Nv 3) rfl (aops_end (hK3 _ ?_))))
  refine awp_ret ?_
  refine post_ret ⟨[Sv Ev, Nv 3], ⟨AV.le_refl _, AV.le_refl _, trivial⟩, rfl, ?_⟩
  have hF : ¬ Fit z := by unfold Fit; omega
  unfold toldS toldE
  rw [if_neg hF, if_neg hF]
  rfl
 ·refine awp_skip (hK1 _ (awp_seq fun K4 hK4 => awp_region rfl ?_))
  refine o_loadA [bp (z < 0), .sl 1 (ns .u32 (digs z.natAbs))] gn f20_ rfl rfl rfl rfl rfl ?_
  refine o_ct (c_wText z (by first | omega | assumption | (simp only [Int.natAbs_neg]; omega))) gn f61_ rfl ?_
  refine o_as (Sv (txt z)) rfl (o_as (Nv 0) rfl (aops_end (hK4 _ ?_)))
  refine awp_ret ?_
  refine post_ret ⟨[Sv (txt z), Nv 0], ⟨AV.le_refl _, AV.le_refl _, trivial⟩, rfl, ?_⟩
  have hF : Fit z := by unfold Fit; omega
  unfold toldS toldE
  rw [if_pos hF, if_pos hF]
  rfl

end Go.Proofs.YtaeknciienkijaaGreatDoor

namespace Go.Proofs.YtaeknciienkijaaGreatDoor
open Go Go.Ab Go.Mth
theorem c_nValid (a : ByteArray) (hsz : a.size ≤ 9223372036854775807) : ECalls cx 24 [Sv a] (.lit (.bool (okS a))) := by
 refine ecalls_of_awp Tryz.func24 (c := _) rfl (Nat.le_of_ble_eq_true rfl) ?_
 show awp cx 50 _ (postF cx Tryz.f24 _) ⟨[(0, Sv a)], []⟩
 have hs1 : sgnAt a ≤ 1 := by unfold sgnAt; split <;> omega
 refine awp_seq fun K0 hK0 => awp_region rfl (o_as Fv rfl (aops_end (hK0 _ (awp_seq fun K1 hK1 => awp_seq fun K2 hK2 => awp_region rfl (o_mv (Sv a) rfl ?_)))))
 refine n_lenS a gn rfl f54_ ?_
 refine n_gtr (a.size) 2001 gn rfl rfl ?_
 refine aops_end (hK2 _ ?_)
 refine awp_condQ (q := 2001 < (a.size)) rfl (fun h1 => ?_) (fun h1 => ?_)
 ·refine awp_seq fun K3 hK3 => awp_region rfl (o_as Fv rfl (aops_end (hK3 _ ?_)))
  refine awp_ret ?_
  refine post_ret ⟨[Fv], ⟨AV.le_refl _, trivial⟩, rfl, ?_⟩
  refine bl_eq (okS_no fun h => ?_)
  obtain ⟨o1, o2, o3, o4⟩ := h
  first | omega | (have := str_nil.1 (by assumption); omega) | (have e := hb 0 (by omega); rw [Nat.add_zero] at e; omega) | (have e := hb 0 (by omega); have := hng1 (by assumption); rw [Nat.add_zero] at e; omega) | (have e := o4 (sgnAt a + pos) (by omega) (by omega); rw [← hb pos (by omega)] at e; have e2 := utf8_lo (a := b) (pos := pos) (by omega) (by omega); simp only [e2] at *; omega)
 ·refine awp_skip (hK1 _ ?_)
  refine awp_seqJ (J := fun σ => ∃ (ng : Bool), (ng = true → sgnAt a = 1) ∧ (ng = false → sgnAt a = 0) ∧ (ng = true → 0 < a.size) ∧ True ∧ σ = ⟨[(0, Sv a), (3, .lit (.bool ng))], []⟩) ?ja0 ?jb0
  case ja0 =>
   refine awp_region rfl (o_mv (Sv a) rfl ?_)
   refine o_neqS (a := a) (c := Ev) gn rfl rfl ?_
   refine o_mv (bp (a.toList ≠ Ev.toList)) rfl ?_
   refine o_splitP (q := a.toList ≠ Ev.toList) 11 rfl (fun h2 => ?_) (fun h2 => ?_)
   ·refine o_move (Sv a) (Gd.yes rfl rfl (decide_eq_true h2)) rfl ?_
    refine n_indexS a 0 (Gd.yes rfl rfl (decide_eq_true h2)) f54_ rfl rfl (by have := mt str_nil.2 h2; omega) ?_
    refine n_eql (byt a 0) 45 (Gd.yes rfl rfl (decide_eq_true h2)) rfl rfl ?_
    refine o_pickT (bp ((byt a 0) = 45)) gn rfl (decide_eq_true h2) rfl ?_
    refine o_as (bp ((byt a 0) = 45)) rfl (aops_end ?_)
    have hne := mt str_nil.2 h2
    exact ⟨_, ⟨decide ((byt a 0) = 45), (fun h => if_pos (of_decide_eq_true h)), (fun h => if_neg (of_decide_eq_false h)), (fun _ => by omega), trivial, rfl⟩, Wk.sub ⟨rfl, (by first | rfl | simp), trivial⟩ trivial⟩
   ·refine o_skip rfl rfl (decide_eq_false h2) (o_skip rfl rfl (decide_eq_false h2) (o_skip rfl rfl (decide_eq_false h2) ?_))
    refine o_pickF Fv gn rfl (decide_eq_false h2) rfl ?_
    refine o_as Fv rfl (aops_end ?_)
    have hs : sgnAt a = 0 := if_neg (by rw [byt_nil (str_nil.1 (Decidable.not_not.1 h2))]; decide)
    exact ⟨_, ⟨false, (fun h => by cases h), (fun _ => hs), (fun h => by cases h), trivial, rfl⟩, Wk.sub ⟨rfl, (by first | rfl | simp), trivial⟩ trivial⟩
  rintro _ ⟨ng, hng1, hng0, hngz, -, rfl⟩
  refine awp_seqJ (J := fun σ => ∃ (b : ByteArray), (b.size = a.size - sgnAt a) ∧ (∀ i, i < b.size → byt b i = byt a (sgnAt a + i)) ∧ True ∧ σ = ⟨[(0, Sv b), (3, .lit (.bool ng))], []⟩) ?ja1 ?jb1
  case ja1 =>
   refine awp_seq fun K4 hK4 => awp_region rfl (o_mv (.lit (.bool ng)) rfl (aops_end (hK4 _ ?_)))
   refine awp_condB (b := ng) rfl (fun h3 => ?_) (fun h3 => ?_)
   ·refine awp_region rfl (o_mv (Sv a) rfl ?_)
    refine n_sliceSL a 1 (a.size) gn f54_ rfl rfl (by have hz := hngz h3; omega) (by rfl) ?_
    refine o_as (Sv (a.extract 1 (a.size))) rfl (aops_end ?_)
    have hs := hng1 h3
    have hz := hngz h3
    exact ⟨_, ⟨(a).extract 1 (a.size), (by rw [extract_size a (by omega) (by omega)]; omega), (fun i hi => by rw [extract_size a (by omega) (by omega)] at hi; rw [byt_extract a (by omega) (by omega), hs]), trivial, rfl⟩, Wk.sub ⟨(by first | rfl | simp), rfl, trivial⟩ trivial⟩
   ·refine awp_skip ?_
    have hs := hng0 h3
    exact ⟨_, ⟨a, (by omega), (fun i hi => by rw [hs, Nat.zero_add]), trivial, rfl⟩, Wk.sub ⟨(by first | rfl | simp), rfl, trivial⟩ trivial⟩
  rintro _ ⟨b, hbs, hb, -, rfl⟩
  refine awp_seq fun K5 hK5 => awp_seq fun K6 hK6 => awp_region rfl (o_mv (Sv b) rfl ?_)
  refine o_eqlS (a := b) (c := Ev) gn rfl rfl ?_
  refine o_mv (bp (b.toList = Ev.toList)) rfl ?_
  refine o_splitP (q := b.toList = Ev.toList) 21 rfl (fun h4 => ?_) (fun h4 => ?_)
  ·refine o_skip rfl rfl (decide_eq_true h4) (o_skip rfl rfl (decide_eq_true h4) (o_skip rfl rfl (decide_eq_true h4) ?_))
   refine o_pickT Tv gn rfl (decide_eq_true h4) rfl ?_
   refine o_mv Tv rfl (o_skip rfl rfl rfl (o_skip rfl rfl rfl (o_skip rfl rfl rfl (o_skip rfl rfl rfl (o_skipU rfl rfl (o_skipU rfl rfl (o_skipU rfl rfl (o_skipU rfl rfl (o_skipU rfl rfl (o_skipU rfl rfl (o_skip rfl rfl rfl ?_)))))))))))
   refine o_pickT Tv gn rfl rfl rfl ?_
   refine aops_end (hK6 _ ?_)
   refine awp_condB (b := true) rfl (fun _ => ?_) (fun hh => absurd (hh.symm.trans rfl) (by decide))
   refine awp_seq fun K7 hK7 => awp_region rfl (o_as Fv rfl (aops_end (hK7 _ ?_)))
   refine awp_ret ?_
   refine post_ret ⟨[Fv], ⟨AV.le_refl _, trivial⟩, rfl, ?_⟩
   refine bl_eq (okS_no fun h => ?_)
   obtain ⟨o1, o2, o3, o4⟩ := h
   first | omega | (have := str_nil.1 (by assumption); omega) | (have e := hb 0 (by omega); rw [Nat.add_zero] at e; omega) | (have e := hb 0 (by omega); have := hng1 (by assumption); rw [Nat.add_zero] at e; omega) | (have e := o4 (sgnAt a + pos) (by omega) (by omega); rw [← hb pos (by omega)] at e; have e2 := utf8_lo (a := b) (pos := pos) (by omega) (by omega); simp only [e2] at *; omega)
  ·have hne := mt str_nil.2 h4
   refine o_move (Sv b) (Gd.yes rfl rfl (decide_eq_false h4)) rfl ?_
   refine n_lenS b (Gd.yes rfl rfl (decide_eq_false h4)) rfl f54_ ?_
   refine n_gtr (b.size) 2000 (Gd.yes rfl rfl (decide_eq_false h4)) rfl rfl ?_
   refine o_pickF (bp (2000 < (b.size))) gn rfl (decide_eq_false h4) rfl ?_
   refine o_mv (bp (2000 < (b.size))) rfl ?_
   refine o_splitP (q := 2000 < (b.size)) 26 rfl (fun h5 => ?_) (fun h5 => ?_)
   ·refine o_skip rfl rfl (decide_eq_true h5) (o_skip rfl rfl (decide_eq_true h5) (o_skip rfl rfl (decide_eq_true h5) (o_skip rfl rfl (decide_eq_true h5) (o_skipU rfl rfl (o_skipU rfl rfl (o_skipU rfl rfl (o_skipU rfl rfl (o_skipU rfl rfl (o_skipU rfl rfl (o_skip rfl rfl (decide_eq_true h5) ?_))))))))))
    refine o_pickT Tv gn rfl (decide_eq_true h5) rfl ?_
    refine aops_end (hK6 _ ?_)
    refine awp_condB (b := true) rfl (fun _ => ?_) (fun hh => absurd (hh.symm.trans rfl) (by decide))
    refine awp_seq fun K8 hK8 => awp_region rfl (o_as Fv rfl (aops_end (hK8 _ ?_)))
    refine awp_ret ?_
    refine post_ret ⟨[Fv], ⟨AV.le_refl _, trivial⟩, rfl, ?_⟩
    refine bl_eq (okS_no fun h => ?_)
    obtain ⟨o1, o2, o3, o4⟩ := h
    first | omega | (have := str_nil.1 (by assumption); omega) | (have e := hb 0 (by omega); rw [Nat.add_zero] at e; omega) | (have e := hb 0 (by omega); have := hng1 (by assumption); rw [Nat.add_zero] at e; omega) | (have e := o4 (sgnAt a + pos) (by omega) (by omega); rw [← hb pos (by omega)] at e; have e2 := utf8_lo (a := b) (pos := pos) (by omega) (by omega); simp only [e2] at *; omega)
   ·refine o_move (Sv b) (Gd.yes rfl rfl (decide_eq_false h5)) rfl ?_
    refine n_indexS b 0 (Gd.yes rfl rfl (decide_eq_false h5)) f54_ rfl rfl (by omega) ?_
    refine n_eql (byt b 0) 48 (Gd.yes rfl rfl (decide_eq_false h5)) rfl rfl ?_
    refine o_move (bp ((byt b 0) = 48)) (Gd.yes rfl rfl (decide_eq_false h5)) rfl ?_
    refine o_splitP (q := (byt b 0) = 48) 30 rfl (fun h6 => ?_) (fun h6 => ?_)
    ·refine o_move (Sv b) (Gd.yes rfl rfl (decide_eq_true h6)) rfl ?_
     refine n_lenS b (Gd.yes rfl rfl (decide_eq_true h6)) rfl f54_ ?_
     refine n_gtr (b.size) 1 (Gd.yes rfl rfl (decide_eq_true h6)) rfl rfl ?_
     refine o_move (bp (1 < (b.size))) (Gd.yes rfl rfl (decide_eq_true h6)) rfl ?_
     refine o_splitP (q := 1 < (b.size)) 34 rfl (fun h7 => ?_) (fun h7 => ?_)
     ·refine o_skip rfl rfl (decide_eq_true h7) ?_
      refine o_pickT Tv (Gd.yes rfl rfl (decide_eq_true h6)) rfl (decide_eq_true h7) rfl ?_
      refine o_pickT Tv (Gd.yes rfl rfl (decide_eq_false h5)) rfl (decide_eq_true h6) rfl ?_
      refine o_pickF Tv gn rfl (decide_eq_false h5) rfl ?_
      refine aops_end (hK6 _ ?_)
      refine awp_condB (b := true) rfl (fun _ => ?_) (fun hh => absurd (hh.symm.trans rfl) (by decide))
      refine awp_seq fun K9 hK9 => awp_region rfl (o_as Fv rfl (aops_end (hK9 _ ?_)))
      refine awp_ret ?_
      refine post_ret ⟨[Fv], ⟨AV.le_refl _, trivial⟩, rfl, ?_⟩
      refine bl_eq (okS_no fun h => ?_)
      obtain ⟨o1, o2, o3, o4⟩ := h
      first | omega | (have := str_nil.1 (by assumption); omega) | (have e := hb 0 (by omega); rw [Nat.add_zero] at e; omega) | (have e := hb 0 (by omega); have := hng1 (by assumption); rw [Nat.add_zero] at e; omega) | (have e := o4 (sgnAt a + pos) (by omega) (by omega); rw [← hb pos (by omega)] at e; have e2 := utf8_lo (a := b) (pos := pos) (by omega) (by omega); simp only [e2] at *; omega)
     ·refine o_move (.lit (.bool ng)) (Gd.yes rfl rfl (decide_eq_false h7)) rfl ?_
      refine o_pickF (.lit (.bool ng)) (Gd.yes rfl rfl (decide_eq_true h6)) rfl (decide_eq_false h7) rfl ?_
      refine o_pickT (.lit (.bool ng)) (Gd.yes rfl rfl (decide_eq_false h5)) rfl (decide_eq_true h6) rfl ?_
      refine o_pickF (.lit (.bool ng)) gn rfl (decide_eq_false h5) rfl ?_
      refine aops_end (hK6 _ ?_)
      refine awp_condB (b := ng) rfl (fun h8 => ?_) (fun h8 => ?_)
      ·refine awp_seq fun K10 hK10 => awp_region rfl (o_as Fv rfl (aops_end (hK10 _ ?_)))
       refine awp_ret ?_
       refine post_ret ⟨[Fv], ⟨AV.le_refl _, trivial⟩, rfl, ?_⟩
       refine bl_eq (okS_no fun h => ?_)
       obtain ⟨o1, o2, o3, o4⟩ := h
       first | omega | (have := str_nil.1 (by assumption); omega) | (have e := hb 0 (by omega); rw [Nat.add_zero] at e; omega) | (have e := hb 0 (by omega); have := hng1 (by assumption); rw [Nat.add_zero] at e; omega) | (have e := o4 (sgnAt a + pos) (by omega) (by omega); rw [← hb pos (by omega)] at e; have e2 := utf8_lo (a := b) (pos := pos) (by omega) (by omega); simp only [e2] at *; omega)
      ·refine awp_skip (hK5 _ (awp_seq fun K11 hK11 => awp_seq fun K12 hK12 => awp_region rfl (o_mv (Sv b) rfl ?_)))
       refine o_iterNew 201 gn f54_ rfl rfl ?_
       refine aops_end (hK12 _ ?_)
       refine awp_block ?_
       refine awp_loopR (fun κ σ => ∃ (pos : Nat), (pos ≤ b.size) ∧ (∀ k, k < pos → 48 ≤ byt b k ∧ byt b k ≤ 57) ∧ (b.size - pos) = κ ∧ σ = ⟨[(40, .ref 201 0)], [(201, .blk (.stringIter b pos))]⟩) ⟨_, _, ⟨0, (by omega), (fun k hk => by omega), rfl, rfl⟩, ?wk2⟩ ?rd2
       case wk2 =>
        exact Wk.sub ⟨rfl, trivial⟩ ⟨(by first | rfl | exact congrArg (fun x => some (.blk (.stringIter _ x))) (by omega)), trivial⟩
       rintro κ _ ⟨pos, hp, hv, rfl, rfl⟩
       refine awp_seq fun K13 hK13 => awp_region rfl ?_
       refine aops_em (pos < b.size) (fun h9 => ?_) (fun h9 => ?_)
       ·refine o_iterNext ((Utf8.decode b pos).1 : Int) (pos + (Utf8.decode b pos).2) [(201, .blk (.stringIter b (pos + (Utf8.decode b pos).2)))] gn rfl rfl h9 rfl rfl rfl ?_
        refine o_extract Tv gn rfl rfl (aops_end (hK13 _ (awp_seq fun K14 hK14 => ?_)))
        refine awp_condB (b := true) rfl (fun _ => ?_) (fun hh => absurd (hh.symm.trans rfl) (by decide))
        refine awp_skip (hK14 _ ?_)
        refine awp_block ?_
        refine awp_seq fun K15 hK15 => awp_region rfl (o_extract (.lit (.int .i32 ((Utf8.decode b pos).1 : Int))) gn rfl rfl (o_as (.lit (.int .i32 ((Utf8.decode b pos).1 : Int))) rfl (aops_end (hK15 _ (awp_seq fun K16 hK16 => awp_region rfl (o_mv (.lit (.int .i32 ((Utf8.decode b pos).1 : Int))) rfl ?_))))))
        refine o_lss (a := ((Utf8.decode b pos).1 : Int)) (c := ((48 : Nat) : Int)) gn rfl rfl ?_
        refine o_mv (bp (((Utf8.decode b pos).1 : Int) < ((48 : Nat) : Int))) rfl ?_
        refine o_splitP (q := ((Utf8.decode b pos).1 : Int) < ((48 : Nat) : Int)) 46 rfl (fun h10 => ?_) (fun h10 => ?_)
        ·refine o_skip rfl rfl (decide_eq_true h10) (o_skip rfl rfl (decide_eq_true h10) ?_)
         refine o_pickT Tv gn rfl (decide_eq_true h10) rfl ?_
         refine aops_end (hK16 _ ?_)
         refine awp_condB (b := true) rfl (fun _ => ?_) (fun hh => absurd (hh.symm.trans rfl) (by decide))
         refine awp_seq fun K17 hK17 => awp_region rfl (o_as Fv rfl (aops_end (hK17 _ ?_)))
         refine awp_ret ?_
         refine post_ret ⟨[Fv], ⟨AV.le_refl _, trivial⟩, rfl, ?_⟩
         refine bl_eq (okS_no fun h => ?_)
         obtain ⟨o1, o2, o3, o4⟩ := h
         first | omega | (have := str_nil.1 (by assumption); omega) | (have e := hb 0 (by omega); rw [Nat.add_zero] at e; omega) | (have e := hb 0 (by omega); have := hng1 (by assumption); rw [Nat.add_zero] at e; omega) | (have e := o4 (sgnAt a + pos) (by omega) (by omega); rw [← hb pos (by omega)] at e; have e2 := utf8_lo (a := b) (pos := pos) (by omega) (by omega); simp only [e2] at *; omega)
        ·refine o_move (.lit (.int .i32 ((Utf8.decode b pos).1 : Int))) (Gd.yes rfl rfl (decide_eq_false h10)) rfl ?_
         refine o_gtr (a := ((Utf8.decode b pos).1 : Int)) (c := ((57 : Nat) : Int)) (Gd.yes rfl rfl (decide_eq_false h10)) rfl rfl ?_
         refine o_pickF (bp (((57 : Nat) : Int) < ((Utf8.decode b pos).1 : Int))) gn rfl (decide_eq_false h10) rfl ?_
         refine aops_end (hK16 _ ?_)
         refine awp_condQ (q := ((57 : Nat) : Int) < ((Utf8.decode b pos).1 : Int)) rfl (fun h11 => ?_) (fun h11 => ?_)
         ·refine awp_seq fun K18 hK18 => awp_region rfl (o_as Fv rfl (aops_end (hK18 _ ?_)))
          refine awp_ret ?_
          refine post_ret ⟨[Fv], ⟨AV.le_refl _, trivial⟩, rfl, ?_⟩
          refine bl_eq (okS_no fun h => ?_)
          obtain ⟨o1, o2, o3, o4⟩ := h
          first | omega | (have := str_nil.1 (by assumption); omega) | (have e := hb 0 (by omega); rw [Nat.add_zero] at e; omega) | (have e := hb 0 (by omega); have := hng1 (by assumption); rw [Nat.add_zero] at e; omega) | (have e := o4 (sgnAt a + pos) (by omega) (by omega); rw [← hb pos (by omega)] at e; have e2 := utf8_lo (a := b) (pos := pos) (by omega) (by omega); simp only [e2] at *; omega)
         ·refine awp_skip ?_
          have hu := utf8_dig (a := b) (pos := pos) (by assumption) (by omega)
          simp only [hu] at *
          refine ⟨_, _, ?lt, ⟨pos + 1, (by omega), (fun k hk => by by_cases e : k = pos; subst e; omega; exact hv k (by omega)), rfl, rfl⟩, ?wk⟩
          case lt => omega
          case wk => exact Wk.sub ⟨rfl, trivial⟩ ⟨(by first | rfl | exact congrArg (fun x => some (.blk (.stringIter _ x))) (by omega)), trivial⟩
       ·refine o_iterEnd gn rfl rfl h9 ?_
        refine o_extract Fv gn rfl rfl (aops_end (hK13 _ (awp_seq fun K19 hK19 => ?_)))
        refine awp_condB (b := false) rfl (fun hh => absurd (hh.symm.trans rfl) (by decide)) (fun _ => ?_)
        refine awp_exit ?_
        refine hK11 _ (awp_seq fun K20 hK20 => awp_region rfl (o_as Tv rfl (aops_end (hK20 _ ?_))))
        refine awp_ret ?_
        refine post_ret ⟨[Tv], ⟨AV.le_refl _, trivial⟩, rfl, ?_⟩
        have e0 := hb 0 (by omega)
        rw [Nat.add_zero] at e0
        refine bl_eq (okS_yes ⟨by omega, by omega, fun hh => ?_, fun i hi1 hi2 => ?_⟩)
        ·first | omega | (have := hng0 (by assumption); omega)
        ·have := hv (i - sgnAt a) (by omega)
         rw [hb _ (by omega), show sgnAt a + (i - sgnAt a) = i by omega] at this
         exact this
    ·refine o_skip rfl rfl (decide_eq_false h6) (o_skip rfl rfl (decide_eq_false h6) (o_skip rfl rfl (decide_eq_false h6) (o_skip rfl rfl (decide_eq_false h6) (o_skipU rfl rfl (o_skip rfl rfl (decide_eq_false h6) ?_)))))
     refine o_pickF Fv (Gd.yes rfl rfl (decide_eq_false h5)) rfl (decide_eq_false h6) rfl ?_
     refine o_pickF Fv gn rfl (decide_eq_false h5) rfl ?_
     refine aops_end (hK6 _ ?_)
     refine awp_condB (b := false) rfl (fun hh => absurd (hh.symm.trans rfl) (by decide)) (fun _ => ?_)
     refine awp_skip (hK5 _ (awp_seq fun K21 hK21 => awp_seq fun K22 hK22 => awp_region rfl (o_mv (Sv b) rfl ?_)))
     refine o_iterNew 201 gn f54_ rfl rfl ?_
     refine aops_end (hK22 _ ?_)
     refine awp_block ?_
     refine awp_loopR (fun κ σ => ∃ (pos : Nat), (pos ≤ b.size) ∧ (∀ k, k < pos → 48 ≤ byt b k ∧ byt b k ≤ 57) ∧ (b.size - pos) = κ ∧ σ = ⟨[(40, .ref 201 0)], [(201, .blk (.stringIter b pos))]⟩) ⟨_, _, ⟨0, (by omega), (fun k hk => by omega), rfl, rfl⟩, ?wk3⟩ ?rd3
     case wk3 =>
      exact Wk.sub ⟨rfl, trivial⟩ ⟨(by first | rfl | exact congrArg (fun x => some (.blk (.stringIter _ x))) (by omega)), trivial⟩
     rintro κ _ ⟨pos, hp, hv, rfl, rfl⟩
     refine awp_seq fun K23 hK23 => awp_region rfl ?_
     refine aops_em (pos < b.size) (fun h12 => ?_) (fun h12 => ?_)
     ·refine o_iterNext ((Utf8.decode b pos).1 : Int) (pos + (Utf8.decode b pos).2) [(201, .blk (.stringIter b (pos + (Utf8.decode b pos).2)))] gn rfl rfl h12 rfl rfl rfl ?_
      refine o_extract Tv gn rfl rfl (aops_end (hK23 _ (awp_seq fun K24 hK24 => ?_)))
      refine awp_condB (b := true) rfl (fun _ => ?_) (fun hh => absurd (hh.symm.trans rfl) (by decide))
      refine awp_skip (hK24 _ ?_)
      refine awp_block ?_
      refine awp_seq fun K25 hK25 => awp_region rfl (o_extract (.lit (.int .i32 ((Utf8.decode b pos).1 : Int))) gn rfl rfl (o_as (.lit (.int .i32 ((Utf8.decode b pos).1 : Int))) rfl (aops_end (hK25 _ (awp_seq fun K26 hK26 => awp_region rfl (o_mv (.lit (.int .i32 ((Utf8.decode b pos).1 : Int))) rfl ?_))))))
      refine o_lss (a := ((Utf8.decode b pos).1 : Int)) (c := ((48 : Nat) : Int)) gn rfl rfl ?_
      refine o_mv (bp (((Utf8.decode b pos).1 : Int) < ((48 : Nat) : Int))) rfl ?_
      refine o_splitP (q := ((Utf8.decode b pos).1 : Int) < ((48 : Nat) : Int)) 46 rfl (fun h13 => ?_) (fun h13 => ?_)
      ·refine o_skip rfl rfl (decide_eq_true h13) (o_skip rfl rfl (decide_eq_true h13) ?_)
       refine o_pickT Tv gn rfl (decide_eq_true h13) rfl ?_
       refine aops_end (hK26 _ ?_)
       refine awp_condB (b := true) rfl (fun _ => ?_) (fun hh => absurd (hh.symm.trans rfl) (by decide))
       refine awp_seq fun K27 hK27 => awp_region rfl (o_as Fv rfl (aops_end (hK27 _ ?_)))
       refine awp_ret ?_
       refine post_ret ⟨[Fv], ⟨AV.le_refl _, trivial⟩, rfl, ?_⟩
       refine bl_eq (okS_no fun h => ?_)
       obtain ⟨o1, o2, o3, o4⟩ := h
       first | omega | (have := str_nil.1 (by assumption); omega) | (have e := hb 0 (by omega); rw [Nat.add_zero] at e; omega) | (have e := hb 0 (by omega); have := hng1 (by assumption); rw [Nat.add_zero] at e; omega) | (have e := o4 (sgnAt a + pos) (by omega) (by omega); rw [← hb pos (by omega)] at e; have e2 := utf8_lo (a := b) (pos := pos) (by omega) (by omega); simp only [e2] at *; omega)
      ·refine o_move (.lit (.int .i32 ((Utf8.decode b pos).1 : Int))) (Gd.yes rfl rfl (decide_eq_false h13)) rfl ?_
       refine o_gtr (a := ((Utf8.decode b pos).1 : Int)) (c := ((57 : Nat) : Int)) (Gd.yes rfl rfl (decide_eq_false h13)) rfl rfl ?_
       refine o_pickF (bp (((57 : Nat) : Int) < ((Utf8.decode b pos).1 : Int))) gn rfl (decide_eq_false h13) rfl ?_
       refine aops_end (hK26 _ ?_)
       refine awp_condQ (q := ((57 : Nat) : Int) < ((Utf8.decode b pos).1 : Int)) rfl (fun h14 => ?_) (fun h14 => ?_)
       ·refine awp_seq fun K28 hK28 => awp_region rfl (o_as Fv rfl (aops_end (hK28 _ ?_)))
        refine awp_ret ?_
        refine post_ret ⟨[Fv], ⟨AV.le_refl _, trivial⟩, rfl, ?_⟩
        refine bl_eq (okS_no fun h => ?_)
        obtain ⟨o1, o2, o3, o4⟩ := h
        first | omega | (have := str_nil.1 (by assumption); omega) | (have e := hb 0 (by omega); rw [Nat.add_zero] at e; omega) | (have e := hb 0 (by omega); have := hng1 (by assumption); rw [Nat.add_zero] at e; omega) | (have e := o4 (sgnAt a + pos) (by omega) (by omega); rw [← hb pos (by omega)] at e; have e2 := utf8_lo (a := b) (pos := pos) (by omega) (by omega); simp only [e2] at *; omega)
       ·refine awp_skip ?_
        have hu := utf8_dig (a := b) (pos := pos) (by assumption) (by omega)
        simp only [hu] at *
        refine ⟨_, _, ?lt, ⟨pos + 1, (by omega), (fun k hk => by by_cases e : k = pos; subst e; omega; exact hv k (by omega)), rfl, rfl⟩, ?wk⟩
        case lt => omega
        case wk => exact Wk.sub ⟨rfl, trivial⟩ ⟨(by first | rfl | exact congrArg (fun x => some (.blk (.stringIter _ x))) (by omega)), trivial⟩
     ·refine o_iterEnd gn rfl rfl h12 ?_
      refine o_extract Fv gn rfl rfl (aops_end (hK23 _ (awp_seq fun K29 hK29 => ?_)))
      refine awp_condB (b := false) rfl (fun hh => absurd (hh.symm.trans rfl) (by decide)) (fun _ => ?_)
      refine awp_exit ?_
      refine hK21 _ (awp_seq fun K30 hK30 => awp_region rfl (o_as Tv rfl (aops_end (hK30 _ ?_))))
      refine awp_ret ?_
      refine post_ret ⟨[Tv], ⟨AV.le_refl _, trivial⟩, rfl, ?_⟩
      have e0 := hb 0 (by omega)
      rw [Nat.add_zero] at e0
      refine bl_eq (okS_yes ⟨by omega, by omega, fun hh => ?_, fun i hi1 hi2 => ?_⟩)
      ·first | omega | (have := hng0 (by assumption); omega)
      ·have := hv (i - sgnAt a) (by omega)
       rw [hb _ (by omega), show sgnAt a + (i - sgnAt a) = i by omega] at this
       exact this

end Go.Proofs.YtaeknciienkijaaGreatDoor

namespace Go.Proofs.YtaeknciienkijaaGreatDoor
open Go Go.Ab Go.Mth
theorem f62_ : tyField cx.P 28 0 = some (0, 3) := by kernel_rfl
theorem f63_ : callable cx.P 59 = true := by kernel_rfl
theorem f64_ : tyAgg cx.P 28 = some 3 := by kernel_rfl
theorem f65_ : callable cx.P 58 = true := by kernel_rfl
theorem f66_ : tyField cx.P 28 1 = some (1, 26) := by kernel_rfl
theorem f67_ : callable cx.P 61 = true := by kernel_rfl
theorem f68_ : tyField cx.P 28 2 = some (2, 26) := by kernel_rfl
theorem c_gRest (m : MapM) (z : Int) (hm : OkM m) (hz : (digs z.natAbs).length ≤ 1000000) : ECalls cx 58 [mapV m, intR z] (.lit (.int .i64 (z % m.mod))) := by
 refine ecalls_of_awp Tryz.func58 (c := _) rfl (Nat.le_of_ble_eq_true rfl) ?_
 show awp cx 15 _ (postF cx Tryz.f58 _) ⟨[(0, mapV m), (1, intR z)], []⟩
 have hM := hm
 obtain ⟨o1, o2, o3, o4, o5⟩ := hm
 have hr0 := Int.emod_nonneg z (b := m.mod) (by omega)
 have hr1 := Int.emod_lt_of_pos z (b := m.mod) (by omega)
 have hr := o5 (z % m.mod).toNat (by omega)
 refine awp_seq fun K0 hK0 => awp_region rfl ?_
 refine o_box 2 [Iv m.mod, Lv m.mul, Lv m.add] gn rfl rfl ?_
 refine o_box 3 [bp (z < 0), .sl 1 (ns .i64 (digs z.natAbs))] gn rfl rfl ?_
 refine o_as (Nv 0) rfl (aops_end (hK0 _ (awp_seq fun K1 hK1 => awp_region rfl ?_)))
 refine o_loadA [bp (z < 0), .sl 1 (ns .i64 (digs z.natAbs))] gn f14_ rfl rfl rfl rfl rfl ?_
 refine o_fieldRef 0 gn f62_ rfl rfl ?_
 refine o_loadS (Iv m.mod) gn f11_ rfl rfl rfl ?_
 refine n_as (v' := (Nv m.mod.toNat)) (nm_int (by omega)) ?_
 refine o_ct (c_rQR z m.mod.toNat (by omega) (by omega) (by first | omega | assumption | (simp only [Int.natAbs_neg]; omega))) gn f63_ rfl ?_
 refine o_mv (.tup [(intR (z / ((m.mod.toNat : Nat) : Int))), (Iv (z % ((m.mod.toNat : Nat) : Int)))]) rfl (o_extract (intR (z / ((m.mod.toNat : Nat) : Int))) gn rfl rfl (o_extract (Iv (z % ((m.mod.toNat : Nat) : Int))) gn rfl rfl ?_))
 refine o_alloc 4 [Fv, Zv] gn f9_ rfl rfl rfl ?_
 refine o_store [(4, (oZ 37 .i64 (z / ((m.mod.toNat : Nat) : Int)))), (3, oZ 37 .i64 z), (2, oM 28 m)] gn f13_ rfl rfl rfl rfl rfl rfl ?_
 refine o_as (Iv (z % ((m.mod.toNat : Nat) : Int))) rfl (aops_end (hK1 _ (awp_seq fun K2 hK2 => awp_region rfl (o_mv (Iv (z % ((m.mod.toNat : Nat) : Int))) rfl (o_as (Iv (z % ((m.mod.toNat : Nat) : Int))) rfl (aops_end (hK2 _ ?_)))))))
 refine awp_ret ?_
 refine post_ret ⟨[(Iv (z % ((m.mod.toNat : Nat) : Int)))], ⟨AV.le_refl _, trivial⟩, rfl, ?_⟩
 exact int_eq (by rw [Int.toNat_of_nonneg (by omega)])

theorem c_gStep (m : MapM) (z : Int) (hm : OkM m) (hz : (digs z.natAbs).length ≤ 1000000) : ECalls cx 33 [mapV m, intR z] (intR (stepZ m z)) := by
 refine ecalls_of_awp Tryz.func33 (c := _) rfl (Nat.le_of_ble_eq_true rfl) ?_
 show awp cx 33 _ (postF cx Tryz.f33 _) ⟨[(0, mapV m), (1, intR z)], []⟩
 have hM := hm
 obtain ⟨o1, o2, o3, o4, o5⟩ := hm
 have hr0 := Int.emod_nonneg z (b := m.mod) (by omega)
 have hr1 := Int.emod_lt_of_pos z (b := m.mod) (by omega)
 have hr := o5 (z % m.mod).toNat (by omega)
 have hL1 := small_len (z := ((m.mul).getD ((z % m.mod).toNat) 0)) (by omega)
 have hL2 := small_len (z := ((m.add).getD ((z % m.mod).toNat) 0)) (by omega)
 have hL3 := len_mulZ ((m.mul).getD ((z % m.mod).toNat) 0) z
 have hL4 := len_addZ (((m.mul).getD ((z % m.mod).toNat) 0) * z) ((m.add).getD ((z % m.mod).toNat) 0)
 refine awp_seq fun K0 hK0 => awp_region rfl ?_
 refine o_box 2 [Iv m.mod, Lv m.mul, Lv m.add] gn rfl rfl ?_
 refine o_box 3 [bp (z < 0), .sl 1 (ns .i64 (digs z.natAbs))] gn rfl rfl ?_
 refine o_alloc 4 [Fv, Zv] gn f9_ rfl rfl rfl ?_
 refine aops_end (hK0 _ (awp_seq fun K1 hK1 => awp_region rfl ?_))
 refine o_loadA [Iv m.mod, Lv m.mul, Lv m.add] gn f64_ rfl rfl rfl rfl rfl ?_
 refine o_loadA [bp (z < 0), .sl 1 (ns .i64 (digs z.natAbs))] gn f14_ rfl rfl rfl rfl rfl ?_
 refine o_ct (c_gRest m z (by first | assumption | exact okM_iff.1 (by assumption)) (by first | omega | assumption | (simp only [Int.natAbs_neg]; omega))) gn f65_ rfl ?_
 refine o_as (Iv (z % m.mod)) rfl (aops_end (hK1 _ (awp_seq fun K2 hK2 => awp_regionD rfl ?_)))
 refine o_fieldRef 1 gn f66_ rfl rfl ?_
 refine o_loadS (Lv m.mul) gn f1_ rfl rfl rfl ?_
 refine o_mv (Iv (z % m.mod)) rfl ?_
 refine n_as (v' := (Nv ((z % m.mod).toNat))) (nm_int (by omega)) ?_
 refine i_index m.mul ((z % m.mod).toNat) gn f10_ rfl rfl (by omega) ?_
 refine i_loadI m.mul ((z % m.mod).toNat) gn f11_ rfl (by omega) ?_
 refine o_ct (c_rOf ((m.mul).getD ((z % m.mod).toNat) 0) (by first | decide | omega) (by first | decide | omega)) gn f44_ rfl ?_
 refine o_loadA [bp (z < 0), .sl 1 (ns .i64 (digs z.natAbs))] gn f14_ rfl rfl rfl rfl rfl ?_
 refine o_ct (c_rMul ((m.mul).getD ((z % m.mod).toNat) 0) z (by first | omega | assumption | (simp only [Int.natAbs_neg]; omega)) (by first | omega | assumption | (simp only [Int.natAbs_neg]; omega))) gn f67_ rfl ?_
 refine o_fieldRef 2 gn f68_ rfl rfl ?_
 refine o_loadS (Lv m.add) gn f1_ rfl rfl rfl ?_
 refine o_mv (Iv (z % m.mod)) rfl ?_
 refine n_as (v' := (Nv ((z % m.mod).toNat))) (nm_int (by omega)) ?_
 refine i_index m.add ((z % m.mod).toNat) gn f10_ rfl rfl (by omega) ?_
 refine i_loadI m.add ((z % m.mod).toNat) gn f11_ rfl (by omega) ?_
 refine o_ct (c_rOf ((m.add).getD ((z % m.mod).toNat) 0) (by first | decide | omega) (by first | decide | omega)) gn f44_ rfl ?_
 refine o_ct (c_rAdd ((m.mul).getD ((z % m.mod).toNat) 0 * z) ((m.add).getD ((z % m.mod).toNat) 0) (by first | omega | assumption | (simp only [Int.natAbs_neg]; omega)) (by first | omega | assumption | (simp only [Int.natAbs_neg]; omega))) gn f45_ rfl ?_
 refine o_fieldRef 0 gn f62_ rfl rfl ?_
 refine o_loadS (Iv m.mod) gn f11_ rfl rfl rfl ?_
 refine n_as (v' := (Nv m.mod.toNat)) (nm_int (by omega)) ?_
 refine o_ct (c_rQR (((m.mul).getD ((z % m.mod).toNat) 0 * z) + (m.add).getD ((z % m.mod).toNat) 0) m.mod.toNat (by omega) (by omega) (by first | omega | assumption | (simp only [Int.natAbs_neg]; omega))) gn f63_ rfl ?_
 refine o_mv (.tup [(intR ((((m.mul).getD ((z % m.mod).toNat) 0 * z) + (m.add).getD ((z % m.mod).toNat) 0) / ((m.mod.toNat : Nat) : Int))), (Iv ((((m.mul).getD ((z % m.mod).toNat) 0 * z) + (m.add).getD ((z % m.mod).toNat) 0) % ((m.mod.toNat : Nat) : Int)))]) rfl (o_extract (intR ((((m.mul).getD ((z % m.mod).toNat) 0 * z) + (m.add).getD ((z % m.mod).toNat) 0) / ((m.mod.toNat : Nat) : Int))) gn rfl rfl (o_extract (Iv ((((m.mul).getD ((z % m.mod).toNat) 0 * z) + (m.add).getD ((z % m.mod).toNat) 0) % ((m.mod.toNat : Nat) : Int))) gn rfl rfl ?_))
 refine o_alloc 5 [Fv, Zv] gn f9_ rfl rfl rfl ?_
 refine o_store [(5, (oZ 37 .i64 ((((m.mul).getD ((z % m.mod).toNat) 0 * z) + (m.add).getD ((z % m.mod).toNat) 0) / ((m.mod.toNat : Nat) : Int)))), (4, .var 37 [Fv, Zv]), (3, oZ 37 .i64 z), (2, oM 28 m)] gn f13_ rfl rfl rfl rfl rfl rfl ?_
 refine o_as (Iv ((((m.mul).getD ((z % m.mod).toNat) 0 * z) + (m.add).getD ((z % m.mod).toNat) 0) % ((m.mod.toNat : Nat) : Int))) rfl ?_
 refine aops_end ⟨by kernel_rfl, ?_⟩
 refine hK2 _ (awp_seq fun K3 hK3 => awp_region rfl ?_)
 refine o_loadA [(bp (((((m.mul).getD ((z % m.mod).toNat) 0 * z) + (m.add).getD ((z % m.mod).toNat) 0) / ((m.mod.toNat : Nat) : Int)) < 0)), (.sl 1 (ns .i64 (digs ((((m.mul).getD ((z % m.mod).toNat) 0 * z) + (m.add).getD ((z % m.mod).toNat) 0) / ((m.mod.toNat : Nat) : Int)).natAbs)))] gn f14_ rfl rfl rfl rfl rfl ?_
 refine o_store [(5, (oZ 37 .i64 ((((m.mul).getD ((z % m.mod).toNat) 0 * z) + (m.add).getD ((z % m.mod).toNat) 0) / ((m.mod.toNat : Nat) : Int)))), (4, (oZ 37 .i64 ((((m.mul).getD ((z % m.mod).toNat) 0 * z) + (m.add).getD ((z % m.mod).toNat) 0) / ((m.mod.toNat : Nat) : Int)))), (3, oZ 37 .i64 z), (2, oM 28 m)] gn f13_ rfl rfl rfl rfl rfl rfl ?_
 refine aops_end (hK3 _ ?_)
 refine awp_ret ?_
 refine post_ret ⟨[(intR ((((m.mul).getD ((z % m.mod).toNat) 0 * z) + (m.add).getD ((z % m.mod).toNat) 0) / ((m.mod.toNat : Nat) : Int)))], ⟨⟨4, (oZ 37 .i64 ((((m.mul).getD ((z % m.mod).toNat) 0 * z) + (m.add).getD ((z % m.mod).toNat) 0) / ((m.mod.toNat : Nat) : Int))), rfl, rfl, rfl, Or.inl ⟨f14_, AV.le_refl _⟩⟩, trivial⟩, rfl, ?_⟩
 refine congrArg (intK .i64) ?_
 unfold stepZ
 rw [Int.toNat_of_nonneg (a := m.mod) (by omega)]

end Go.Proofs.YtaeknciienkijaaGreatDoor

