/- What the proof of a row of this seat leans on (part 3 of 6): a library of abstract values, walks of functions, and plain laws. -/
import Derived.Test.YtpamhblonmpniaaGreatDoorPkTopMachineb
set_option linter.unusedVariables false
set_option linter.unusedSimpArgs false
namespace Go.Proofs.YtpamhblonmpniaaGreatDoor
open Go Go.Ab Go.Mth
theorem Wa_tF41_1 : tyField cx.P 41 1 = some (1, 25) := by kernel_rfl
theorem Wa_tS25 : tySc cx.P 25 = true := by kernel_rfl
theorem Wa_tU25 : cx.P.underlying 25 = some (.slice 3) := by kernel_rfl
theorem Wa_tF41_0 : tyField cx.P 41 0 = some (0, 4) := by kernel_rfl
theorem Wa_tS4 : tySc cx.P 4 = true := by kernel_rfl
theorem Wa_tF89_1 : tyField cx.P 89 1 = some (1, 87) := by kernel_rfl
theorem Wa_tS87 : tySc cx.P 87 = true := by kernel_rfl
theorem Wa_tU87 : cx.P.underlying 87 = some (.slice 111) := by kernel_rfl
theorem Wa_tF89_0 : tyField cx.P 89 0 = some (0, 4) := by kernel_rfl
theorem Wa_tO41 : tyZero cx.P 41 = some [(Go.Value.bool false), (Go.Value.slice none 0 0)] := by kernel_rfl
theorem Wa_tE25 : tyElem cx.P 25 = some (3, 1, 8) := by kernel_rfl
theorem Wa_tS3 : tySc cx.P 3 = true := by kernel_rfl
theorem Wa_tP41 : tyPlaces cx.P 41 = some (fun i => (#[(0, 1), (1, 1)] : Array (Nat × Nat))[i]?) := by kernel_rfl
theorem Wa_tZ41 : tySize cx.P 41 = some 2 := by kernel_rfl
theorem Wa_tA41 : tyAgg cx.P 41 = some 2 := by kernel_rfl
theorem Wa_tO89 : tyZero cx.P 89 = some [(Go.Value.bool false), (Go.Value.slice none 0 0)] := by kernel_rfl
theorem Wa_tE87 : tyElem cx.P 87 = some (111, 1, 4) := by kernel_rfl
theorem Wa_tS111 : tySc cx.P 111 = true := by kernel_rfl
theorem Wa_tP89 : tyPlaces cx.P 89 = some (fun i => (#[(0, 1), (1, 1)] : Array (Nat × Nat))[i]?) := by kernel_rfl
theorem Wa_tZ89 : tySize cx.P 89 = some 2 := by kernel_rfl
theorem Wa_tA89 : tyAgg cx.P 89 = some 2 := by kernel_rfl
theorem Wa_tC62 : callable cx.P 62 = true := by kernel_rfl
theorem Wa_tC84 : callable cx.P 84 = true := by kernel_rfl
theorem Wa_tC41 : callable cx.P 41 = true := by kernel_rfl
theorem Wa_tO3 : tyZero cx.P 3 = some [(Go.Value.int IntKind.i64 0)] := by kernel_rfl
theorem Wa_tO111 : tyZero cx.P 111 = some [(Go.Value.int IntKind.u32 0)] := by kernel_rfl
theorem Wa_tI111 : tyInt cx.P 111 = some .u32 := by kernel_rfl
theorem Wa_tI2 : tyInt cx.P 2 = some .i64 := by kernel_rfl
theorem Wa_tB4 : cx.P.underlying 4 = some .bool := by kernel_rfl
theorem Wa_tC38 : callable cx.P 38 = true := by kernel_rfl
theorem Wa_tC37 : callable cx.P 37 = true := by kernel_rfl
theorem Wa_tC39 : callable cx.P 39 = true := by kernel_rfl
theorem Wa_tC40 : callable cx.P 40 = true := by kernel_rfl
theorem Wa_tC88 : callable cx.P 88 = true := by kernel_rfl
theorem Wa_tC69 : callable cx.P 69 = true := by kernel_rfl
theorem Wa_tC86 : callable cx.P 86 = true := by kernel_rfl
theorem Wa_tC87 : callable cx.P 87 = true := by kernel_rfl
theorem Wa_tC75 : callable cx.P 75 = true := by kernel_rfl
theorem c_rSign (z : Int) : ECalls cx 18 [(intR (z))] (.lit (.int .i64 (sgn z))) := by
  refine ecalls_of_awp Tryz.func18 (c := _) rfl (Nat.le_of_ble_eq_true rfl) ?_
  show awp cx 11 _ (postF cx Tryz.f18 _) ⟨[(0, (intR (z)))], []⟩
  refine awp_seq fun K0 hK0 => ?_
  refine awp_region rfl ?_
  refine o_box 2 [(bp (z < 0)), (AV.sl 1 (ns .i64 (digs (z).natAbs)))] Gd.none rfl rfl ?_
  refine o_as (nm .i64 (0)) rfl ?_
  refine aops_end ?_
  refine hK0 _ ?_
  refine awp_seq fun K1 hK1 => ?_
  refine awp_block ?_
  refine awp_seq fun K2 hK2 => ?_
  refine awp_region rfl ?_
  refine o_fieldRef 1 Gd.none Wa_tF41_1 rfl rfl ?_
  refine o_loadS (AV.sl 1 (ns .i64 (digs (z).natAbs))) Gd.none Wa_tS25 rfl rfl rfl ?_
  refine n_len (digs (z).natAbs) Gd.none Wa_tU25 rfl ?_
  refine n_eql ((digs (z).natAbs).length) (0) Gd.none rfl rfl ?_
  refine o_as (bp (((digs (z).natAbs).length) = (0))) rfl ?_
  refine aops_end ?_
  refine hK2 _ ?_
  refine awp_condQ (q := ((digs (z).natAbs).length) = (0)) rfl (fun h1 => ?_) (fun h1 => ?_)
  · refine awp_seq fun K3 hK3 => ?_
    refine awp_region rfl ?_
    refine o_as (nm .i64 (0)) rfl ?_
    refine aops_end ?_
    refine hK3 _ ?_
    refine awp_ret ?_
    refine post_ret ⟨[(nm .i64 (0))], And.intro (AV.le_refl _) (trivial), rfl, ?_⟩
    have e := digs_len_zero (n := z.natAbs)
    refine int_eq (k := .i64) ?_
    unfold sgn
    split <;> (try split) <;> omega
  · refine awp_seq fun K4 hK4 => ?_
    refine awp_region rfl ?_
    refine o_fieldRef 0 Gd.none Wa_tF41_0 rfl rfl ?_
    refine o_loadS (bp (z < 0)) Gd.none Wa_tS4 rfl rfl rfl ?_
    refine o_as (bp (z < 0)) rfl ?_
    refine aops_end ?_
    refine hK4 _ ?_
    refine awp_condQ (q := z < 0) rfl (fun h2 => ?_) (fun h2 => ?_)
    · refine awp_seq fun K5 hK5 => ?_
      refine awp_region rfl ?_
      refine o_as (AV.lit (.int .i64 ((-1)))) rfl ?_
      refine aops_end ?_
      refine hK5 _ ?_
      refine awp_ret ?_
      refine post_ret ⟨[(AV.lit (.int .i64 ((-1))))], And.intro (AV.le_refl _) (trivial), rfl, ?_⟩
      have e := digs_len_zero (n := z.natAbs)
      refine int_eq (k := .i64) ?_
      unfold sgn
      split <;> (try split) <;> omega
    · refine awp_skip ?_
      refine hK1 _ ?_
      refine awp_seq fun K6 hK6 => ?_
      refine awp_region rfl ?_
      refine o_as (nm .i64 (1)) rfl ?_
      refine aops_end ?_
      refine hK6 _ ?_
      refine awp_ret ?_
      refine post_ret ⟨[(nm .i64 (1))], And.intro (AV.le_refl _) (trivial), rfl, ?_⟩
      have e := digs_len_zero (n := z.natAbs)
      refine int_eq (k := .i64) ?_
      unfold sgn
      split <;> (try split) <;> omega

theorem c_wSign (z : Int) : ECalls cx 62 [(intW (z))] (.lit (.int .i64 (sgn z))) := by
  refine ecalls_of_awp Tryz.func62 (c := _) rfl (Nat.le_of_ble_eq_true rfl) ?_
  show awp cx 11 _ (postF cx Tryz.f62 _) ⟨[(0, (intW (z)))], []⟩
  refine awp_seq fun K0 hK0 => ?_
  refine awp_region rfl ?_
  refine o_box 2 [(bp (z < 0)), (AV.sl 1 (ns .u32 (digs (z).natAbs)))] Gd.none rfl rfl ?_
  refine o_as (nm .i64 (0)) rfl ?_
  refine aops_end ?_
  refine hK0 _ ?_
  refine awp_seq fun K1 hK1 => ?_
  refine awp_block ?_
  refine awp_seq fun K2 hK2 => ?_
  refine awp_region rfl ?_
  refine o_fieldRef 1 Gd.none Wa_tF89_1 rfl rfl ?_
  refine o_loadS (AV.sl 1 (ns .u32 (digs (z).natAbs))) Gd.none Wa_tS87 rfl rfl rfl ?_
  refine n_len (digs (z).natAbs) Gd.none Wa_tU87 rfl ?_
  refine n_eql ((digs (z).natAbs).length) (0) Gd.none rfl rfl ?_
  refine o_as (bp (((digs (z).natAbs).length) = (0))) rfl ?_
  refine aops_end ?_
  refine hK2 _ ?_
  refine awp_condQ (q := ((digs (z).natAbs).length) = (0)) rfl (fun h1 => ?_) (fun h1 => ?_)
  · refine awp_seq fun K3 hK3 => ?_
    refine awp_region rfl ?_
    refine o_as (nm .i64 (0)) rfl ?_
    refine aops_end ?_
    refine hK3 _ ?_
    refine awp_ret ?_
    refine post_ret ⟨[(nm .i64 (0))], And.intro (AV.le_refl _) (trivial), rfl, ?_⟩
    have e := digs_len_zero (n := z.natAbs)
    refine int_eq (k := .i64) ?_
    unfold sgn
    split <;> (try split) <;> omega
  · refine awp_seq fun K4 hK4 => ?_
    refine awp_region rfl ?_
    refine o_fieldRef 0 Gd.none Wa_tF89_0 rfl rfl ?_
    refine o_loadS (bp (z < 0)) Gd.none Wa_tS4 rfl rfl rfl ?_
    refine o_as (bp (z < 0)) rfl ?_
    refine aops_end ?_
    refine hK4 _ ?_
    refine awp_condQ (q := z < 0) rfl (fun h2 => ?_) (fun h2 => ?_)
    · refine awp_seq fun K5 hK5 => ?_
      refine awp_region rfl ?_
      refine o_as (AV.lit (.int .i64 ((-1)))) rfl ?_
      refine aops_end ?_
      refine hK5 _ ?_
      refine awp_ret ?_
      refine post_ret ⟨[(AV.lit (.int .i64 ((-1))))], And.intro (AV.le_refl _) (trivial), rfl, ?_⟩
      have e := digs_len_zero (n := z.natAbs)
      refine int_eq (k := .i64) ?_
      unfold sgn
      split <;> (try split) <;> omega
    · refine awp_skip ?_
      refine hK1 _ ?_
      refine awp_seq fun K6 hK6 => ?_
      refine awp_region rfl ?_
      refine o_as (nm .i64 (1)) rfl ?_
      refine aops_end ?_
      refine hK6 _ ?_
      refine awp_ret ?_
      refine post_ret ⟨[(nm .i64 (1))], And.intro (AV.le_refl _) (trivial), rfl, ?_⟩
      have e := digs_len_zero (n := z.natAbs)
      refine int_eq (k := .i64) ?_
      unfold sgn
      split <;> (try split) <;> omega

theorem c_rTrim (neg : Bool) (xs : List Nat) (hx : Dig xs) : ECalls cx 37 [(AV.lit (.bool (neg))), (AV.sl 1 (ns .i64 (xs)))] (intR (sg neg (val xs))) := by
  refine ecalls_of_awp Tryz.func37 (c := _) rfl (Nat.le_of_ble_eq_true rfl) ?_
  show awp cx 29 _ (postF cx Tryz.f37 _) ⟨[(0, (AV.lit (.bool (neg)))), (1, (AV.sl 1 (ns .i64 (xs))))], []⟩
  refine awp_bound (i := 1) rfl fun hb => ?_
  replace hb := n_bnd hb
  refine awp_seq fun K0 hK0 => ?_
  refine awp_region rfl ?_
  refine o_alloc 2 [(AV.lit (.bool false)), (AV.lit (.slice none 0 0))] Gd.none Wa_tO41 rfl rfl rfl ?_
  refine aops_end ?_
  refine hK0 _ ?_
  refine awp_seq fun K1 hK1 => ?_
  refine awp_region rfl ?_
  refine o_mv (AV.sl 1 (ns .i64 (xs))) rfl ?_
  refine n_len (xs) Gd.none Wa_tU25 rfl ?_
  refine o_as (nm .i64 ((xs).length)) rfl ?_
  refine aops_end ?_
  refine hK1 _ ?_
  refine awp_seq fun K2 hK2 => ?_
  refine awp_block ?_
  refine awp_loopR (fun κ σ => ∃ (n : Nat), (n ≤ xs.length) ∧ (val (xs.take n) = val xs) ∧ (n) = κ ∧ σ = ⟨[(0, (AV.lit (.bool (neg)))), (1, (AV.sl 1 (ns .i64 (xs)))), (4, (AV.ref 2 (0))), (5, (nm .i64 (n)))], [(2, (AO.var 41 [(AV.lit (.bool false)), (AV.lit (.slice none 0 0))]))]⟩) ⟨_, _, ⟨xs.length, (Nat.le_refl _), (by rw [List.take_length]), rfl, rfl⟩, ?wk0⟩ ?rd0
  case wk0 =>
    exact Wk.sub (And.intro rfl (And.intro rfl (And.intro rfl (And.intro (by first | rfl | exact congrArg (nm _) (by omega) | exact nm_int (by omega) | exact nm_int (by simp [IntKind.wrap, IntKind.bits, IntKind.signed]; omega)) (trivial))))) (And.intro rfl (trivial))
  rintro κ _ ⟨n, hn, hv, rfl, rfl⟩
  refine awp_seq fun K3 hK3 => ?_
  refine awp_seq fun K4 hK4 => ?_
  refine awp_region rfl ?_
  refine o_mv (nm .i64 (n)) rfl ?_
  refine n_gtr (n) (0) Gd.none rfl rfl ?_
  refine o_mv (bp ((0) < (n))) rfl ?_
  refine o_splitP (q := (0) < (n)) 10 rfl (fun h1 => ?_) (fun h1 => ?_)
  · refine o_move (AV.sl 1 (ns .i64 (xs))) (Gd.yes rfl rfl (decide_eq_true h1)) rfl ?_
    refine o_move (nm .i64 (n)) (Gd.yes rfl rfl (decide_eq_true h1)) rfl ?_
    refine n_sub (n) (1) (Gd.yes rfl rfl (decide_eq_true h1)) rfl rfl (by omega) (by simp only [topOf]; omega) ?_
    refine n_index (xs) ((n) - (1)) (Gd.yes rfl rfl (decide_eq_true h1)) Wa_tE25 rfl rfl (by omega) ?_
    refine n_loadI (xs) ((n) - (1)) (Gd.yes rfl rfl (decide_eq_true h1)) Wa_tS3 rfl (by omega) ?_
    refine n_eql ((xs).getD ((n) - (1)) 0) (0) (Gd.yes rfl rfl (decide_eq_true h1)) rfl rfl ?_
    refine o_pickT (bp (((xs).getD ((n) - (1)) 0) = (0))) Gd.none rfl (decide_eq_true h1) rfl ?_
    refine aops_end ?_
    refine hK4 _ ?_
    refine awp_condQ (q := ((xs).getD ((n) - (1)) 0) = (0)) rfl (fun h2 => ?_) (fun h2 => ?_)
    · refine awp_skip ?_
      refine hK3 _ ?_
      refine awp_block ?_
      refine awp_region rfl ?_
      refine o_mv (nm .i64 (n)) rfl ?_
      refine n_sub (n) (1) Gd.none rfl rfl (by omega) (by simp only [topOf]; omega) ?_
      refine o_as (nm .i64 ((n) - (1))) rfl ?_
      refine aops_end ?_
      refine ⟨_, _, ?lt, ⟨n - 1, (by omega), (by rw [← take_getD_zero (by assumption) hn (by assumption)]; exact hv), rfl, rfl⟩, ?wk⟩
      case lt => omega
      case wk => exact Wk.sub (And.intro rfl (And.intro rfl (And.intro rfl (And.intro (by first | rfl | exact congrArg (nm _) (by omega) | exact nm_int (by omega) | exact nm_int (by simp [IntKind.wrap, IntKind.bits, IntKind.signed]; omega)) (trivial))))) (And.intro rfl (trivial))
    · refine awp_exit ?_
      refine hK2 _ ?_
      refine awp_seq fun K5 hK5 => ?_
      refine awp_region rfl ?_
      refine o_mv (AV.lit (.bool (neg))) rfl ?_
      refine o_mv (AV.lit (.bool (neg))) rfl ?_
      refine o_split (b := neg) 21 rfl (fun h3 => ?_) (fun h3 => ?_)
      · refine o_move (nm .i64 (n)) (Gd.yes rfl rfl h3) rfl ?_
        refine n_gtr (n) (0) (Gd.yes rfl rfl h3) rfl rfl ?_
        refine o_pickT (bp ((0) < (n))) Gd.none rfl h3 rfl ?_
        refine o_mv (AV.sl 1 (ns .i64 (xs))) rfl ?_
        refine o_mv (nm .i64 (n)) rfl ?_
        refine n_slice (xs) (0) (n) Gd.none Wa_tE25 rfl rfl (hi_nm rfl) trivial (by omega) (by omega) ?_
        refine o_build [(bp ((0) < (n))), (AV.sl 1 (ns .i64 (((xs).drop (0)).take (n - 0))))] [(0, [(bp ((0) < (n)))]), (1, [(AV.sl 1 (ns .i64 (((xs).drop (0)).take (n - 0))))])] Gd.none Wa_tP41 Wa_tO41 rfl rfl rfl ?_
        refine o_store [(2, (AO.var 41 [(bp ((0) < (n))), (AV.sl 1 (ns .i64 (((xs).drop (0)).take (n - 0))))]))] Gd.none Wa_tZ41 rfl rfl rfl rfl rfl rfl ?_
        refine aops_end ?_
        refine hK5 _ ?_
        refine awp_ret ?_
        refine post_ret ⟨[(AV.agg [(bp ((0) < (n))), (AV.sl 1 (ns .i64 (((xs).drop (0)).take (n - 0))))])], And.intro ⟨2, (AO.var 41 [(bp ((0) < (n))), (AV.sl 1 (ns .i64 (((xs).drop (0)).take (n - 0))))]), rfl, rfl, rfl, Or.inl ⟨Wa_tA41, AV.le_refl _⟩⟩ (trivial), rfl, ?_⟩
        subst h3
        exact (trim_fin (k := .i64) (neg := true) hx hn hv (by first | (left; omega) | (right; assumption))).symm
      · refine o_skip rfl rfl h3 ?_
        refine o_skip rfl rfl h3 ?_
        refine o_pickF (AV.lit (.bool false)) Gd.none rfl h3 rfl ?_
        refine o_mv (AV.sl 1 (ns .i64 (xs))) rfl ?_
        refine o_mv (nm .i64 (n)) rfl ?_
        refine n_slice (xs) (0) (n) Gd.none Wa_tE25 rfl rfl (hi_nm rfl) trivial (by omega) (by omega) ?_
        refine o_build [(AV.lit (.bool false)), (AV.sl 1 (ns .i64 (((xs).drop (0)).take (n - 0))))] [(0, [(AV.lit (.bool false))]), (1, [(AV.sl 1 (ns .i64 (((xs).drop (0)).take (n - 0))))])] Gd.none Wa_tP41 Wa_tO41 rfl rfl rfl ?_
        refine o_store [(2, (AO.var 41 [(AV.lit (.bool false)), (AV.sl 1 (ns .i64 (((xs).drop (0)).take (n - 0))))]))] Gd.none Wa_tZ41 rfl rfl rfl rfl rfl rfl ?_
        refine aops_end ?_
        refine hK5 _ ?_
        refine awp_ret ?_
        refine post_ret ⟨[(AV.agg [(AV.lit (.bool false)), (AV.sl 1 (ns .i64 (((xs).drop (0)).take (n - 0))))])], And.intro ⟨2, (AO.var 41 [(AV.lit (.bool false)), (AV.sl 1 (ns .i64 (((xs).drop (0)).take (n - 0))))]), rfl, rfl, rfl, Or.inl ⟨Wa_tA41, AV.le_refl _⟩⟩ (trivial), rfl, ?_⟩
        subst h3
        exact (trim_fin (k := .i64) (neg := false) hx hn hv (by first | (left; omega) | (right; assumption))).symm
  · refine o_skip rfl rfl (decide_eq_false h1) ?_
    refine o_skip rfl rfl (decide_eq_false h1) ?_
    refine o_skip rfl rfl (decide_eq_false h1) ?_
    refine o_skip rfl rfl (decide_eq_false h1) ?_
    refine o_skip rfl rfl (decide_eq_false h1) ?_
    refine o_skip rfl rfl (decide_eq_false h1) ?_
    refine o_pickF (AV.lit (.bool false)) Gd.none rfl (decide_eq_false h1) rfl ?_
    refine aops_end ?_
    refine hK4 _ ?_
    refine awp_condB (b := false) rfl (fun hh => absurd (hh.symm.trans rfl) (by decide)) (fun _ => ?_)
    refine awp_exit ?_
    refine hK2 _ ?_
    refine awp_seq fun K6 hK6 => ?_
    refine awp_region rfl ?_
    refine o_mv (AV.lit (.bool (neg))) rfl ?_
    refine o_mv (AV.lit (.bool (neg))) rfl ?_
    refine o_split (b := neg) 21 rfl (fun h4 => ?_) (fun h4 => ?_)
    · refine o_move (nm .i64 (n)) (Gd.yes rfl rfl h4) rfl ?_
      refine n_gtr (n) (0) (Gd.yes rfl rfl h4) rfl rfl ?_
      refine o_pickT (bp ((0) < (n))) Gd.none rfl h4 rfl ?_
      refine o_mv (AV.sl 1 (ns .i64 (xs))) rfl ?_
      refine o_mv (nm .i64 (n)) rfl ?_
      refine n_slice (xs) (0) (n) Gd.none Wa_tE25 rfl rfl (hi_nm rfl) trivial (by omega) (by omega) ?_
      refine o_build [(bp ((0) < (n))), (AV.sl 1 (ns .i64 (((xs).drop (0)).take (n - 0))))] [(0, [(bp ((0) < (n)))]), (1, [(AV.sl 1 (ns .i64 (((xs).drop (0)).take (n - 0))))])] Gd.none Wa_tP41 Wa_tO41 rfl rfl rfl ?_
      refine o_store [(2, (AO.var 41 [(bp ((0) < (n))), (AV.sl 1 (ns .i64 (((xs).drop (0)).take (n - 0))))]))] Gd.none Wa_tZ41 rfl rfl rfl rfl rfl rfl ?_
      refine aops_end ?_
      refine hK6 _ ?_
      refine awp_ret ?_
      refine post_ret ⟨[(AV.agg [(bp ((0) < (n))), (AV.sl 1 (ns .i64 (((xs).drop (0)).take (n - 0))))])], And.intro ⟨2, (AO.var 41 [(bp ((0) < (n))), (AV.sl 1 (ns .i64 (((xs).drop (0)).take (n - 0))))]), rfl, rfl, rfl, Or.inl ⟨Wa_tA41, AV.le_refl _⟩⟩ (trivial), rfl, ?_⟩
      subst h4
      exact (trim_fin (k := .i64) (neg := true) hx hn hv (by first | (left; omega) | (right; assumption))).symm
    · refine o_skip rfl rfl h4 ?_
      refine o_skip rfl rfl h4 ?_
      refine o_pickF (AV.lit (.bool false)) Gd.none rfl h4 rfl ?_
      refine o_mv (AV.sl 1 (ns .i64 (xs))) rfl ?_
      refine o_mv (nm .i64 (n)) rfl ?_
      refine n_slice (xs) (0) (n) Gd.none Wa_tE25 rfl rfl (hi_nm rfl) trivial (by omega) (by omega) ?_
      refine o_build [(AV.lit (.bool false)), (AV.sl 1 (ns .i64 (((xs).drop (0)).take (n - 0))))] [(0, [(AV.lit (.bool false))]), (1, [(AV.sl 1 (ns .i64 (((xs).drop (0)).take (n - 0))))])] Gd.none Wa_tP41 Wa_tO41 rfl rfl rfl ?_
      refine o_store [(2, (AO.var 41 [(AV.lit (.bool false)), (AV.sl 1 (ns .i64 (((xs).drop (0)).take (n - 0))))]))] Gd.none Wa_tZ41 rfl rfl rfl rfl rfl rfl ?_
      refine aops_end ?_
      refine hK6 _ ?_
      refine awp_ret ?_
      refine post_ret ⟨[(AV.agg [(AV.lit (.bool false)), (AV.sl 1 (ns .i64 (((xs).drop (0)).take (n - 0))))])], And.intro ⟨2, (AO.var 41 [(AV.lit (.bool false)), (AV.sl 1 (ns .i64 (((xs).drop (0)).take (n - 0))))]), rfl, rfl, rfl, Or.inl ⟨Wa_tA41, AV.le_refl _⟩⟩ (trivial), rfl, ?_⟩
      subst h4
      exact (trim_fin (k := .i64) (neg := false) hx hn hv (by first | (left; omega) | (right; assumption))).symm

theorem c_wTrim (neg : Bool) (xs : List Nat) (hx : Dig xs) : ECalls cx 69 [(AV.lit (.bool (neg))), (AV.sl 1 (ns .u32 (xs)))] (intW (sg neg (val xs))) := by
  refine ecalls_of_awp Tryz.func69 (c := _) rfl (Nat.le_of_ble_eq_true rfl) ?_
  show awp cx 30 _ (postF cx Tryz.f69 _) ⟨[(0, (AV.lit (.bool (neg)))), (1, (AV.sl 1 (ns .u32 (xs))))], []⟩
  refine awp_bound (i := 1) rfl fun hb => ?_
  replace hb := n_bnd hb
  refine awp_seq fun K0 hK0 => ?_
  refine awp_region rfl ?_
  refine o_alloc 2 [(AV.lit (.bool false)), (AV.lit (.slice none 0 0))] Gd.none Wa_tO89 rfl rfl rfl ?_
  refine aops_end ?_
  refine hK0 _ ?_
  refine awp_seq fun K1 hK1 => ?_
  refine awp_region rfl ?_
  refine o_mv (AV.sl 1 (ns .u32 (xs))) rfl ?_
  refine n_len (xs) Gd.none Wa_tU87 rfl ?_
  refine o_as (nm .i64 ((xs).length)) rfl ?_
  refine aops_end ?_
  refine hK1 _ ?_
  refine awp_seq fun K2 hK2 => ?_
  refine awp_block ?_
  refine awp_loopR (fun κ σ => ∃ (n : Nat), (n ≤ xs.length) ∧ (val (xs.take n) = val xs) ∧ (n) = κ ∧ σ = ⟨[(0, (AV.lit (.bool (neg)))), (1, (AV.sl 1 (ns .u32 (xs)))), (4, (AV.ref 2 (0))), (5, (nm .i64 (n)))], [(2, (AO.var 89 [(AV.lit (.bool false)), (AV.lit (.slice none 0 0))]))]⟩) ⟨_, _, ⟨xs.length, (Nat.le_refl _), (by rw [List.take_length]), rfl, rfl⟩, ?wk0⟩ ?rd0
  case wk0 =>
    exact Wk.sub (And.intro rfl (And.intro rfl (And.intro rfl (And.intro (by first | rfl | exact congrArg (nm _) (by omega) | exact nm_int (by omega) | exact nm_int (by simp [IntKind.wrap, IntKind.bits, IntKind.signed]; omega)) (trivial))))) (And.intro rfl (trivial))
  rintro κ _ ⟨n, hn, hv, rfl, rfl⟩
  refine awp_seq fun K3 hK3 => ?_
  refine awp_seq fun K4 hK4 => ?_
  refine awp_region rfl ?_
  refine o_mv (nm .i64 (n)) rfl ?_
  refine n_gtr (n) (0) Gd.none rfl rfl ?_
  refine o_mv (bp ((0) < (n))) rfl ?_
  refine o_splitP (q := (0) < (n)) 10 rfl (fun h1 => ?_) (fun h1 => ?_)
  · refine o_move (AV.sl 1 (ns .u32 (xs))) (Gd.yes rfl rfl (decide_eq_true h1)) rfl ?_
    refine o_move (nm .i64 (n)) (Gd.yes rfl rfl (decide_eq_true h1)) rfl ?_
    refine n_sub (n) (1) (Gd.yes rfl rfl (decide_eq_true h1)) rfl rfl (by omega) (by simp only [topOf]; omega) ?_
    refine n_index (xs) ((n) - (1)) (Gd.yes rfl rfl (decide_eq_true h1)) Wa_tE87 rfl rfl (by omega) ?_
    refine n_loadI (xs) ((n) - (1)) (Gd.yes rfl rfl (decide_eq_true h1)) Wa_tS111 rfl (by omega) ?_
    refine n_eql ((xs).getD ((n) - (1)) 0) (0) (Gd.yes rfl rfl (decide_eq_true h1)) rfl rfl ?_
    refine o_pickT (bp (((xs).getD ((n) - (1)) 0) = (0))) Gd.none rfl (decide_eq_true h1) rfl ?_
    refine aops_end ?_
    refine hK4 _ ?_
    refine awp_condQ (q := ((xs).getD ((n) - (1)) 0) = (0)) rfl (fun h2 => ?_) (fun h2 => ?_)
    · refine awp_skip ?_
      refine hK3 _ ?_
      refine awp_block ?_
      refine awp_region rfl ?_
      refine o_mv (nm .i64 (n)) rfl ?_
      refine n_sub (n) (1) Gd.none rfl rfl (by omega) (by simp only [topOf]; omega) ?_
      refine o_as (nm .i64 ((n) - (1))) rfl ?_
      refine aops_end ?_
      refine ⟨_, _, ?lt, ⟨n - 1, (by omega), (by rw [← take_getD_zero (by assumption) hn (by assumption)]; exact hv), rfl, rfl⟩, ?wk⟩
      case lt => omega
      case wk => exact Wk.sub (And.intro rfl (And.intro rfl (And.intro rfl (And.intro (by first | rfl | exact congrArg (nm _) (by omega) | exact nm_int (by omega) | exact nm_int (by simp [IntKind.wrap, IntKind.bits, IntKind.signed]; omega)) (trivial))))) (And.intro rfl (trivial))
    · refine awp_exit ?_
      refine hK2 _ ?_
      refine awp_seq fun K5 hK5 => ?_
      refine awp_region rfl ?_
      refine o_mv (AV.lit (.bool (neg))) rfl ?_
      refine o_mv (AV.lit (.bool (neg))) rfl ?_
      refine o_split (b := neg) 21 rfl (fun h3 => ?_) (fun h3 => ?_)
      · refine o_move (nm .i64 (n)) (Gd.yes rfl rfl h3) rfl ?_
        refine n_gtr (n) (0) (Gd.yes rfl rfl h3) rfl rfl ?_
        refine o_pickT (bp ((0) < (n))) Gd.none rfl h3 rfl ?_
        refine o_mv (AV.sl 1 (ns .u32 (xs))) rfl ?_
        refine o_mv (nm .i64 (n)) rfl ?_
        refine o_mv (nm .i64 (n)) rfl ?_
        refine n_slice (xs) (0) (n) Gd.none Wa_tE87 rfl rfl (hi_nm rfl) (mx_nm rfl) (by omega) (by omega) ?_
        refine o_build [(bp ((0) < (n))), (AV.sl 1 (ns .u32 (((xs).drop (0)).take (n - 0))))] [(0, [(bp ((0) < (n)))]), (1, [(AV.sl 1 (ns .u32 (((xs).drop (0)).take (n - 0))))])] Gd.none Wa_tP89 Wa_tO89 rfl rfl rfl ?_
        refine o_store [(2, (AO.var 89 [(bp ((0) < (n))), (AV.sl 1 (ns .u32 (((xs).drop (0)).take (n - 0))))]))] Gd.none Wa_tZ89 rfl rfl rfl rfl rfl rfl ?_
        refine aops_end ?_
        refine hK5 _ ?_
        refine awp_ret ?_
        refine post_ret ⟨[(AV.agg [(bp ((0) < (n))), (AV.sl 1 (ns .u32 (((xs).drop (0)).take (n - 0))))])], And.intro ⟨2, (AO.var 89 [(bp ((0) < (n))), (AV.sl 1 (ns .u32 (((xs).drop (0)).take (n - 0))))]), rfl, rfl, rfl, Or.inl ⟨Wa_tA89, AV.le_refl _⟩⟩ (trivial), rfl, ?_⟩
        subst h3
        exact (trim_fin (k := .u32) (neg := true) hx hn hv (by first | (left; omega) | (right; assumption))).symm
      · refine o_skip rfl rfl h3 ?_
        refine o_skip rfl rfl h3 ?_
        refine o_pickF (AV.lit (.bool false)) Gd.none rfl h3 rfl ?_
        refine o_mv (AV.sl 1 (ns .u32 (xs))) rfl ?_
        refine o_mv (nm .i64 (n)) rfl ?_
        refine o_mv (nm .i64 (n)) rfl ?_
        refine n_slice (xs) (0) (n) Gd.none Wa_tE87 rfl rfl (hi_nm rfl) (mx_nm rfl) (by omega) (by omega) ?_
        refine o_build [(AV.lit (.bool false)), (AV.sl 1 (ns .u32 (((xs).drop (0)).take (n - 0))))] [(0, [(AV.lit (.bool false))]), (1, [(AV.sl 1 (ns .u32 (((xs).drop (0)).take (n - 0))))])] Gd.none Wa_tP89 Wa_tO89 rfl rfl rfl ?_
        refine o_store [(2, (AO.var 89 [(AV.lit (.bool false)), (AV.sl 1 (ns .u32 (((xs).drop (0)).take (n - 0))))]))] Gd.none Wa_tZ89 rfl rfl rfl rfl rfl rfl ?_
        refine aops_end ?_
        refine hK5 _ ?_
        refine awp_ret ?_
        refine post_ret ⟨[(AV.agg [(AV.lit (.bool false)), (AV.sl 1 (ns .u32 (((xs).drop (0)).take (n - 0))))])], And.intro ⟨2, (AO.var 89 [(AV.lit (.bool false)), (AV.sl 1 (ns .u32 (((xs).drop (0)).take (n - 0))))]), rfl, rfl, rfl, Or.inl ⟨Wa_tA89, AV.le_refl _⟩⟩ (trivial), rfl, ?_⟩
        subst h3
        exact (trim_fin (k := .u32) (neg := false) hx hn hv (by first | (left; omega) | (right; assumption))).symm
  · refine o_skip rfl rfl (decide_eq_false h1) ?_
    refine o_skip rfl rfl (decide_eq_false h1) ?_
    refine o_skip rfl rfl (decide_eq_false h1) ?_
    refine o_skip rfl rfl (decide_eq_false h1) ?_
    refine o_skip rfl rfl (decide_eq_false h1) ?_
    refine o_skip rfl rfl (decide_eq_false h1) ?_
    refine o_pickF (AV.lit (.bool false)) Gd.none rfl (decide_eq_false h1) rfl ?_
    refine aops_end ?_
    refine hK4 _ ?_
    refine awp_condB (b := false) rfl (fun hh => absurd (hh.symm.trans rfl) (by decide)) (fun _ => ?_)
    refine awp_exit ?_
    refine hK2 _ ?_
    refine awp_seq fun K6 hK6 => ?_
    refine awp_region rfl ?_
    refine o_mv (AV.lit (.bool (neg))) rfl ?_
    refine o_mv (AV.lit (.bool (neg))) rfl ?_
    refine o_split (b := neg) 21 rfl (fun h4 => ?_) (fun h4 => ?_)
    · refine o_move (nm .i64 (n)) (Gd.yes rfl rfl h4) rfl ?_
      refine n_gtr (n) (0) (Gd.yes rfl rfl h4) rfl rfl ?_
      refine o_pickT (bp ((0) < (n))) Gd.none rfl h4 rfl ?_
      refine o_mv (AV.sl 1 (ns .u32 (xs))) rfl ?_
      refine o_mv (nm .i64 (n)) rfl ?_
      refine o_mv (nm .i64 (n)) rfl ?_
      refine n_slice (xs) (0) (n) Gd.none Wa_tE87 rfl rfl (hi_nm rfl) (mx_nm rfl) (by omega) (by omega) ?_
      refine o_build [(bp ((0) < (n))), (AV.sl 1 (ns .u32 (((xs).drop (0)).take (n - 0))))] [(0, [(bp ((0) < (n)))]), (1, [(AV.sl 1 (ns .u32 (((xs).drop (0)).take (n - 0))))])] Gd.none Wa_tP89 Wa_tO89 rfl rfl rfl ?_
      refine o_store [(2, (AO.var 89 [(bp ((0) < (n))), (AV.sl 1 (ns .u32 (((xs).drop (0)).take (n - 0))))]))] Gd.none Wa_tZ89 rfl rfl rfl rfl rfl rfl ?_
      refine aops_end ?_
      refine hK6 _ ?_
      refine awp_ret ?_
      refine post_ret ⟨[(AV.agg [(bp ((0) < (n))), (AV.sl 1 (ns .u32 (((xs).drop (0)).take (n - 0))))])], And.intro ⟨2, (AO.var 89 [(bp ((0) < (n))), (AV.sl 1 (ns .u32 (((xs).drop (0)).take (n - 0))))]), rfl, rfl, rfl, Or.inl ⟨Wa_tA89, AV.le_refl _⟩⟩ (trivial), rfl, ?_⟩
      subst h4
      exact (trim_fin (k := .u32) (neg := true) hx hn hv (by first | (left; omega) | (right; assumption))).symm
    · refine o_skip rfl rfl h4 ?_
      refine o_skip rfl rfl h4 ?_
      refine o_pickF (AV.lit (.bool false)) Gd.none rfl h4 rfl ?_
      refine o_mv (AV.sl 1 (ns .u32 (xs))) rfl ?_
      refine o_mv (nm .i64 (n)) rfl ?_
      refine o_mv (nm .i64 (n)) rfl ?_
      refine n_slice (xs) (0) (n) Gd.none Wa_tE87 rfl rfl (hi_nm rfl) (mx_nm rfl) (by omega) (by omega) ?_
      refine o_build [(AV.lit (.bool false)), (AV.sl 1 (ns .u32 (((xs).drop (0)).take (n - 0))))] [(0, [(AV.lit (.bool false))]), (1, [(AV.sl 1 (ns .u32 (((xs).drop (0)).take (n - 0))))])] Gd.none Wa_tP89 Wa_tO89 rfl rfl rfl ?_
      refine o_store [(2, (AO.var 89 [(AV.lit (.bool false)), (AV.sl 1 (ns .u32 (((xs).drop (0)).take (n - 0))))]))] Gd.none Wa_tZ89 rfl rfl rfl rfl rfl rfl ?_
      refine aops_end ?_
      refine hK6 _ ?_
      refine awp_ret ?_
      refine post_ret ⟨[(AV.agg [(AV.lit (.bool false)), (AV.sl 1 (ns .u32 (((xs).drop (0)).take (n - 0))))])], And.intro ⟨2, (AO.var 89 [(AV.lit (.bool false)), (AV.sl 1 (ns .u32 (((xs).drop (0)).take (n - 0))))]), rfl, rfl, rfl, Or.inl ⟨Wa_tA89, AV.le_refl _⟩⟩ (trivial), rfl, ?_⟩
      subst h4
      exact (trim_fin (k := .u32) (neg := false) hx hn hv (by first | (left; omega) | (right; assumption))).symm

theorem c_wMinus (z : Int) : ECalls cx 87 [(intW (z))] (intW ((-z))) := by
  refine ecalls_of_awp Tryz.func87 (c := _) rfl (Nat.le_of_ble_eq_true rfl) ?_
  show awp cx 15 _ (postF cx Tryz.f87 _) ⟨[(0, (intW (z)))], []⟩
  refine awp_seq fun K0 hK0 => ?_
  refine awp_region rfl ?_
  refine o_box 2 [(bp (z < 0)), (AV.sl 1 (ns .u32 (digs (z).natAbs)))] Gd.none rfl rfl ?_
  refine o_alloc 3 [(AV.lit (.bool false)), (AV.lit (.slice none 0 0))] Gd.none Wa_tO89 rfl rfl rfl ?_
  refine aops_end ?_
  refine hK0 _ ?_
  refine awp_seq fun K1 hK1 => ?_
  refine awp_region rfl ?_
  refine o_fieldRef 0 Gd.none Wa_tF89_0 rfl rfl ?_
  refine o_loadS (bp (z < 0)) Gd.none Wa_tS4 rfl rfl rfl ?_
  refine o_notP (q := z < 0) Gd.none rfl ?_
  refine o_mv (bp (¬ (z < 0))) rfl ?_
  refine o_splitP (q := ¬ (z < 0)) 6 rfl (fun h1 => ?_) (fun h1 => ?_)
  · refine o_fieldRef 1 (Gd.yes rfl rfl (decide_eq_true h1)) Wa_tF89_1 rfl rfl ?_
    refine o_loadS (AV.sl 1 (ns .u32 (digs (z).natAbs))) (Gd.yes rfl rfl (decide_eq_true h1)) Wa_tS87 rfl rfl rfl ?_
    refine n_len (digs (z).natAbs) (Gd.yes rfl rfl (decide_eq_true h1)) Wa_tU87 rfl ?_
    refine n_gtr ((digs (z).natAbs).length) (0) (Gd.yes rfl rfl (decide_eq_true h1)) rfl rfl ?_
    refine o_pickT (bp ((0) < ((digs (z).natAbs).length))) Gd.none rfl (decide_eq_true h1) rfl ?_
    refine o_fieldRef 1 Gd.none Wa_tF89_1 rfl rfl ?_
    refine o_loadS (AV.sl 1 (ns .u32 (digs (z).natAbs))) Gd.none Wa_tS87 rfl rfl rfl ?_
    refine o_build [(bp ((0) < ((digs (z).natAbs).length))), (AV.sl 1 (ns .u32 (digs (z).natAbs)))] [(0, [(bp ((0) < ((digs (z).natAbs).length)))]), (1, [(AV.sl 1 (ns .u32 (digs (z).natAbs)))])] Gd.none Wa_tP89 Wa_tO89 rfl rfl rfl ?_
    refine o_store [(3, (AO.var 89 [(bp ((0) < ((digs (z).natAbs).length))), (AV.sl 1 (ns .u32 (digs (z).natAbs)))])), (2, (oZ 89 .u32 (z)))] Gd.none Wa_tZ89 rfl rfl rfl rfl rfl rfl ?_
    refine aops_end ?_
    refine hK1 _ ?_
    refine awp_ret ?_
    refine post_ret ⟨[(AV.agg [(bp ((0) < ((digs (z).natAbs).length))), (AV.sl 1 (ns .u32 (digs (z).natAbs)))])], And.intro ⟨3, (AO.var 89 [(bp ((0) < ((digs (z).natAbs).length))), (AV.sl 1 (ns .u32 (digs (z).natAbs)))]), rfl, rfl, rfl, Or.inl ⟨Wa_tA89, AV.le_refl _⟩⟩ (trivial), rfl, ?_⟩
    exact (minus_fin1 (k := .u32) h1).symm
  · refine o_skip rfl rfl (decide_eq_false h1) ?_
    refine o_skip rfl rfl (decide_eq_false h1) ?_
    refine o_skip rfl rfl (decide_eq_false h1) ?_
    refine o_skip rfl rfl (decide_eq_false h1) ?_
    refine o_pickF (AV.lit (.bool false)) Gd.none rfl (decide_eq_false h1) rfl ?_
    refine o_fieldRef 1 Gd.none Wa_tF89_1 rfl rfl ?_
    refine o_loadS (AV.sl 1 (ns .u32 (digs (z).natAbs))) Gd.none Wa_tS87 rfl rfl rfl ?_
    refine o_build [(AV.lit (.bool false)), (AV.sl 1 (ns .u32 (digs (z).natAbs)))] [(0, [(AV.lit (.bool false))]), (1, [(AV.sl 1 (ns .u32 (digs (z).natAbs)))])] Gd.none Wa_tP89 Wa_tO89 rfl rfl rfl ?_
    refine o_store [(3, (AO.var 89 [(AV.lit (.bool false)), (AV.sl 1 (ns .u32 (digs (z).natAbs)))])), (2, (oZ 89 .u32 (z)))] Gd.none Wa_tZ89 rfl rfl rfl rfl rfl rfl ?_
    refine aops_end ?_
    refine hK1 _ ?_
    refine awp_ret ?_
    refine post_ret ⟨[(AV.agg [(AV.lit (.bool false)), (AV.sl 1 (ns .u32 (digs (z).natAbs)))])], And.intro ⟨3, (AO.var 89 [(AV.lit (.bool false)), (AV.sl 1 (ns .u32 (digs (z).natAbs)))]), rfl, rfl, rfl, Or.inl ⟨Wa_tA89, AV.le_refl _⟩⟩ (trivial), rfl, ?_⟩
    exact (minus_fin2 (k := .u32) h1).symm

theorem c_rSize (m n : Nat) : ECalls cx 39 [(AV.sl 1 (ns .i64 (digs m))), (AV.sl 1 (ns .i64 (digs n)))] (.lit (.int .i64 (cmpN m n))) := by
  refine ecalls_of_awp Tryz.func39 (c := _) rfl (Nat.le_of_ble_eq_true rfl) ?_
  show awp cx 41 _ (postF cx Tryz.f39 _) ⟨[(0, (AV.sl 1 (ns .i64 (digs m)))), (1, (AV.sl 1 (ns .i64 (digs n))))], []⟩
  refine awp_bound (i := 0) rfl fun hb => ?_
  replace hb := n_bnd hb
  refine awp_bound (i := 1) rfl fun hb2 => ?_
  replace hb2 := n_bnd hb2
  refine awp_seq fun K0 hK0 => ?_
  refine awp_region rfl ?_
  refine o_as (nm .i64 (0)) rfl ?_
  refine aops_end ?_
  refine hK0 _ ?_
  refine awp_seq fun K1 hK1 => ?_
  refine awp_seq fun K2 hK2 => ?_
  refine awp_region rfl ?_
  refine o_mv (AV.sl 1 (ns .i64 (digs m))) rfl ?_
  refine n_len (digs m) Gd.none Wa_tU25 rfl ?_
  refine o_mv (AV.sl 1 (ns .i64 (digs n))) rfl ?_
  refine n_len (digs n) Gd.none Wa_tU25 rfl ?_
  refine n_neq ((digs m).length) ((digs n).length) Gd.none rfl rfl ?_
  refine aops_end ?_
  refine hK2 _ ?_
  refine awp_condQ (q := ((digs m).length) ≠ ((digs n).length)) rfl (fun h1 => ?_) (fun h1 => ?_)
  · refine awp_seq fun K3 hK3 => ?_
    refine awp_seq fun K4 hK4 => ?_
    refine awp_region rfl ?_
    refine o_mv (AV.sl 1 (ns .i64 (digs m))) rfl ?_
    refine n_len (digs m) Gd.none Wa_tU25 rfl ?_
    refine o_mv (AV.sl 1 (ns .i64 (digs n))) rfl ?_
    refine n_len (digs n) Gd.none Wa_tU25 rfl ?_
    refine n_lss ((digs m).length) ((digs n).length) Gd.none rfl rfl ?_
    refine aops_end ?_
    refine hK4 _ ?_
    refine awp_condQ (q := ((digs m).length) < ((digs n).length)) rfl (fun h2 => ?_) (fun h2 => ?_)
    · refine awp_seq fun K5 hK5 => ?_
      refine awp_region rfl ?_
      refine o_as (AV.lit (.int .i64 ((-1)))) rfl ?_
      refine aops_end ?_
      refine hK5 _ ?_
      refine awp_ret ?_
      refine post_ret ⟨[(AV.lit (.int .i64 ((-1))))], And.intro (AV.le_refl _) (trivial), rfl, ?_⟩
      refine int_eq (k := .i64) ?_
      rw [cmpN_len h1, if_pos h2]
    · refine awp_skip ?_
      refine hK3 _ ?_
      refine awp_seq fun K6 hK6 => ?_
      refine awp_region rfl ?_
      refine o_as (nm .i64 (1)) rfl ?_
      refine aops_end ?_
      refine hK6 _ ?_
      refine awp_ret ?_
      refine post_ret ⟨[(nm .i64 (1))], And.intro (AV.le_refl _) (trivial), rfl, ?_⟩
      refine int_eq (k := .i64) ?_
      rw [cmpN_len h1, if_neg h2]
      rfl
  · refine awp_skip ?_
    refine hK1 _ ?_
    refine awp_seq fun K7 hK7 => ?_
    refine awp_seq fun K8 hK8 => ?_
    refine awp_region rfl ?_
    refine o_mv (AV.sl 1 (ns .i64 (digs m))) rfl ?_
    refine n_len (digs m) Gd.none Wa_tU25 rfl ?_
    refine o_sub (a := ((((digs m).length : Nat) : Int))) (c := (((1 : Nat) : Int))) Gd.none rfl rfl (by exact wrap64 (by omega) (by omega)) ?_
    refine o_as (AV.lit (.int .i64 (((((digs m).length : Nat) : Int)) - (((1 : Nat) : Int))))) rfl ?_
    refine aops_end ?_
    refine hK8 _ ?_
    refine awp_block ?_
    refine awp_loopR (fun κ σ => ∃ (j : Nat), (j ≤ (digs m).length) ∧ (val ((digs m).drop j) = val ((digs n).drop j)) ∧ (j) = κ ∧ σ = ⟨[(0, (AV.sl 1 (ns .i64 (digs m)))), (1, (AV.sl 1 (ns .i64 (digs n)))), (5, (AV.lit (.int .i64 ((j : Int) - 1))))], []⟩) ⟨_, _, ⟨(digs m).length, (Nat.le_refl _), (by rw [val_drop_all (Nat.le_refl _), val_drop_all (by omega)]), rfl, rfl⟩, ?wk0⟩ ?rd0
    case wk0 =>
      exact Wk.sub (And.intro rfl (And.intro rfl (And.intro (by first | rfl | exact int_eq (by omega) | exact int_nm (by omega)) (trivial)))) (trivial)
    rintro κ _ ⟨j, hj, hv, rfl, rfl⟩
    refine awp_seq fun K9 hK9 => ?_
    refine awp_seq fun K10 hK10 => ?_
    refine awp_region rfl ?_
    refine o_mv (AV.lit (.int .i64 ((j : Int) - 1))) rfl ?_
    refine o_geq (a := ((j : Int) - 1)) (c := (((0 : Nat) : Int))) Gd.none rfl rfl ?_
    refine aops_end ?_
    refine hK10 _ ?_
    refine awp_condQ (q := (((0 : Nat) : Int)) ≤ ((j : Int) - 1)) rfl (fun h3 => ?_) (fun h3 => ?_)
    · refine awp_wk (Wk.slot (i := 5) (y := (nm .i64 (j - 1))) (AV.le_eq (by exact nm_int (by omega)))) ?_
      refine awp_skip ?_
      refine hK9 _ ?_
      refine awp_seq fun K11 hK11 => ?_
      refine awp_block ?_
      refine awp_seq fun K12 hK12 => ?_
      refine awp_seq fun K13 hK13 => ?_
      refine awp_regionD rfl ?_
      refine o_mv (AV.sl 1 (ns .i64 (digs m))) rfl ?_
      refine o_mv (nm .i64 (j - 1)) rfl ?_
      refine n_index (digs m) (j - 1) Gd.none Wa_tE25 rfl rfl (by omega) ?_
      refine n_loadI (digs m) (j - 1) Gd.none Wa_tS3 rfl (by omega) ?_
      refine o_mv (AV.sl 1 (ns .i64 (digs n))) rfl ?_
      refine o_mv (nm .i64 (j - 1)) rfl ?_
      refine n_index (digs n) (j - 1) Gd.none Wa_tE25 rfl rfl (by omega) ?_
      refine n_loadI (digs n) (j - 1) Gd.none Wa_tS3 rfl (by omega) ?_
      refine n_lss ((digs m).getD (j - 1) 0) ((digs n).getD (j - 1) 0) Gd.none rfl rfl ?_
      refine aops_end ⟨by kernel_rfl, ?_⟩
      refine hK13 _ ?_
      refine awp_condQ (q := ((digs m).getD (j - 1) 0) < ((digs n).getD (j - 1) 0)) rfl (fun h4 => ?_) (fun h4 => ?_)
      · refine awp_seq fun K14 hK14 => ?_
        refine awp_region rfl ?_
        refine o_as (AV.lit (.int .i64 ((-1)))) rfl ?_
        refine aops_end ?_
        refine hK14 _ ?_
        refine awp_ret ?_
        refine post_ret ⟨[(AV.lit (.int .i64 ((-1))))], And.intro (AV.le_refl _) (trivial), rfl, ?_⟩
        exact int_eq (k := .i64) (cmpN_lt (j := j - 1) (by omega) (by omega) (by rw [Nat.sub_add_cancel (by omega)]; exact hv) (by assumption))
      · refine awp_skip ?_
        refine hK12 _ ?_
        refine awp_seq fun K15 hK15 => ?_
        refine awp_regionD rfl ?_
        refine o_mv (AV.sl 1 (ns .i64 (digs m))) rfl ?_
        refine o_mv (nm .i64 (j - 1)) rfl ?_
        refine n_index (digs m) (j - 1) Gd.none Wa_tE25 rfl rfl (by omega) ?_
        refine n_loadI (digs m) (j - 1) Gd.none Wa_tS3 rfl (by omega) ?_
        refine o_mv (AV.sl 1 (ns .i64 (digs n))) rfl ?_
        refine o_mv (nm .i64 (j - 1)) rfl ?_
        refine n_index (digs n) (j - 1) Gd.none Wa_tE25 rfl rfl (by omega) ?_
        refine n_loadI (digs n) (j - 1) Gd.none Wa_tS3 rfl (by omega) ?_
        refine n_gtr ((digs m).getD (j - 1) 0) ((digs n).getD (j - 1) 0) Gd.none rfl rfl ?_
        refine aops_end ⟨by kernel_rfl, ?_⟩
        refine hK15 _ ?_
        refine awp_condQ (q := ((digs n).getD (j - 1) 0) < ((digs m).getD (j - 1) 0)) rfl (fun h5 => ?_) (fun h5 => ?_)
        · refine awp_seq fun K16 hK16 => ?_
          refine awp_region rfl ?_
          refine o_as (nm .i64 (1)) rfl ?_
          refine aops_end ?_
          refine hK16 _ ?_
          refine awp_ret ?_
          refine post_ret ⟨[(nm .i64 (1))], And.intro (AV.le_refl _) (trivial), rfl, ?_⟩
          exact int_eq (k := .i64) (cmpN_gt (j := j - 1) (by omega) (by omega) (by rw [Nat.sub_add_cancel (by omega)]; exact hv) (by assumption))
        · refine awp_skip ?_
          refine hK11 _ ?_
          refine awp_region rfl ?_
          refine o_mv (nm .i64 (j - 1)) rfl ?_
          refine o_sub (a := (((j - 1 : Nat) : Int))) (c := (((1 : Nat) : Int))) Gd.none rfl rfl (by exact wrap64 (by omega) (by omega)) ?_
          refine o_as (AV.lit (.int .i64 ((((j - 1 : Nat) : Int)) - (((1 : Nat) : Int))))) rfl ?_
          refine aops_end ?_
          refine ⟨_, _, ?lt, ⟨j - 1, (by omega), (by rw [val_drop_succ (xs := digs m) (j := j - 1) (by omega), val_drop_succ (xs := digs n) (j := j - 1) (by omega), Nat.sub_add_cancel (by omega), hv, show (digs m).getD (j - 1) 0 = (digs n).getD (j - 1) 0 by omega]), rfl, rfl⟩, ?wk⟩
          case lt => omega
          case wk => exact Wk.sub (And.intro rfl (And.intro rfl (And.intro (by first | rfl | exact int_eq (by omega) | exact int_nm (by omega)) (trivial)))) (trivial)
    · refine awp_exit ?_
      refine hK7 _ ?_
      refine awp_seq fun K17 hK17 => ?_
      refine awp_region rfl ?_
      refine o_as (nm .i64 (0)) rfl ?_
      refine aops_end ?_
      refine hK17 _ ?_
      refine awp_ret ?_
      refine post_ret ⟨[(nm .i64 (0))], And.intro (AV.le_refl _) (trivial), rfl, ?_⟩
      have : j = 0 := by omega
      subst this
      exact int_eq (k := .i64) (cmpN_eq hv)

theorem c_wSize (m n : Nat) : ECalls cx 84 [(AV.sl 1 (ns .u32 (digs m))), (AV.sl 1 (ns .u32 (digs n)))] (.lit (.int .i64 (cmpN m n))) := by
  refine ecalls_of_awp Tryz.func84 (c := _) rfl (Nat.le_of_ble_eq_true rfl) ?_
  show awp cx 45 _ (postF cx Tryz.f84 _) ⟨[(0, (AV.sl 1 (ns .u32 (digs m)))), (1, (AV.sl 1 (ns .u32 (digs n))))], []⟩
  refine awp_bound (i := 0) rfl fun hb => ?_
  replace hb := n_bnd hb
  refine awp_bound (i := 1) rfl fun hb2 => ?_
  replace hb2 := n_bnd hb2
  refine awp_seq fun K0 hK0 => ?_
  refine awp_region rfl ?_
  refine o_as (nm .i64 (0)) rfl ?_
  refine aops_end ?_
  refine hK0 _ ?_
  refine awp_seq fun K1 hK1 => ?_
  refine awp_seq fun K2 hK2 => ?_
  refine awp_region rfl ?_
  refine o_mv (AV.sl 1 (ns .u32 (digs m))) rfl ?_
  refine n_len (digs m) Gd.none Wa_tU87 rfl ?_
  refine o_mv (AV.sl 1 (ns .u32 (digs n))) rfl ?_
  refine n_len (digs n) Gd.none Wa_tU87 rfl ?_
  refine n_neq ((digs m).length) ((digs n).length) Gd.none rfl rfl ?_
  refine aops_end ?_
  refine hK2 _ ?_
  refine awp_condQ (q := ((digs m).length) ≠ ((digs n).length)) rfl (fun h1 => ?_) (fun h1 => ?_)
  · refine awp_seq fun K3 hK3 => ?_
    refine awp_region rfl ?_
    refine o_mv (AV.sl 1 (ns .u32 (digs m))) rfl ?_
    refine n_len (digs m) Gd.none Wa_tU87 rfl ?_
    refine o_mv (AV.sl 1 (ns .u32 (digs n))) rfl ?_
    refine n_len (digs n) Gd.none Wa_tU87 rfl ?_
    refine o_sub (a := ((((digs m).length : Nat) : Int))) (c := ((((digs n).length : Nat) : Int))) Gd.none rfl rfl (by exact wrap64 (by omega) (by omega)) ?_
    refine o_max (a := (-1)) (c := ((((digs m).length : Nat) : Int)) - ((((digs n).length : Nat) : Int))) Gd.none rfl rfl (fun w => run_max _ _ w) ?_
    refine o_min (a := ((1 : Nat) : Int)) (c := max ((-1)) (((((digs m).length : Nat) : Int)) - ((((digs n).length : Nat) : Int)))) Gd.none rfl rfl (fun w => run_min _ _ w) ?_
    refine o_as (AV.lit (.int .i64 (min (((1 : Nat) : Int)) (max ((-1)) (((((digs m).length : Nat) : Int)) - ((((digs n).length : Nat) : Int))))))) rfl ?_
    refine aops_end ?_
    refine hK3 _ ?_
    refine awp_ret ?_
    refine post_ret ⟨[(AV.lit (.int .i64 (min (((1 : Nat) : Int)) (max ((-1)) (((((digs m).length : Nat) : Int)) - ((((digs n).length : Nat) : Int)))))))], And.intro (AV.le_refl _) (trivial), rfl, ?_⟩
    refine int_eq (k := .i64) ?_
    rw [cmpN_len h1]
    split <;> omega
  · refine awp_skip ?_
    refine hK1 _ ?_
    refine awp_seq fun K4 hK4 => ?_
    refine awp_seq fun K5 hK5 => ?_
    refine awp_region rfl ?_
    refine o_mv (AV.sl 1 (ns .u32 (digs m))) rfl ?_
    refine n_len (digs m) Gd.none Wa_tU87 rfl ?_
    refine o_sub (a := ((((digs m).length : Nat) : Int))) (c := (((1 : Nat) : Int))) Gd.none rfl rfl (by exact wrap64 (by omega) (by omega)) ?_
    refine o_as (AV.lit (.int .i64 (((((digs m).length : Nat) : Int)) - (((1 : Nat) : Int))))) rfl ?_
    refine aops_end ?_
    refine hK5 _ ?_
    refine awp_block ?_
    refine awp_loopR (fun κ σ => ∃ (j : Nat), (j ≤ (digs m).length) ∧ (val ((digs m).drop j) = val ((digs n).drop j)) ∧ (j) = κ ∧ σ = ⟨[(0, (AV.sl 1 (ns .u32 (digs m)))), (1, (AV.sl 1 (ns .u32 (digs n)))), (5, (AV.lit (.int .i64 ((j : Int) - 1))))], []⟩) ⟨_, _, ⟨(digs m).length, (Nat.le_refl _), (by rw [val_drop_all (Nat.le_refl _), val_drop_all (by omega)]), rfl, rfl⟩, ?wk0⟩ ?rd0
    case wk0 =>
      exact Wk.sub (And.intro rfl (And.intro rfl (And.intro (by first | rfl | exact int_eq (by omega) | exact int_nm (by omega)) (trivial)))) (trivial)
    rintro κ _ ⟨j, hj, hv, rfl, rfl⟩
    refine awp_seq fun K6 hK6 => ?_
    refine awp_seq fun K7 hK7 => ?_
    refine awp_region rfl ?_
    refine o_mv (AV.lit (.int .i64 ((j : Int) - 1))) rfl ?_
    refine o_geq (a := ((j : Int) - 1)) (c := (((0 : Nat) : Int))) Gd.none rfl rfl ?_
    refine aops_end ?_
    refine hK7 _ ?_
    refine awp_condQ (q := (((0 : Nat) : Int)) ≤ ((j : Int) - 1)) rfl (fun h2 => ?_) (fun h2 => ?_)
    · refine awp_wk (Wk.slot (i := 5) (y := (nm .i64 (j - 1))) (AV.le_eq (by exact nm_int (by omega)))) ?_
      refine awp_skip ?_
      refine hK6 _ ?_
      refine awp_seq fun K8 hK8 => ?_
      refine awp_block ?_
      refine awp_block ?_
      refine awp_seq fun K9 hK9 => ?_
      refine awp_regionD rfl ?_
      refine o_mv (AV.sl 1 (ns .u32 (digs m))) rfl ?_
      refine o_mv (nm .i64 (j - 1)) rfl ?_
      refine n_index (digs m) (j - 1) Gd.none Wa_tE87 rfl rfl (by omega) ?_
      refine n_loadI (digs m) (j - 1) Gd.none Wa_tS111 rfl (by omega) ?_
      refine o_mv (AV.sl 1 (ns .u32 (digs n))) rfl ?_
      refine o_mv (nm .i64 (j - 1)) rfl ?_
      refine n_index (digs n) (j - 1) Gd.none Wa_tE87 rfl rfl (by omega) ?_
      refine n_loadI (digs n) (j - 1) Gd.none Wa_tS111 rfl (by omega) ?_
      refine n_lss ((digs m).getD (j - 1) 0) ((digs n).getD (j - 1) 0) Gd.none rfl rfl ?_
      refine o_as (bp (((digs m).getD (j - 1) 0) < ((digs n).getD (j - 1) 0))) rfl ?_
      refine aops_end ⟨by kernel_rfl, ?_⟩
      refine hK9 _ ?_
      refine awp_condQ (q := ((digs m).getD (j - 1) 0) < ((digs n).getD (j - 1) 0)) rfl (fun h3 => ?_) (fun h3 => ?_)
      · refine awp_seq fun K10 hK10 => ?_
        refine awp_region rfl ?_
        refine o_as (AV.lit (.int .i64 ((-1)))) rfl ?_
        refine aops_end ?_
        refine hK10 _ ?_
        refine awp_ret ?_
        refine post_ret ⟨[(AV.lit (.int .i64 ((-1))))], And.intro (AV.le_refl _) (trivial), rfl, ?_⟩
        exact int_eq (k := .i64) (cmpN_lt (j := j - 1) (by omega) (by omega) (by rw [Nat.sub_add_cancel (by omega)]; exact hv) (by assumption))
      · refine awp_seq fun K11 hK11 => ?_
        refine awp_regionD rfl ?_
        refine o_mv (AV.sl 1 (ns .u32 (digs m))) rfl ?_
        refine o_mv (nm .i64 (j - 1)) rfl ?_
        refine n_index (digs m) (j - 1) Gd.none Wa_tE87 rfl rfl (by omega) ?_
        refine n_loadI (digs m) (j - 1) Gd.none Wa_tS111 rfl (by omega) ?_
        refine o_mv (AV.sl 1 (ns .u32 (digs n))) rfl ?_
        refine o_mv (nm .i64 (j - 1)) rfl ?_
        refine n_index (digs n) (j - 1) Gd.none Wa_tE87 rfl rfl (by omega) ?_
        refine n_loadI (digs n) (j - 1) Gd.none Wa_tS111 rfl (by omega) ?_
        refine n_gtr ((digs m).getD (j - 1) 0) ((digs n).getD (j - 1) 0) Gd.none rfl rfl ?_
        refine o_as (bp (((digs n).getD (j - 1) 0) < ((digs m).getD (j - 1) 0))) rfl ?_
        refine aops_end ⟨by kernel_rfl, ?_⟩
        refine hK11 _ ?_
        refine awp_condQ (q := ((digs n).getD (j - 1) 0) < ((digs m).getD (j - 1) 0)) rfl (fun h4 => ?_) (fun h4 => ?_)
        · refine awp_seq fun K12 hK12 => ?_
          refine awp_region rfl ?_
          refine o_as (nm .i64 (1)) rfl ?_
          refine aops_end ?_
          refine hK12 _ ?_
          refine awp_ret ?_
          refine post_ret ⟨[(nm .i64 (1))], And.intro (AV.le_refl _) (trivial), rfl, ?_⟩
          exact int_eq (k := .i64) (cmpN_gt (j := j - 1) (by omega) (by omega) (by rw [Nat.sub_add_cancel (by omega)]; exact hv) (by assumption))
        · refine awp_skip ?_
          refine hK8 _ ?_
          refine awp_region rfl ?_
          refine o_mv (nm .i64 (j - 1)) rfl ?_
          refine o_sub (a := (((j - 1 : Nat) : Int))) (c := (((1 : Nat) : Int))) Gd.none rfl rfl (by exact wrap64 (by omega) (by omega)) ?_
          refine o_as (AV.lit (.int .i64 ((((j - 1 : Nat) : Int)) - (((1 : Nat) : Int))))) rfl ?_
          refine aops_end ?_
          refine ⟨_, _, ?lt, ⟨j - 1, (by omega), (by rw [val_drop_succ (xs := digs m) (j := j - 1) (by omega), val_drop_succ (xs := digs n) (j := j - 1) (by omega), Nat.sub_add_cancel (by omega), hv, show (digs m).getD (j - 1) 0 = (digs n).getD (j - 1) 0 by omega]), rfl, rfl⟩, ?wk⟩
          case lt => omega
          case wk => exact Wk.sub (And.intro rfl (And.intro rfl (And.intro (by first | rfl | exact int_eq (by omega) | exact int_nm (by omega)) (trivial)))) (trivial)
    · refine awp_exit ?_
      refine hK4 _ ?_
      refine awp_seq fun K13 hK13 => ?_
      refine awp_region rfl ?_
      refine o_as (nm .i64 (0)) rfl ?_
      refine aops_end ?_
      refine hK13 _ ?_
      refine awp_ret ?_
      refine post_ret ⟨[(nm .i64 (0))], And.intro (AV.le_refl _) (trivial), rfl, ?_⟩
      have : j = 0 := by omega
      subst this
      exact int_eq (k := .i64) (cmpN_eq hv)

theorem c_wCmp (x y : Int) : ECalls cx 82 [(intW (x)), (intW (y))] (.lit (.int .i64 (cmpZ x y))) := by
  refine ecalls_of_awp Tryz.func82 (c := _) rfl (Nat.le_of_ble_eq_true rfl) ?_
  show awp cx 31 _ (postF cx Tryz.f82 _) ⟨[(0, (intW (x))), (1, (intW (y)))], []⟩
  have hx := sgn_lo x
  have hy := sgn_lo y
  refine awp_seq fun K0 hK0 => ?_
  refine awp_region rfl ?_
  refine o_box 2 [(bp (x < 0)), (AV.sl 1 (ns .u32 (digs (x).natAbs)))] Gd.none rfl rfl ?_
  refine o_box 3 [(bp (y < 0)), (AV.sl 1 (ns .u32 (digs (y).natAbs)))] Gd.none rfl rfl ?_
  refine o_as (nm .i64 (0)) rfl ?_
  refine aops_end ?_
  refine hK0 _ ?_
  refine awp_seq fun K1 hK1 => ?_
  refine awp_block ?_
  refine awp_seq fun K2 hK2 => ?_
  refine awp_regionD rfl ?_
  refine o_loadA [(bp (x < 0)), (AV.sl 1 (ns .u32 (digs (x).natAbs)))] Gd.none Wa_tA89 rfl rfl rfl rfl rfl ?_
  refine o_ct (c_wSign (x)) Gd.none Wa_tC62 rfl ?_
  refine o_loadA [(bp (y < 0)), (AV.sl 1 (ns .u32 (digs (y).natAbs)))] Gd.none Wa_tA89 rfl rfl rfl rfl rfl ?_
  refine o_ct (c_wSign (y)) Gd.none Wa_tC62 rfl ?_
  refine o_neq (a := (sgn (x))) (c := (sgn (y))) Gd.none rfl rfl ?_
  refine o_as (bp ((sgn (x)) ≠ (sgn (y)))) rfl ?_
  refine aops_end ⟨by kernel_rfl, ?_⟩
  refine hK2 _ ?_
  refine awp_condQ (q := (sgn (x)) ≠ (sgn (y))) rfl (fun h1 => ?_) (fun h1 => ?_)
  · refine awp_seq fun K3 hK3 => ?_
    refine awp_regionD rfl ?_
    refine o_loadA [(bp (x < 0)), (AV.sl 1 (ns .u32 (digs (x).natAbs)))] Gd.none Wa_tA89 rfl rfl rfl rfl rfl ?_
    refine o_ct (c_wSign (x)) Gd.none Wa_tC62 rfl ?_
    refine o_loadA [(bp (y < 0)), (AV.sl 1 (ns .u32 (digs (y).natAbs)))] Gd.none Wa_tA89 rfl rfl rfl rfl rfl ?_
    refine o_ct (c_wSign (y)) Gd.none Wa_tC62 rfl ?_
    refine o_sub (a := (sgn (x))) (c := (sgn (y))) Gd.none rfl rfl (by exact wrap64 (by omega) (by omega)) ?_
    refine o_max (a := (-1)) (c := (sgn (x)) - (sgn (y))) Gd.none rfl rfl (fun w => run_max _ _ w) ?_
    refine o_min (a := ((1 : Nat) : Int)) (c := max ((-1)) ((sgn (x)) - (sgn (y)))) Gd.none rfl rfl (fun w => run_min _ _ w) ?_
    refine o_as (AV.lit (.int .i64 (min (((1 : Nat) : Int)) (max ((-1)) ((sgn (x)) - (sgn (y))))))) rfl ?_
    refine aops_end ⟨by kernel_rfl, ?_⟩
    refine hK3 _ ?_
    refine awp_ret ?_
    refine post_ret ⟨[(AV.lit (.int .i64 (min (((1 : Nat) : Int)) (max ((-1)) ((sgn (x)) - (sgn (y)))))))], And.intro (AV.le_refl _) (trivial), rfl, ?_⟩
    refine int_eq (k := .i64) ?_
    by_cases hh : sgn x < sgn y
    · rw [cmpZ_sgn_lt hh]; omega
    · rw [cmpZ_sgn_gt h1 hh]; omega
  · refine awp_seq fun K4 hK4 => ?_
    refine awp_region rfl ?_
    refine o_fieldRef 0 Gd.none Wa_tF89_0 rfl rfl ?_
    refine o_loadS (bp (x < 0)) Gd.none Wa_tS4 rfl rfl rfl ?_
    refine o_as (bp (x < 0)) rfl ?_
    refine aops_end ?_
    refine hK4 _ ?_
    refine awp_condQ (q := x < 0) rfl (fun h2 => ?_) (fun h2 => ?_)
    · refine awp_seq fun K5 hK5 => ?_
      refine awp_region rfl ?_
      refine o_fieldRef 1 Gd.none Wa_tF89_1 rfl rfl ?_
      refine o_loadS (AV.sl 1 (ns .u32 (digs (y).natAbs))) Gd.none Wa_tS87 rfl rfl rfl ?_
      refine o_fieldRef 1 Gd.none Wa_tF89_1 rfl rfl ?_
      refine o_loadS (AV.sl 1 (ns .u32 (digs (x).natAbs))) Gd.none Wa_tS87 rfl rfl rfl ?_
      refine o_ct (c_wSize ((y).natAbs) ((x).natAbs)) Gd.none Wa_tC84 rfl ?_
      refine o_as (AV.lit (.int .i64 (cmpN ((y).natAbs) ((x).natAbs)))) rfl ?_
      refine aops_end ?_
      refine hK5 _ ?_
      refine awp_ret ?_
      refine post_ret ⟨[(AV.lit (.int .i64 (cmpN ((y).natAbs) ((x).natAbs))))], And.intro (AV.le_refl _) (trivial), rfl, ?_⟩
      exact int_eq (k := .i64) (cmpZ_neg h2 (Decidable.not_not.1 h1))
    · refine awp_skip ?_
      refine hK1 _ ?_
      refine awp_seq fun K6 hK6 => ?_
      refine awp_region rfl ?_
      refine o_fieldRef 1 Gd.none Wa_tF89_1 rfl rfl ?_
      refine o_loadS (AV.sl 1 (ns .u32 (digs (x).natAbs))) Gd.none Wa_tS87 rfl rfl rfl ?_
      refine o_fieldRef 1 Gd.none Wa_tF89_1 rfl rfl ?_
      refine o_loadS (AV.sl 1 (ns .u32 (digs (y).natAbs))) Gd.none Wa_tS87 rfl rfl rfl ?_
      refine o_ct (c_wSize ((x).natAbs) ((y).natAbs)) Gd.none Wa_tC84 rfl ?_
      refine o_as (AV.lit (.int .i64 (cmpN ((x).natAbs) ((y).natAbs)))) rfl ?_
      refine aops_end ?_
      refine hK6 _ ?_
      refine awp_ret ?_
      refine post_ret ⟨[(AV.lit (.int .i64 (cmpN ((x).natAbs) ((y).natAbs))))], And.intro (AV.le_refl _) (trivial), rfl, ?_⟩
      exact int_eq (k := .i64) (cmpZ_pos h2 (Decidable.not_not.1 h1))

theorem c_rPart (xs : List Nat) (i : Nat) : ECalls cx 41 [(AV.sl 1 (ns .i64 (xs))), (nm .i64 (i))] (nm .i64 (xs.getD i 0)) := by
  refine ecalls_of_awp Tryz.func41 (c := _) rfl (Nat.le_of_ble_eq_true rfl) ?_
  show awp cx 13 _ (postF cx Tryz.f41 _) ⟨[(0, (AV.sl 1 (ns .i64 (xs)))), (1, (nm .i64 (i)))], []⟩
  refine awp_seq fun K0 hK0 => ?_
  refine awp_region rfl ?_
  refine o_as (nm .i64 (0)) rfl ?_
  refine aops_end ?_
  refine hK0 _ ?_
  refine awp_seq fun K1 hK1 => ?_
  refine awp_seq fun K2 hK2 => ?_
  refine awp_region rfl ?_
  refine o_mv (nm .i64 (i)) rfl ?_
  refine o_mv (AV.sl 1 (ns .i64 (xs))) rfl ?_
  refine n_len (xs) Gd.none Wa_tU25 rfl ?_
  refine n_lss (i) ((xs).length) Gd.none rfl rfl ?_
  refine aops_end ?_
  refine hK2 _ ?_
  refine awp_condQ (q := (i) < ((xs).length)) rfl (fun h1 => ?_) (fun h1 => ?_)
  · refine awp_seq fun K3 hK3 => ?_
    refine awp_region rfl ?_
    refine o_mv (AV.sl 1 (ns .i64 (xs))) rfl ?_
    refine o_mv (nm .i64 (i)) rfl ?_
    refine n_index (xs) (i) Gd.none Wa_tE25 rfl rfl (by omega) ?_
    refine n_loadI (xs) (i) Gd.none Wa_tS3 rfl (by omega) ?_
    refine o_as (nm .i64 ((xs).getD (i) 0)) rfl ?_
    refine aops_end ?_
    refine hK3 _ ?_
    refine awp_ret ?_
    refine post_ret ⟨[(nm .i64 ((xs).getD (i) 0))], And.intro (AV.le_refl _) (trivial), rfl, ?_⟩
    rfl
  · refine awp_skip ?_
    refine hK1 _ ?_
    refine awp_seq fun K4 hK4 => ?_
    refine awp_region rfl ?_
    refine o_as (nm .i64 (0)) rfl ?_
    refine aops_end ?_
    refine hK4 _ ?_
    refine awp_ret ?_
    refine post_ret ⟨[(nm .i64 (0))], And.intro (AV.le_refl _) (trivial), rfl, ?_⟩
    exact congrArg (nm .i64) (getD_ge (by omega))

theorem c_rMore (m n : Nat) (hm : (digs m).length ≤ 1000000000) (hn : (digs n).length ≤ 1000000000) : ECalls cx 38 [(AV.sl 1 (ns .i64 (digs m))), (AV.sl 1 (ns .i64 (digs n)))] (.sl 1 (ns .i64 (dgn (moreN m n) (m + n)))) := by
  refine ecalls_of_awp Tryz.func38 (c := _) rfl (Nat.le_of_ble_eq_true rfl) ?_
  show awp cx 42 _ (postF cx Tryz.f38 _) ⟨[(0, (AV.sl 1 (ns .i64 (digs m)))), (1, (AV.sl 1 (ns .i64 (digs n))))], []⟩
  refine awp_bound (i := 0) rfl fun hb => ?_
  replace hb := n_bnd hb
  refine awp_bound (i := 1) rfl fun hb2 => ?_
  replace hb2 := n_bnd hb2
  refine awp_seq fun K0 hK0 => ?_
  refine awp_region rfl ?_
  refine o_as (AV.lit (.slice none 0 0)) rfl ?_
  refine aops_end ?_
  refine hK0 _ ?_
  refine awp_seq fun K1 hK1 => ?_
  refine awp_region rfl ?_
  refine o_as (AV.lit (.slice none 0 0)) rfl ?_
  refine aops_end ?_
  refine hK1 _ ?_
  refine awp_seq fun K2 hK2 => ?_
  refine awp_region rfl ?_
  refine o_as (nm .i64 (0)) rfl ?_
  refine aops_end ?_
  refine hK2 _ ?_
  refine awp_seq fun K3 hK3 => ?_
  refine awp_seq fun K4 hK4 => ?_
  refine awp_region rfl ?_
  refine o_as (nm .i64 (0)) rfl ?_
  refine aops_end ?_
  refine hK4 _ ?_
  refine awp_block ?_
  refine awp_loopR (fun κ σ => ∃ (i : Nat), ∃ (r : List Nat), ∃ (c : Nat), (r.length = i) ∧ (Dig r) ∧ (c ≤ 1) ∧ (val r + 1000000000 ^ i * c = val ((digs m).take i) + val ((digs n).take i)) ∧ (i ≤ max (digs m).length (digs n).length ∨ (i = max (digs m).length (digs n).length + 1 ∧ c = 0 ∧ 1000000000 ^ (max (digs m).length (digs n).length) ≤ m + n)) ∧ (max (digs m).length (digs n).length + 2 - i) = κ ∧ σ = ⟨[(0, (AV.sl 1 (ns .i64 (digs m)))), (1, (AV.sl 1 (ns .i64 (digs n)))), (5, (AV.row 3)), (6, (nm .i64 (c))), (7, (nm .i64 (i)))], [(3, (AO.row 3 1 (ns .i64 (r))))]⟩) ⟨_, _, ⟨0, [], 0, rfl, Dig.nil, (by omega), (by simp [val]), (Or.inl (by omega)), rfl, rfl⟩, ?wk0⟩ ?rd0
  case wk0 =>
    exact Wk.trans (Wk.newNil (i := 5) (id := 502) (e := 3) (sz := 1) rfl rfl (by decide)) (Wk.trans (Wk.sub (σ' := ⟨[(0, (AV.sl 1 (ns .i64 (digs m)))), (1, (AV.sl 1 (ns .i64 (digs n)))), (5, (AV.row 502)), (6, (nm .i64 (0))), (7, (nm .i64 (0)))], [(502, (AO.row 3 1 (ns .i64 ([]))))]⟩) (And.intro rfl (And.intro rfl (And.intro rfl (And.intro rfl (And.intro rfl (trivial)))))) (And.intro rfl (trivial))) (Wk.trans (Wk.ren (id := 502) (id' := 3) rfl) (Wk.sub (And.intro rfl (And.intro rfl (And.intro (by first | rfl | (simp)) (And.intro (by first | rfl | exact congrArg (nm _) (by omega) | exact nm_int (by omega) | exact nm_int (by simp [IntKind.wrap, IntKind.bits, IntKind.signed]; omega)) (And.intro (by first | rfl | exact congrArg (nm _) (by omega) | exact nm_int (by omega) | exact nm_int (by simp [IntKind.wrap, IntKind.bits, IntKind.signed]; omega)) (trivial)))))) (And.intro (by first | rfl | exact row_ns (by simp)) (trivial)))))
  rintro κ _ ⟨i, r, c, hl, hd, hc, hv, hi, rfl, rfl⟩
  have hA := Dig.getD (digs_dig m) i
  have hB := Dig.getD (digs_dig n) i
  refine awp_seq fun K5 hK5 => ?_
  refine awp_seq fun K6 hK6 => ?_
  refine awp_region rfl ?_
  refine o_mv (nm .i64 (i)) rfl ?_
  refine o_mv (AV.sl 1 (ns .i64 (digs m))) rfl ?_
  refine n_len (digs m) Gd.none Wa_tU25 rfl ?_
  refine n_lss (i) ((digs m).length) Gd.none rfl rfl ?_
  refine o_mv (bp ((i) < ((digs m).length))) rfl ?_
  refine o_splitP (q := (i) < ((digs m).length)) 13 rfl (fun h1 => ?_) (fun h1 => ?_)
  · refine o_skip rfl rfl (decide_eq_true h1) ?_
    refine o_skip rfl rfl (decide_eq_true h1) ?_
    refine o_skip rfl rfl (decide_eq_true h1) ?_
    refine o_skip rfl rfl (decide_eq_true h1) ?_
    refine o_pickT (AV.lit (.bool true)) Gd.none rfl (decide_eq_true h1) rfl ?_
    refine o_mv (AV.lit (.bool true)) rfl ?_
    refine o_skip rfl rfl rfl ?_
    refine o_skip rfl rfl rfl ?_
    refine o_pickT (AV.lit (.bool true)) Gd.none rfl rfl rfl ?_
    refine aops_end ?_
    refine hK6 _ ?_
    refine awp_condB (b := true) rfl (fun _ => ?_) (fun hh => absurd (hh.symm.trans rfl) (by decide))
    refine awp_skip ?_
    refine hK5 _ ?_
    refine awp_seq fun K7 hK7 => ?_
    refine awp_block ?_
    refine awp_seq fun K8 hK8 => ?_
    refine awp_region rfl ?_
    refine o_mv (AV.sl 1 (ns .i64 (digs m))) rfl ?_
    refine o_mv (nm .i64 (i)) rfl ?_
    refine o_ct (c_rPart (digs m) (i)) Gd.none Wa_tC41 rfl ?_
    refine o_mv (AV.sl 1 (ns .i64 (digs n))) rfl ?_
    refine o_mv (nm .i64 (i)) rfl ?_
    refine o_ct (c_rPart (digs n) (i)) Gd.none Wa_tC41 rfl ?_
    refine n_add ((digs m).getD (i) 0) ((digs n).getD (i) 0) Gd.none rfl rfl (by simp only [topOf]; omega) ?_
    refine o_mv (nm .i64 (c)) rfl ?_
    refine n_add (((digs m).getD (i) 0) + ((digs n).getD (i) 0)) (c) Gd.none rfl rfl (by simp only [topOf]; omega) ?_
    refine o_as (nm .i64 ((((digs m).getD (i) 0) + ((digs n).getD (i) 0)) + (c))) rfl ?_
    refine aops_end ?_
    refine hK8 _ ?_
    refine awp_seq fun K9 hK9 => ?_
    refine awp_region rfl ?_
    refine o_mv (AV.row 3) rfl ?_
    refine o_mv (nm .i64 ((((digs m).getD (i) 0) + ((digs n).getD (i) 0)) + (c))) rfl ?_
    refine n_rem ((((digs m).getD (i) 0) + ((digs n).getD (i) 0)) + (c)) (1000000000) Gd.none rfl rfl (by omega) ?_
    refine o_buildSlice 101 (ns .i64 ([((((digs m).getD (i) 0) + ((digs n).getD (i) 0)) + (c)) % (1000000000)])) [(0, [(nm .i64 (((((digs m).getD (i) 0) + ((digs n).getD (i) 0)) + (c)) % (1000000000)))])] Gd.none Wa_tE25 rfl Wa_tO3 rfl rfl rfl rfl rfl rfl rfl ?_
    refine n_append 102 (r) ([((((digs m).getD (i) 0) + ((digs n).getD (i) 0)) + (c)) % (1000000000)]) [(101, (AO.row 3 1 (ns .i64 ([((((digs m).getD (i) 0) + ((digs n).getD (i) 0)) + (c)) % (1000000000)]))))] Gd.none Wa_tE25 Wa_tO3 rfl rfl rfl rfl rfl (by simp only [List.length_append, List.length_cons, List.length_nil]; omega) (by decide) rfl rfl ?_
    refine o_as (AV.row 102) rfl ?_
    refine aops_end ?_
    refine hK9 _ ?_
    refine awp_region rfl ?_
    refine o_mv (nm .i64 ((((digs m).getD (i) 0) + ((digs n).getD (i) 0)) + (c))) rfl ?_
    refine n_quo ((((digs m).getD (i) 0) + ((digs n).getD (i) 0)) + (c)) (1000000000) Gd.none rfl rfl (by omega) (by simp only [topOf]; omega) ?_
    refine o_as (nm .i64 (((((digs m).getD (i) 0) + ((digs n).getD (i) 0)) + (c)) / (1000000000))) rfl ?_
    refine aops_end ?_
    refine hK7 _ ?_
    refine awp_region rfl ?_
    refine o_mv (nm .i64 (i)) rfl ?_
    refine n_add (i) (1) Gd.none rfl rfl (by simp only [topOf]; omega) ?_
    refine o_as (nm .i64 ((i) + (1))) rfl ?_
    refine aops_end ?_
    refine ⟨_, _, ?lt, ⟨i + 1, (r) ++ ([((((digs m).getD (i) 0) + ((digs n).getD (i) 0)) + (c)) % (1000000000)]), ((((digs m).getD (i) 0) + ((digs n).getD (i) 0)) + (c)) / (1000000000), (by simp [hl]), (hd.snoc (Nat.mod_lt _ (by decide))), (by omega), (add_step hl hv rfl), (more_hi hc hv hi (by omega)), rfl, rfl⟩, ?wk⟩
    case lt => omega
    case wk => exact Wk.trans (Wk.sub (σ' := ⟨[(0, (AV.sl 1 (ns .i64 (digs m)))), (1, (AV.sl 1 (ns .i64 (digs n)))), (5, (AV.row 102)), (6, (nm .i64 (((((digs m).getD (i) 0) + ((digs n).getD (i) 0)) + (c)) / (1000000000)))), (7, (nm .i64 ((i) + (1))))], [(102, (AO.row 3 1 (ns .i64 ((r) ++ ([((((digs m).getD (i) 0) + ((digs n).getD (i) 0)) + (c)) % (1000000000)])))))]⟩) (And.intro rfl (And.intro rfl (And.intro rfl (And.intro rfl (And.intro rfl (trivial)))))) (And.intro rfl (trivial))) (Wk.trans (Wk.ren (id := 102) (id' := 3) rfl) (Wk.sub (And.intro rfl (And.intro rfl (And.intro (by first | rfl | (simp)) (And.intro (by first | rfl | exact congrArg (nm _) (by omega) | exact nm_int (by omega) | exact nm_int (by simp [IntKind.wrap, IntKind.bits, IntKind.signed]; omega)) (And.intro (by first | rfl | exact congrArg (nm _) (by omega) | exact nm_int (by omega) | exact nm_int (by simp [IntKind.wrap, IntKind.bits, IntKind.signed]; omega)) (trivial)))))) (And.intro (by first | rfl | exact row_ns (by simp)) (trivial))))
  · refine o_move (nm .i64 (i)) (Gd.yes rfl rfl (decide_eq_false h1)) rfl ?_
    refine o_move (AV.sl 1 (ns .i64 (digs n))) (Gd.yes rfl rfl (decide_eq_false h1)) rfl ?_
    refine n_len (digs n) (Gd.yes rfl rfl (decide_eq_false h1)) Wa_tU25 rfl ?_
    refine n_lss (i) ((digs n).length) (Gd.yes rfl rfl (decide_eq_false h1)) rfl rfl ?_
    refine o_pickF (bp ((i) < ((digs n).length))) Gd.none rfl (decide_eq_false h1) rfl ?_
    refine o_mv (bp ((i) < ((digs n).length))) rfl ?_
    refine o_splitP (q := (i) < ((digs n).length)) 19 rfl (fun h2 => ?_) (fun h2 => ?_)
    · refine o_skip rfl rfl (decide_eq_true h2) ?_
      refine o_skip rfl rfl (decide_eq_true h2) ?_
      refine o_pickT (AV.lit (.bool true)) Gd.none rfl (decide_eq_true h2) rfl ?_
      refine aops_end ?_
      refine hK6 _ ?_
      refine awp_condB (b := true) rfl (fun _ => ?_) (fun hh => absurd (hh.symm.trans rfl) (by decide))
      refine awp_skip ?_
      refine hK5 _ ?_
      refine awp_seq fun K10 hK10 => ?_
      refine awp_block ?_
      refine awp_seq fun K11 hK11 => ?_
      refine awp_region rfl ?_
      refine o_mv (AV.sl 1 (ns .i64 (digs m))) rfl ?_
      refine o_mv (nm .i64 (i)) rfl ?_
      refine o_ct (c_rPart (digs m) (i)) Gd.none Wa_tC41 rfl ?_
      refine o_mv (AV.sl 1 (ns .i64 (digs n))) rfl ?_
      refine o_mv (nm .i64 (i)) rfl ?_
      refine o_ct (c_rPart (digs n) (i)) Gd.none Wa_tC41 rfl ?_
      refine n_add ((digs m).getD (i) 0) ((digs n).getD (i) 0) Gd.none rfl rfl (by simp only [topOf]; omega) ?_
      refine o_mv (nm .i64 (c)) rfl ?_
      refine n_add (((digs m).getD (i) 0) + ((digs n).getD (i) 0)) (c) Gd.none rfl rfl (by simp only [topOf]; omega) ?_
      refine o_as (nm .i64 ((((digs m).getD (i) 0) + ((digs n).getD (i) 0)) + (c))) rfl ?_
      refine aops_end ?_
      refine hK11 _ ?_
      refine awp_seq fun K12 hK12 => ?_
      refine awp_region rfl ?_
      refine o_mv (AV.row 3) rfl ?_
      refine o_mv (nm .i64 ((((digs m).getD (i) 0) + ((digs n).getD (i) 0)) + (c))) rfl ?_
      refine n_rem ((((digs m).getD (i) 0) + ((digs n).getD (i) 0)) + (c)) (1000000000) Gd.none rfl rfl (by omega) ?_
      refine o_buildSlice 101 (ns .i64 ([((((digs m).getD (i) 0) + ((digs n).getD (i) 0)) + (c)) % (1000000000)])) [(0, [(nm .i64 (((((digs m).getD (i) 0) + ((digs n).getD (i) 0)) + (c)) % (1000000000)))])] Gd.none Wa_tE25 rfl Wa_tO3 rfl rfl rfl rfl rfl rfl rfl ?_
      refine n_append 102 (r) ([((((digs m).getD (i) 0) + ((digs n).getD (i) 0)) + (c)) % (1000000000)]) [(101, (AO.row 3 1 (ns .i64 ([((((digs m).getD (i) 0) + ((digs n).getD (i) 0)) + (c)) % (1000000000)]))))] Gd.none Wa_tE25 Wa_tO3 rfl rfl rfl rfl rfl (by simp only [List.length_append, List.length_cons, List.length_nil]; omega) (by decide) rfl rfl ?_
      refine o_as (AV.row 102) rfl ?_
      refine aops_end ?_
      refine hK12 _ ?_
      refine awp_region rfl ?_
      refine o_mv (nm .i64 ((((digs m).getD (i) 0) + ((digs n).getD (i) 0)) + (c))) rfl ?_
      refine n_quo ((((digs m).getD (i) 0) + ((digs n).getD (i) 0)) + (c)) (1000000000) Gd.none rfl rfl (by omega) (by simp only [topOf]; omega) ?_
      refine o_as (nm .i64 (((((digs m).getD (i) 0) + ((digs n).getD (i) 0)) + (c)) / (1000000000))) rfl ?_
      refine aops_end ?_
      refine hK10 _ ?_
      refine awp_region rfl ?_
      refine o_mv (nm .i64 (i)) rfl ?_
      refine n_add (i) (1) Gd.none rfl rfl (by simp only [topOf]; omega) ?_
      refine o_as (nm .i64 ((i) + (1))) rfl ?_
      refine aops_end ?_
      refine ⟨_, _, ?lt, ⟨i + 1, (r) ++ ([((((digs m).getD (i) 0) + ((digs n).getD (i) 0)) + (c)) % (1000000000)]), ((((digs m).getD (i) 0) + ((digs n).getD (i) 0)) + (c)) / (1000000000), (by simp [hl]), (hd.snoc (Nat.mod_lt _ (by decide))), (by omega), (add_step hl hv rfl), (more_hi hc hv hi (by omega)), rfl, rfl⟩, ?wk⟩
      case lt => omega
      case wk => exact Wk.trans (Wk.sub (σ' := ⟨[(0, (AV.sl 1 (ns .i64 (digs m)))), (1, (AV.sl 1 (ns .i64 (digs n)))), (5, (AV.row 102)), (6, (nm .i64 (((((digs m).getD (i) 0) + ((digs n).getD (i) 0)) + (c)) / (1000000000)))), (7, (nm .i64 ((i) + (1))))], [(102, (AO.row 3 1 (ns .i64 ((r) ++ ([((((digs m).getD (i) 0) + ((digs n).getD (i) 0)) + (c)) % (1000000000)])))))]⟩) (And.intro rfl (And.intro rfl (And.intro rfl (And.intro rfl (And.intro rfl (trivial)))))) (And.intro rfl (trivial))) (Wk.trans (Wk.ren (id := 102) (id' := 3) rfl) (Wk.sub (And.intro rfl (And.intro rfl (And.intro (by first | rfl | (simp)) (And.intro (by first | rfl | exact congrArg (nm _) (by omega) | exact nm_int (by omega) | exact nm_int (by simp [IntKind.wrap, IntKind.bits, IntKind.signed]; omega)) (And.intro (by first | rfl | exact congrArg (nm _) (by omega) | exact nm_int (by omega) | exact nm_int (by simp [IntKind.wrap, IntKind.bits, IntKind.signed]; omega)) (trivial)))))) (And.intro (by first | rfl | exact row_ns (by simp)) (trivial))))
    · refine o_move (nm .i64 (c)) (Gd.yes rfl rfl (decide_eq_false h2)) rfl ?_
      refine n_gtr (c) (0) (Gd.yes rfl rfl (decide_eq_false h2)) rfl rfl ?_
      refine o_pickF (bp ((0) < (c))) Gd.none rfl (decide_eq_false h2) rfl ?_
      refine aops_end ?_
      refine hK6 _ ?_
      refine awp_condQ (q := (0) < (c)) rfl (fun h3 => ?_) (fun h3 => ?_)
      · refine awp_skip ?_
        refine hK5 _ ?_
        refine awp_seq fun K13 hK13 => ?_
        refine awp_block ?_
        refine awp_seq fun K14 hK14 => ?_
        refine awp_region rfl ?_
        refine o_mv (AV.sl 1 (ns .i64 (digs m))) rfl ?_
        refine o_mv (nm .i64 (i)) rfl ?_
        refine o_ct (c_rPart (digs m) (i)) Gd.none Wa_tC41 rfl ?_
        refine o_mv (AV.sl 1 (ns .i64 (digs n))) rfl ?_
        refine o_mv (nm .i64 (i)) rfl ?_
        refine o_ct (c_rPart (digs n) (i)) Gd.none Wa_tC41 rfl ?_
        refine n_add ((digs m).getD (i) 0) ((digs n).getD (i) 0) Gd.none rfl rfl (by simp only [topOf]; omega) ?_
        refine o_mv (nm .i64 (c)) rfl ?_
        refine n_add (((digs m).getD (i) 0) + ((digs n).getD (i) 0)) (c) Gd.none rfl rfl (by simp only [topOf]; omega) ?_
        refine o_as (nm .i64 ((((digs m).getD (i) 0) + ((digs n).getD (i) 0)) + (c))) rfl ?_
        refine aops_end ?_
        refine hK14 _ ?_
        refine awp_seq fun K15 hK15 => ?_
        refine awp_region rfl ?_
        refine o_mv (AV.row 3) rfl ?_
        refine o_mv (nm .i64 ((((digs m).getD (i) 0) + ((digs n).getD (i) 0)) + (c))) rfl ?_
        refine n_rem ((((digs m).getD (i) 0) + ((digs n).getD (i) 0)) + (c)) (1000000000) Gd.none rfl rfl (by omega) ?_
        refine o_buildSlice 101 (ns .i64 ([((((digs m).getD (i) 0) + ((digs n).getD (i) 0)) + (c)) % (1000000000)])) [(0, [(nm .i64 (((((digs m).getD (i) 0) + ((digs n).getD (i) 0)) + (c)) % (1000000000)))])] Gd.none Wa_tE25 rfl Wa_tO3 rfl rfl rfl rfl rfl rfl rfl ?_
        refine n_append 102 (r) ([((((digs m).getD (i) 0) + ((digs n).getD (i) 0)) + (c)) % (1000000000)]) [(101, (AO.row 3 1 (ns .i64 ([((((digs m).getD (i) 0) + ((digs n).getD (i) 0)) + (c)) % (1000000000)]))))] Gd.none Wa_tE25 Wa_tO3 rfl rfl rfl rfl rfl (by simp only [List.length_append, List.length_cons, List.length_nil]; omega) (by decide) rfl rfl ?_
        refine o_as (AV.row 102) rfl ?_
        refine aops_end ?_
        refine hK15 _ ?_
        refine awp_region rfl ?_
        refine o_mv (nm .i64 ((((digs m).getD (i) 0) + ((digs n).getD (i) 0)) + (c))) rfl ?_
        refine n_quo ((((digs m).getD (i) 0) + ((digs n).getD (i) 0)) + (c)) (1000000000) Gd.none rfl rfl (by omega) (by simp only [topOf]; omega) ?_
        refine o_as (nm .i64 (((((digs m).getD (i) 0) + ((digs n).getD (i) 0)) + (c)) / (1000000000))) rfl ?_
        refine aops_end ?_
        refine hK13 _ ?_
        refine awp_region rfl ?_
        refine o_mv (nm .i64 (i)) rfl ?_
        refine n_add (i) (1) Gd.none rfl rfl (by simp only [topOf]; omega) ?_
        refine o_as (nm .i64 ((i) + (1))) rfl ?_
        refine aops_end ?_
        refine ⟨_, _, ?lt, ⟨i + 1, (r) ++ ([((((digs m).getD (i) 0) + ((digs n).getD (i) 0)) + (c)) % (1000000000)]), ((((digs m).getD (i) 0) + ((digs n).getD (i) 0)) + (c)) / (1000000000), (by simp [hl]), (hd.snoc (Nat.mod_lt _ (by decide))), (by omega), (add_step hl hv rfl), (more_hi hc hv hi (by omega)), rfl, rfl⟩, ?wk⟩
        case lt => omega
        case wk => exact Wk.trans (Wk.sub (σ' := ⟨[(0, (AV.sl 1 (ns .i64 (digs m)))), (1, (AV.sl 1 (ns .i64 (digs n)))), (5, (AV.row 102)), (6, (nm .i64 (((((digs m).getD (i) 0) + ((digs n).getD (i) 0)) + (c)) / (1000000000)))), (7, (nm .i64 ((i) + (1))))], [(102, (AO.row 3 1 (ns .i64 ((r) ++ ([((((digs m).getD (i) 0) + ((digs n).getD (i) 0)) + (c)) % (1000000000)])))))]⟩) (And.intro rfl (And.intro rfl (And.intro rfl (And.intro rfl (And.intro rfl (trivial)))))) (And.intro rfl (trivial))) (Wk.trans (Wk.ren (id := 102) (id' := 3) rfl) (Wk.sub (And.intro rfl (And.intro rfl (And.intro (by first | rfl | (simp)) (And.intro (by first | rfl | exact congrArg (nm _) (by omega) | exact nm_int (by omega) | exact nm_int (by simp [IntKind.wrap, IntKind.bits, IntKind.signed]; omega)) (And.intro (by first | rfl | exact congrArg (nm _) (by omega) | exact nm_int (by omega) | exact nm_int (by simp [IntKind.wrap, IntKind.bits, IntKind.signed]; omega)) (trivial)))))) (And.intro (by first | rfl | exact row_ns (by simp)) (trivial))))
      · refine awp_exit ?_
        refine hK3 _ ?_
        refine awp_seq fun K16 hK16 => ?_
        refine awp_region rfl ?_
        refine o_mv (AV.row 3) rfl ?_
        refine o_as (AV.row 3) rfl ?_
        refine aops_end ?_
        refine hK16 _ ?_
        refine awp_wk (σ' := ⟨[(4, (AV.row 3))], [(3, (AO.row 3 1 (ns .i64 (r))))]⟩) (Wk.sub (And.intro rfl (trivial)) (And.intro rfl (trivial))) ?_
        refine awp_wk (σ' := ⟨[(4, (AV.sl 1 (ns .i64 (r))))], []⟩) (Wk.freeze (id := 3) (e := 3) (sz := 1) (cs := (ns .i64 (r))) rfl) ?_
        refine awp_ret ?_
        refine post_ret ⟨[(AV.sl 1 (ns .i64 (r)))], And.intro (AV.le_refl _) (trivial), rfl, ?_⟩
        have hc0 : c = 0 := by omega
        subst hc0
        exact ns_congr (more_fin hl hd (by omega) (by omega) hv (by rcases hi with h | ⟨h, _, h'⟩; exact Or.inl h; exact Or.inr ⟨h, h'⟩)).symm

theorem c_rLess (m n : Nat) (hnm : n ≤ m) (hm : (digs m).length ≤ 1000000000) (hn : (digs n).length ≤ 1000000000) : ECalls cx 40 [(AV.sl 1 (ns .i64 (digs m))), (AV.sl 1 (ns .i64 (digs n)))] (.sl 1 (ns .i64 (dgn (digs m).length (m - n)))) := by
  refine ecalls_of_awp Tryz.func40 (c := _) rfl (Nat.le_of_ble_eq_true rfl) ?_
  show awp cx 34 _ (postF cx Tryz.f40 _) ⟨[(0, (AV.sl 1 (ns .i64 (digs m)))), (1, (AV.sl 1 (ns .i64 (digs n))))], []⟩
  refine awp_bound (i := 0) rfl fun hb => ?_
  replace hb := n_bnd hb
  refine awp_bound (i := 1) rfl fun hb2 => ?_
  replace hb2 := n_bnd hb2
  refine awp_seq fun K0 hK0 => ?_
  refine awp_region rfl ?_
  refine o_as (AV.lit (.slice none 0 0)) rfl ?_
  refine aops_end ?_
  refine hK0 _ ?_
  refine awp_seq fun K1 hK1 => ?_
  refine awp_region rfl ?_
  refine o_as (AV.lit (.slice none 0 0)) rfl ?_
  refine aops_end ?_
  refine hK1 _ ?_
  refine awp_seq fun K2 hK2 => ?_
  refine awp_region rfl ?_
  refine o_as (nm .i64 (0)) rfl ?_
  refine aops_end ?_
  refine hK2 _ ?_
  refine awp_seq fun K3 hK3 => ?_
  refine awp_seq fun K4 hK4 => ?_
  refine awp_region rfl ?_
  refine o_as (nm .i64 (0)) rfl ?_
  refine aops_end ?_
  refine hK4 _ ?_
  refine awp_block ?_
  refine awp_loopR (fun κ σ => ∃ (i : Nat), ∃ (r : List Nat), ∃ (c : Nat), (r.length = i) ∧ (i ≤ (digs m).length) ∧ (Dig r) ∧ (c ≤ 1) ∧ (val r + val ((digs n).take i) = val ((digs m).take i) + 1000000000 ^ i * c) ∧ ((digs m).length - i) = κ ∧ σ = ⟨[(0, (AV.sl 1 (ns .i64 (digs m)))), (1, (AV.sl 1 (ns .i64 (digs n)))), (5, (AV.row 3)), (6, (nm .i64 (c))), (7, (nm .i64 (i)))], [(3, (AO.row 3 1 (ns .i64 (r))))]⟩) ⟨_, _, ⟨0, [], 0, rfl, (by omega), Dig.nil, (by omega), (by simp [val]), rfl, rfl⟩, ?wk0⟩ ?rd0
  case wk0 =>
    exact Wk.trans (Wk.newNil (i := 5) (id := 502) (e := 3) (sz := 1) rfl rfl (by decide)) (Wk.trans (Wk.sub (σ' := ⟨[(0, (AV.sl 1 (ns .i64 (digs m)))), (1, (AV.sl 1 (ns .i64 (digs n)))), (5, (AV.row 502)), (6, (nm .i64 (0))), (7, (nm .i64 (0)))], [(502, (AO.row 3 1 (ns .i64 ([]))))]⟩) (And.intro rfl (And.intro rfl (And.intro rfl (And.intro rfl (And.intro rfl (trivial)))))) (And.intro rfl (trivial))) (Wk.trans (Wk.ren (id := 502) (id' := 3) rfl) (Wk.sub (And.intro rfl (And.intro rfl (And.intro (by first | rfl | (simp)) (And.intro (by first | rfl | exact congrArg (nm _) (by omega) | exact nm_int (by omega) | exact nm_int (by simp [IntKind.wrap, IntKind.bits, IntKind.signed]; omega)) (And.intro (by first | rfl | exact congrArg (nm _) (by omega) | exact nm_int (by omega) | exact nm_int (by simp [IntKind.wrap, IntKind.bits, IntKind.signed]; omega)) (trivial)))))) (And.intro (by first | rfl | exact row_ns (by simp)) (trivial)))))
  rintro κ _ ⟨i, r, c, hl, hi, hd, hc, hv, rfl, rfl⟩
  have hA := Dig.getD (digs_dig m) i
  have hB := Dig.getD (digs_dig n) i
  refine awp_seq fun K5 hK5 => ?_
  refine awp_seq fun K6 hK6 => ?_
  refine awp_region rfl ?_
  refine o_mv (nm .i64 (i)) rfl ?_
  refine o_mv (AV.sl 1 (ns .i64 (digs m))) rfl ?_
  refine n_len (digs m) Gd.none Wa_tU25 rfl ?_
  refine n_lss (i) ((digs m).length) Gd.none rfl rfl ?_
  refine aops_end ?_
  refine hK6 _ ?_
  refine awp_condQ (q := (i) < ((digs m).length)) rfl (fun h1 => ?_) (fun h1 => ?_)
  · refine awp_skip ?_
    refine hK5 _ ?_
    refine awp_seq fun K7 hK7 => ?_
    refine awp_block ?_
    refine awp_seq fun K8 hK8 => ?_
    refine awp_regionD rfl ?_
    refine o_mv (AV.sl 1 (ns .i64 (digs m))) rfl ?_
    refine o_mv (nm .i64 (i)) rfl ?_
    refine n_index (digs m) (i) Gd.none Wa_tE25 rfl rfl (by omega) ?_
    refine n_loadI (digs m) (i) Gd.none Wa_tS3 rfl (by omega) ?_
    refine o_mv (AV.sl 1 (ns .i64 (digs n))) rfl ?_
    refine o_mv (nm .i64 (i)) rfl ?_
    refine o_ct (c_rPart (digs n) (i)) Gd.none Wa_tC41 rfl ?_
    refine o_sub (a := ((((digs m).getD (i) 0 : Nat) : Int))) (c := ((((digs n).getD (i) 0 : Nat) : Int))) Gd.none rfl rfl (by exact wrap64 (by omega) (by omega)) ?_
    refine o_mv (nm .i64 (c)) rfl ?_
    refine o_sub (a := (((((digs m).getD (i) 0 : Nat) : Int)) - ((((digs n).getD (i) 0 : Nat) : Int)))) (c := (((c : Nat) : Int))) Gd.none rfl rfl (by exact wrap64 (by omega) (by omega)) ?_
    refine o_as (AV.lit (.int .i64 ((((((digs m).getD (i) 0 : Nat) : Int)) - ((((digs n).getD (i) 0 : Nat) : Int))) - (((c : Nat) : Int))))) rfl ?_
    refine aops_end ⟨by kernel_rfl, ?_⟩
    refine hK8 _ ?_
    refine awp_seq fun K9 hK9 => ?_
    refine awp_region rfl ?_
    refine o_as (nm .i64 (0)) rfl ?_
    refine aops_end ?_
    refine hK9 _ ?_
    refine awp_seqJ (J := fun σ => ∃ (x : Nat), ∃ (c' : Nat), (x + ((digs n).getD (i) 0) + c = ((digs m).getD (i) 0) + 1000000000 * c') ∧ (x < 1000000000) ∧ (c' ≤ 1) ∧ True ∧ σ = ⟨[(0, (AV.sl 1 (ns .i64 (digs m)))), (1, (AV.sl 1 (ns .i64 (digs n)))), (5, (AV.row 3)), (6, (nm .i64 (c'))), (7, (nm .i64 (i))), (8, (nm .i64 (x)))], [(3, (AO.row 3 1 (ns .i64 (r))))]⟩) ?ja1 ?jb1
    case ja1 =>
      refine awp_seq fun K10 hK10 => ?_
      refine awp_region rfl ?_
      refine o_mv (AV.lit (.int .i64 ((((((digs m).getD (i) 0 : Nat) : Int)) - ((((digs n).getD (i) 0 : Nat) : Int))) - (((c : Nat) : Int))))) rfl ?_
      refine o_lss (a := ((((((digs m).getD (i) 0 : Nat) : Int)) - ((((digs n).getD (i) 0 : Nat) : Int))) - (((c : Nat) : Int)))) (c := (((0 : Nat) : Int))) Gd.none rfl rfl ?_
      refine aops_end ?_
      refine hK10 _ ?_
      refine awp_condQ (q := ((((((digs m).getD (i) 0 : Nat) : Int)) - ((((digs n).getD (i) 0 : Nat) : Int))) - (((c : Nat) : Int))) < (((0 : Nat) : Int))) rfl (fun h2 => ?_) (fun h2 => ?_)
      · refine awp_seq fun K11 hK11 => ?_
        refine awp_region rfl ?_
        refine o_mv (AV.lit (.int .i64 ((((((digs m).getD (i) 0 : Nat) : Int)) - ((((digs n).getD (i) 0 : Nat) : Int))) - (((c : Nat) : Int))))) rfl ?_
        refine o_add (a := ((((((digs m).getD (i) 0 : Nat) : Int)) - ((((digs n).getD (i) 0 : Nat) : Int))) - (((c : Nat) : Int)))) (c := (((1000000000 : Nat) : Int))) Gd.none rfl rfl (by exact wrap64 (by omega) (by omega)) ?_
        refine o_as (AV.lit (.int .i64 (((((((digs m).getD (i) 0 : Nat) : Int)) - ((((digs n).getD (i) 0 : Nat) : Int))) - (((c : Nat) : Int))) + (((1000000000 : Nat) : Int))))) rfl ?_
        refine aops_end ?_
        refine hK11 _ ?_
        refine awp_region rfl ?_
        refine o_as (nm .i64 (1)) rfl ?_
        refine aops_end ?_
        exact ⟨_, ⟨((digs m).getD (i) 0) + 1000000000 - ((digs n).getD (i) 0) - c, 1, (by omega), (by omega), (by omega), trivial, rfl⟩, Wk.sub (And.intro rfl (And.intro rfl (And.intro rfl (And.intro (by first | rfl | exact congrArg (nm _) (by omega) | exact nm_int (by omega) | exact nm_int (by simp [IntKind.wrap, IntKind.bits, IntKind.signed]; omega)) (And.intro rfl (And.intro (by first | rfl | exact congrArg (nm _) (by omega) | exact nm_int (by omega) | exact nm_int (by simp [IntKind.wrap, IntKind.bits, IntKind.signed]; omega)) (trivial))))))) (And.intro rfl (trivial))⟩
      · refine awp_skip ?_
        exact ⟨_, ⟨((digs m).getD (i) 0) - ((digs n).getD (i) 0) - c, 0, (by omega), (by omega), (by omega), trivial, rfl⟩, Wk.sub (And.intro rfl (And.intro rfl (And.intro rfl (And.intro (by first | rfl | exact congrArg (nm _) (by omega) | exact nm_int (by omega) | exact nm_int (by simp [IntKind.wrap, IntKind.bits, IntKind.signed]; omega)) (And.intro rfl (And.intro (by first | rfl | exact congrArg (nm _) (by omega) | exact nm_int (by omega) | exact nm_int (by simp [IntKind.wrap, IntKind.bits, IntKind.signed]; omega)) (trivial))))))) (And.intro rfl (trivial))⟩
    rintro _ ⟨x, c', hs, hx, hc', -, rfl⟩
    refine awp_region rfl ?_
    refine o_mv (AV.row 3) rfl ?_
    refine o_mv (nm .i64 (x)) rfl ?_
    refine o_buildSlice 201 (ns .i64 ([x])) [(0, [(nm .i64 (x))])] Gd.none Wa_tE25 rfl Wa_tO3 rfl rfl rfl rfl rfl rfl rfl ?_
    refine n_append 202 (r) ([x]) [(201, (AO.row 3 1 (ns .i64 ([x]))))] Gd.none Wa_tE25 Wa_tO3 rfl rfl rfl rfl rfl (by simp only [List.length_append, List.length_cons, List.length_nil]; omega) (by decide) rfl rfl ?_
    refine o_as (AV.row 202) rfl ?_
    refine aops_end ?_
    refine hK7 _ ?_
    refine awp_region rfl ?_
    refine o_mv (nm .i64 (i)) rfl ?_
    refine n_add (i) (1) Gd.none rfl rfl (by simp only [topOf]; omega) ?_
    refine o_as (nm .i64 ((i) + (1))) rfl ?_
    refine aops_end ?_
    refine ⟨_, _, ?lt, ⟨i + 1, (r) ++ ([x]), c', (by simp [hl]), (by omega), (hd.snoc hx), hc', (sub_step hl hv hs), rfl, rfl⟩, ?wk⟩
    case lt => omega
    case wk => exact Wk.trans (Wk.sub (σ' := ⟨[(0, (AV.sl 1 (ns .i64 (digs m)))), (1, (AV.sl 1 (ns .i64 (digs n)))), (5, (AV.row 202)), (6, (nm .i64 (c'))), (7, (nm .i64 ((i) + (1))))], [(202, (AO.row 3 1 (ns .i64 ((r) ++ ([x])))))]⟩) (And.intro rfl (And.intro rfl (And.intro rfl (And.intro rfl (And.intro rfl (trivial)))))) (And.intro rfl (trivial))) (Wk.trans (Wk.ren (id := 202) (id' := 3) rfl) (Wk.sub (And.intro rfl (And.intro rfl (And.intro (by first | rfl | (simp)) (And.intro (by first | rfl | exact congrArg (nm _) (by omega) | exact nm_int (by omega) | exact nm_int (by simp [IntKind.wrap, IntKind.bits, IntKind.signed]; omega)) (And.intro (by first | rfl | exact congrArg (nm _) (by omega) | exact nm_int (by omega) | exact nm_int (by simp [IntKind.wrap, IntKind.bits, IntKind.signed]; omega)) (trivial)))))) (And.intro (by first | rfl | exact row_ns (by simp)) (trivial))))
  · refine awp_exit ?_
    refine hK3 _ ?_
    refine awp_seq fun K12 hK12 => ?_
    refine awp_region rfl ?_
    refine o_mv (AV.row 3) rfl ?_
    refine o_as (AV.row 3) rfl ?_
    refine aops_end ?_
    refine hK12 _ ?_
    refine awp_wk (σ' := ⟨[(4, (AV.row 3))], [(3, (AO.row 3 1 (ns .i64 (r))))]⟩) (Wk.sub (And.intro rfl (trivial)) (And.intro rfl (trivial))) ?_
    refine awp_wk (σ' := ⟨[(4, (AV.sl 1 (ns .i64 (r))))], []⟩) (Wk.freeze (id := 3) (e := 3) (sz := 1) (cs := (ns .i64 (r))) rfl) ?_
    refine awp_ret ?_
    refine post_ret ⟨[(AV.sl 1 (ns .i64 (r)))], And.intro (AV.le_refl _) (trivial), rfl, ?_⟩
    have hil : i = (digs m).length := by omega
    subst hil
    exact ns_congr (less_fin hl hd hnm hv).symm

theorem c_wPlus (m n : Nat) (hm : (digs m).length ≤ 1000000000) (hn : (digs n).length ≤ 1000000000) : ECalls cx 88 [(AV.sl 1 (ns .u32 (digs m))), (AV.sl 1 (ns .u32 (digs n)))] (.sl 1 (ns .u32 (dgn (max (digs m).length (digs n).length + 1) (m + n)))) := by
  refine ecalls_of_awp Tryz.func88 (c := _) rfl (Nat.le_of_ble_eq_true rfl) ?_
  show awp cx 53 _ (postF cx Tryz.f88 _) ⟨[(0, (AV.sl 1 (ns .u32 (digs m)))), (1, (AV.sl 1 (ns .u32 (digs n))))], []⟩
  refine awp_bound (i := 0) rfl fun hb => ?_
  replace hb := n_bnd hb
  refine awp_bound (i := 1) rfl fun hb2 => ?_
  replace hb2 := n_bnd hb2
  refine awp_seq fun K0 hK0 => ?_
  refine awp_region rfl ?_
  refine o_as (AV.lit (.slice none 0 0)) rfl ?_
  refine aops_end ?_
  refine hK0 _ ?_
  refine awp_seqJ (J := fun σ => ∃ (m' : Nat), ∃ (n' : Nat), (m' + n' = m + n) ∧ ((digs n').length ≤ (digs m').length) ∧ ((digs m').length = max (digs m).length (digs n).length) ∧ True ∧ σ = ⟨[(0, (AV.sl 1 (ns .u32 (digs m')))), (1, (AV.sl 1 (ns .u32 (digs n'))))], []⟩) ?ja0 ?jb0
  case ja0 =>
    refine awp_seq fun K1 hK1 => ?_
    refine awp_region rfl ?_
    refine o_mv (AV.sl 1 (ns .u32 (digs m))) rfl ?_
    refine n_len (digs m) Gd.none Wa_tU87 rfl ?_
    refine o_mv (AV.sl 1 (ns .u32 (digs n))) rfl ?_
    refine n_len (digs n) Gd.none Wa_tU87 rfl ?_
    refine n_lss ((digs m).length) ((digs n).length) Gd.none rfl rfl ?_
    refine aops_end ?_
    refine hK1 _ ?_
    refine awp_condQ (q := ((digs m).length) < ((digs n).length)) rfl (fun h1 => ?_) (fun h1 => ?_)
    · refine awp_region rfl ?_
      refine o_mv (AV.sl 1 (ns .u32 (digs n))) rfl ?_
      refine o_mv (AV.sl 1 (ns .u32 (digs m))) rfl ?_
      refine o_as (AV.sl 1 (ns .u32 (digs n))) rfl ?_
      refine o_as (AV.sl 1 (ns .u32 (digs m))) rfl ?_
      refine aops_end ?_
      exact ⟨_, ⟨n, m, (by omega), (by omega), (by omega), trivial, rfl⟩, Wk.sub (And.intro (by first | rfl | (simp)) (And.intro (by first | rfl | (simp)) (trivial))) (trivial)⟩
    · refine awp_skip ?_
      exact ⟨_, ⟨m, n, (by omega), (by omega), (by omega), trivial, rfl⟩, Wk.sub (And.intro (by first | rfl | (simp)) (And.intro (by first | rfl | (simp)) (trivial))) (trivial)⟩
  rintro _ ⟨m', n', hs, hle, hmx, -, rfl⟩
  refine awp_seq fun K2 hK2 => ?_
  refine awp_region rfl ?_
  refine o_mv (AV.sl 1 (ns .u32 (digs m'))) rfl ?_
  refine n_len (digs m') Gd.none Wa_tU87 rfl ?_
  refine n_add ((digs m').length) (1) Gd.none rfl rfl (by simp only [topOf]; omega) ?_
  refine n_make0 .u32 101 (((digs m').length) + (1)) Gd.none Wa_tE87 Wa_tO111 rfl rfl (by omega) (by omega) rfl ?_
  refine o_as (AV.row 101) rfl ?_
  refine aops_end ?_
  refine hK2 _ ?_
  refine awp_seq fun K3 hK3 => ?_
  refine awp_region rfl ?_
  refine o_as (nm .u32 (0)) rfl ?_
  refine aops_end ?_
  refine hK3 _ ?_
  refine awp_seq fun K4 hK4 => ?_
  refine awp_seq fun K5 hK5 => ?_
  refine awp_region rfl ?_
  refine o_mv (AV.sl 1 (ns .u32 (digs m'))) rfl ?_
  refine n_len (digs m') Gd.none Wa_tU87 rfl ?_
  refine o_mv (nm .i64 (0)) rfl ?_
  refine aops_end ?_
  refine hK5 _ ?_
  refine awp_block ?_
  refine awp_loopR (fun κ σ => ∃ (i : Nat), ∃ (r : List Nat), ∃ (c : Nat), (r.length = i) ∧ (i ≤ (digs m').length) ∧ (Dig r) ∧ (c ≤ 1) ∧ (val r + 1000000000 ^ i * c = val ((digs m').take i) + val ((digs n').take i)) ∧ ((digs m').length - i) = κ ∧ σ = ⟨[(0, (AV.sl 1 (ns .u32 (digs m')))), (1, (AV.sl 1 (ns .u32 (digs n')))), (5, (AV.row 3)), (6, (nm .u32 (c))), (21, (nm .i64 ((digs m').length))), (22, (nm .i64 (i)))], [(3, (AO.row 111 1 (ns .u32 (r))))]⟩) ⟨_, _, ⟨0, [], 0, rfl, (by omega), Dig.nil, (by omega), (by simp [val]), rfl, rfl⟩, ?wk1⟩ ?rd1
  case wk1 =>
    exact Wk.trans (Wk.sub (σ' := ⟨[(0, (AV.sl 1 (ns .u32 (digs m')))), (1, (AV.sl 1 (ns .u32 (digs n')))), (5, (AV.row 101)), (6, (nm .u32 (0))), (21, (nm .i64 ((digs m').length))), (22, (nm .i64 (0)))], [(101, (AO.row 111 1 (ns .u32 ([]))))]⟩) (And.intro rfl (And.intro rfl (And.intro rfl (And.intro rfl (And.intro rfl (And.intro rfl (trivial))))))) (And.intro rfl (trivial))) (Wk.trans (Wk.ren (id := 101) (id' := 3) rfl) (Wk.sub (And.intro rfl (And.intro rfl (And.intro (by first | rfl | (simp)) (And.intro (by first | rfl | exact congrArg (nm _) (by omega) | exact nm_int (by omega) | exact nm_int (by simp [IntKind.wrap, IntKind.bits, IntKind.signed]; omega)) (And.intro rfl (And.intro (by first | rfl | exact congrArg (nm _) (by omega) | exact nm_int (by omega) | exact nm_int (by simp [IntKind.wrap, IntKind.bits, IntKind.signed]; omega)) (trivial))))))) (And.intro (by first | rfl | exact row_ns (by simp)) (trivial))))
  rintro κ _ ⟨i, r, c, hl, hi, hd, hc, hv, rfl, rfl⟩
  have hA := Dig.getD (digs_dig m') i
  have hB := Dig.getD (digs_dig n') i
  refine awp_seq fun K6 hK6 => ?_
  refine awp_region rfl ?_
  refine n_lss (i) ((digs m').length) Gd.none rfl rfl ?_
  refine aops_end ?_
  refine hK6 _ ?_
  refine awp_seq fun K7 hK7 => ?_
  refine awp_condQ (q := (i) < ((digs m').length)) rfl (fun h2 => ?_) (fun h2 => ?_)
  · refine awp_skip ?_
    refine hK7 _ ?_
    refine awp_seq fun K8 hK8 => ?_
    refine awp_block ?_
    refine awp_seq fun K9 hK9 => ?_
    refine awp_region rfl ?_
    refine o_mv (nm .i64 (i)) rfl ?_
    refine o_as (nm .i64 (i)) rfl ?_
    refine aops_end ?_
    refine hK9 _ ?_
    refine awp_seq fun K10 hK10 => ?_
    refine awp_region rfl ?_
    refine o_mv (AV.sl 1 (ns .u32 (digs m'))) rfl ?_
    refine o_mv (nm .i64 (i)) rfl ?_
    refine n_index (digs m') (i) Gd.none Wa_tE87 rfl rfl (by omega) ?_
    refine n_loadI (digs m') (i) Gd.none Wa_tS111 rfl (by omega) ?_
    refine o_mv (nm .u32 (c)) rfl ?_
    refine n_add ((digs m').getD (i) 0) (c) Gd.none rfl rfl (by simp only [topOf]; omega) ?_
    refine o_as (nm .u32 (((digs m').getD (i) 0) + (c))) rfl ?_
    refine aops_end ?_
    refine hK10 _ ?_
    refine awp_seq fun K11 hK11 => ?_
    refine awp_seq fun K12 hK12 => ?_
    refine awp_region rfl ?_
    refine o_mv (nm .i64 (i)) rfl ?_
    refine o_mv (AV.sl 1 (ns .u32 (digs n'))) rfl ?_
    refine n_len (digs n') Gd.none Wa_tU87 rfl ?_
    refine n_lss (i) ((digs n').length) Gd.none rfl rfl ?_
    refine aops_end ?_
    refine hK12 _ ?_
    refine awp_condQ (q := (i) < ((digs n').length)) rfl (fun h3 => ?_) (fun h3 => ?_)
    · refine awp_region rfl ?_
      refine o_mv (nm .u32 (((digs m').getD (i) 0) + (c))) rfl ?_
      refine o_mv (AV.sl 1 (ns .u32 (digs n'))) rfl ?_
      refine o_mv (nm .i64 (i)) rfl ?_
      refine n_index (digs n') (i) Gd.none Wa_tE87 rfl rfl (by omega) ?_
      refine n_loadI (digs n') (i) Gd.none Wa_tS111 rfl (by omega) ?_
      refine n_add (((digs m').getD (i) 0) + (c)) ((digs n').getD (i) 0) Gd.none rfl rfl (by simp only [topOf]; omega) ?_
      refine o_as (nm .u32 ((((digs m').getD (i) 0) + (c)) + ((digs n').getD (i) 0))) rfl ?_
      refine aops_end ?_
      refine hK11 _ ?_
      refine awp_seq fun K13 hK13 => ?_
      refine awp_region rfl ?_
      refine o_mv (nm .u32 ((((digs m').getD (i) 0) + (c)) + ((digs n').getD (i) 0))) rfl ?_
      refine n_quo ((((digs m').getD (i) 0) + (c)) + ((digs n').getD (i) 0)) (1000000000) Gd.none rfl rfl (by omega) (by simp only [topOf]; omega) ?_
      refine o_as (nm .u32 (((((digs m').getD (i) 0) + (c)) + ((digs n').getD (i) 0)) / (1000000000))) rfl ?_
      refine aops_end ?_
      refine hK13 _ ?_
      refine awp_region rfl ?_
      refine o_mv (AV.row 3) rfl ?_
      refine o_mv (nm .u32 ((((digs m').getD (i) 0) + (c)) + ((digs n').getD (i) 0))) rfl ?_
      refine n_rem ((((digs m').getD (i) 0) + (c)) + ((digs n').getD (i) 0)) (1000000000) Gd.none rfl rfl (by omega) ?_
      refine o_buildSlice 201 (ns .u32 ([((((digs m').getD (i) 0) + (c)) + ((digs n').getD (i) 0)) % (1000000000)])) [(0, [(nm .u32 (((((digs m').getD (i) 0) + (c)) + ((digs n').getD (i) 0)) % (1000000000)))])] Gd.none Wa_tE87 rfl Wa_tO111 rfl rfl rfl rfl rfl rfl rfl ?_
      refine n_append 202 (r) ([((((digs m').getD (i) 0) + (c)) + ((digs n').getD (i) 0)) % (1000000000)]) [(201, (AO.row 111 1 (ns .u32 ([((((digs m').getD (i) 0) + (c)) + ((digs n').getD (i) 0)) % (1000000000)]))))] Gd.none Wa_tE87 Wa_tO111 rfl rfl rfl rfl rfl (by simp only [List.length_append, List.length_cons, List.length_nil]; omega) (by decide) rfl rfl ?_
      refine o_as (AV.row 202) rfl ?_
      refine aops_end ?_
      refine hK8 _ ?_
      refine awp_region rfl ?_
      refine n_add (i) (1) Gd.none rfl rfl (by simp only [topOf]; omega) ?_
      refine o_mv (nm .i64 ((i) + (1))) rfl ?_
      refine aops_end ?_
      refine ⟨_, _, ?lt, ⟨i + 1, (r) ++ ([((((digs m').getD (i) 0) + (c)) + ((digs n').getD (i) 0)) % (1000000000)]), ((((digs m').getD (i) 0) + (c)) + ((digs n').getD (i) 0)) / (1000000000), (by simp [hl]), (by omega), (hd.snoc (Nat.mod_lt _ (by decide))), (by omega), (add_step hl hv (by omega)), rfl, rfl⟩, ?wk⟩
      case lt => omega
      case wk => exact Wk.trans (Wk.sub (σ' := ⟨[(0, (AV.sl 1 (ns .u32 (digs m')))), (1, (AV.sl 1 (ns .u32 (digs n')))), (5, (AV.row 202)), (6, (nm .u32 (((((digs m').getD (i) 0) + (c)) + ((digs n').getD (i) 0)) / (1000000000)))), (21, (nm .i64 ((digs m').length))), (22, (nm .i64 ((i) + (1))))], [(202, (AO.row 111 1 (ns .u32 ((r) ++ ([((((digs m').getD (i) 0) + (c)) + ((digs n').getD (i) 0)) % (1000000000)])))))]⟩) (And.intro rfl (And.intro rfl (And.intro rfl (And.intro rfl (And.intro rfl (And.intro rfl (trivial))))))) (And.intro rfl (trivial))) (Wk.trans (Wk.ren (id := 202) (id' := 3) rfl) (Wk.sub (And.intro rfl (And.intro rfl (And.intro (by first | rfl | (simp)) (And.intro (by first | rfl | exact congrArg (nm _) (by omega) | exact nm_int (by omega) | exact nm_int (by simp [IntKind.wrap, IntKind.bits, IntKind.signed]; omega)) (And.intro rfl (And.intro (by first | rfl | exact congrArg (nm _) (by omega) | exact nm_int (by omega) | exact nm_int (by simp [IntKind.wrap, IntKind.bits, IntKind.signed]; omega)) (trivial))))))) (And.intro (by first | rfl | exact row_ns (by simp)) (trivial))))
    · refine awp_skip ?_
      refine hK11 _ ?_
      refine awp_seq fun K14 hK14 => ?_
      refine awp_region rfl ?_
      refine o_mv (nm .u32 (((digs m').getD (i) 0) + (c))) rfl ?_
      refine n_quo (((digs m').getD (i) 0) + (c)) (1000000000) Gd.none rfl rfl (by omega) (by simp only [topOf]; omega) ?_
      refine o_as (nm .u32 ((((digs m').getD (i) 0) + (c)) / (1000000000))) rfl ?_
      refine aops_end ?_
      refine hK14 _ ?_
      refine awp_region rfl ?_
      refine o_mv (AV.row 3) rfl ?_
      refine o_mv (nm .u32 (((digs m').getD (i) 0) + (c))) rfl ?_
      refine n_rem (((digs m').getD (i) 0) + (c)) (1000000000) Gd.none rfl rfl (by omega) ?_
      refine o_buildSlice 201 (ns .u32 ([(((digs m').getD (i) 0) + (c)) % (1000000000)])) [(0, [(nm .u32 ((((digs m').getD (i) 0) + (c)) % (1000000000)))])] Gd.none Wa_tE87 rfl Wa_tO111 rfl rfl rfl rfl rfl rfl rfl ?_
      refine n_append 202 (r) ([(((digs m').getD (i) 0) + (c)) % (1000000000)]) [(201, (AO.row 111 1 (ns .u32 ([(((digs m').getD (i) 0) + (c)) % (1000000000)]))))] Gd.none Wa_tE87 Wa_tO111 rfl rfl rfl rfl rfl (by simp only [List.length_append, List.length_cons, List.length_nil]; omega) (by decide) rfl rfl ?_
      refine o_as (AV.row 202) rfl ?_
      refine aops_end ?_
      refine hK8 _ ?_
      refine awp_region rfl ?_
      refine n_add (i) (1) Gd.none rfl rfl (by simp only [topOf]; omega) ?_
      refine o_mv (nm .i64 ((i) + (1))) rfl ?_
      refine aops_end ?_
      refine ⟨_, _, ?lt, ⟨i + 1, (r) ++ ([(((digs m').getD (i) 0) + (c)) % (1000000000)]), (((digs m').getD (i) 0) + (c)) / (1000000000), (by simp [hl]), (by omega), (hd.snoc (Nat.mod_lt _ (by decide))), (by omega), (add_step hl hv (by rw [getD_ge (xs := digs n') (by omega)]; omega)), rfl, rfl⟩, ?wk⟩
      case lt => omega
      case wk => exact Wk.trans (Wk.sub (σ' := ⟨[(0, (AV.sl 1 (ns .u32 (digs m')))), (1, (AV.sl 1 (ns .u32 (digs n')))), (5, (AV.row 202)), (6, (nm .u32 ((((digs m').getD (i) 0) + (c)) / (1000000000)))), (21, (nm .i64 ((digs m').length))), (22, (nm .i64 ((i) + (1))))], [(202, (AO.row 111 1 (ns .u32 ((r) ++ ([(((digs m').getD (i) 0) + (c)) % (1000000000)])))))]⟩) (And.intro rfl (And.intro rfl (And.intro rfl (And.intro rfl (And.intro rfl (And.intro rfl (trivial))))))) (And.intro rfl (trivial))) (Wk.trans (Wk.ren (id := 202) (id' := 3) rfl) (Wk.sub (And.intro rfl (And.intro rfl (And.intro (by first | rfl | (simp)) (And.intro (by first | rfl | exact congrArg (nm _) (by omega) | exact nm_int (by omega) | exact nm_int (by simp [IntKind.wrap, IntKind.bits, IntKind.signed]; omega)) (And.intro rfl (And.intro (by first | rfl | exact congrArg (nm _) (by omega) | exact nm_int (by omega) | exact nm_int (by simp [IntKind.wrap, IntKind.bits, IntKind.signed]; omega)) (trivial))))))) (And.intro (by first | rfl | exact row_ns (by simp)) (trivial))))
  · refine awp_exit ?_
    refine hK4 _ ?_
    refine awp_seq fun K15 hK15 => ?_
    refine awp_region rfl ?_
    refine o_mv (AV.row 3) rfl ?_
    refine o_mv (nm .u32 (c)) rfl ?_
    refine o_buildSlice 201 (ns .u32 ([c])) [(0, [(nm .u32 (c))])] Gd.none Wa_tE87 rfl Wa_tO111 rfl rfl rfl rfl rfl rfl rfl ?_
    refine n_append 202 (r) ([c]) [(201, (AO.row 111 1 (ns .u32 ([c]))))] Gd.none Wa_tE87 Wa_tO111 rfl rfl rfl rfl rfl (by simp only [List.length_append, List.length_cons, List.length_nil]; omega) (by decide) rfl rfl ?_
    refine o_as (AV.row 202) rfl ?_
    refine aops_end ?_
    refine hK15 _ ?_
    refine awp_wk (σ' := ⟨[(4, (AV.row 202))], [(202, (AO.row 111 1 (ns .u32 ((r) ++ ([c])))))]⟩) (Wk.sub (And.intro rfl (trivial)) (And.intro rfl (trivial))) ?_
    refine awp_wk (σ' := ⟨[(4, (AV.sl 1 (ns .u32 ((r) ++ ([c])))))], []⟩) (Wk.freeze (id := 202) (e := 111) (sz := 1) (cs := (ns .u32 ((r) ++ ([c])))) rfl) ?_
    refine awp_ret ?_
    refine post_ret ⟨[(AV.sl 1 (ns .u32 ((r) ++ ([c]))))], And.intro (AV.le_refl _) (trivial), rfl, ?_⟩
    have hil : i = (digs m').length := by omega
    subst hil
    rw [val_take_all (xs := digs m') (Nat.le_refl _), val_take_all (xs := digs n') hle, val_digs, val_digs] at hv
    exact ns_congr (dgn_eq (hd.snoc (by omega)) (by simp; omega) (by rw [val_snoc, hl]; omega)).symm

theorem c_wLess (m n : Nat) (hnm : n ≤ m) (hm : (digs m).length ≤ 1000000000) (hn : (digs n).length ≤ 1000000000) : ECalls cx 86 [(AV.sl 1 (ns .u32 (digs m))), (AV.sl 1 (ns .u32 (digs n)))] (.sl 1 (ns .u32 (dgn (digs m).length (m - n)))) := by
  refine ecalls_of_awp Tryz.func86 (c := _) rfl (Nat.le_of_ble_eq_true rfl) ?_
  show awp cx 46 _ (postF cx Tryz.f86 _) ⟨[(0, (AV.sl 1 (ns .u32 (digs m)))), (1, (AV.sl 1 (ns .u32 (digs n))))], []⟩
  refine awp_bound (i := 0) rfl fun hb => ?_
  replace hb := n_bnd hb
  refine awp_bound (i := 1) rfl fun hb2 => ?_
  replace hb2 := n_bnd hb2
  refine awp_seq fun K0 hK0 => ?_
  refine awp_region rfl ?_
  refine o_as (AV.lit (.slice none 0 0)) rfl ?_
  refine aops_end ?_
  refine hK0 _ ?_
  refine awp_seq fun K1 hK1 => ?_
  refine awp_region rfl ?_
  refine o_mv (AV.sl 1 (ns .u32 (digs m))) rfl ?_
  refine n_len (digs m) Gd.none Wa_tU87 rfl ?_
  refine n_make0 .u32 2 ((digs m).length) Gd.none Wa_tE87 Wa_tO111 rfl rfl (by omega) (by omega) rfl ?_
  refine o_as (AV.row 2) rfl ?_
  refine aops_end ?_
  refine hK1 _ ?_
  refine awp_seq fun K2 hK2 => ?_
  refine awp_region rfl ?_
  refine o_as (nm .i64 (0)) rfl ?_
  refine aops_end ?_
  refine hK2 _ ?_
  refine awp_seq fun K3 hK3 => ?_
  refine awp_seq fun K4 hK4 => ?_
  refine awp_region rfl ?_
  refine o_mv (AV.sl 1 (ns .u32 (digs m))) rfl ?_
  refine n_len (digs m) Gd.none Wa_tU87 rfl ?_
  refine o_mv (nm .i64 (0)) rfl ?_
  refine aops_end ?_
  refine hK4 _ ?_
  refine awp_block ?_
  refine awp_loopR (fun κ σ => ∃ (i : Nat), ∃ (r : List Nat), ∃ (c : Nat), (r.length = i) ∧ (i ≤ (digs m).length) ∧ (Dig r) ∧ (c ≤ 1) ∧ (val r + val ((digs n).take i) = val ((digs m).take i) + 1000000000 ^ i * c) ∧ ((digs m).length - i) = κ ∧ σ = ⟨[(0, (AV.sl 1 (ns .u32 (digs m)))), (1, (AV.sl 1 (ns .u32 (digs n)))), (5, (AV.row 3)), (6, (nm .i64 (c))), (13, (nm .i64 ((digs m).length))), (14, (nm .i64 (i)))], [(3, (AO.row 111 1 (ns .u32 (r))))]⟩) ⟨_, _, ⟨0, [], 0, rfl, (by omega), Dig.nil, (by omega), (by simp [val]), rfl, rfl⟩, ?wk0⟩ ?rd0
  case wk0 =>
    exact Wk.trans (Wk.sub (σ' := ⟨[(0, (AV.sl 1 (ns .u32 (digs m)))), (1, (AV.sl 1 (ns .u32 (digs n)))), (5, (AV.row 2)), (6, (nm .i64 (0))), (13, (nm .i64 ((digs m).length))), (14, (nm .i64 (0)))], [(2, (AO.row 111 1 (ns .u32 ([]))))]⟩) (And.intro rfl (And.intro rfl (And.intro rfl (And.intro rfl (And.intro rfl (And.intro rfl (trivial))))))) (And.intro rfl (trivial))) (Wk.trans (Wk.ren (id := 2) (id' := 3) rfl) (Wk.sub (And.intro rfl (And.intro rfl (And.intro (by first | rfl | (simp)) (And.intro (by first | rfl | exact congrArg (nm _) (by omega) | exact nm_int (by omega) | exact nm_int (by simp [IntKind.wrap, IntKind.bits, IntKind.signed]; omega)) (And.intro rfl (And.intro (by first | rfl | exact congrArg (nm _) (by omega) | exact nm_int (by omega) | exact nm_int (by simp [IntKind.wrap, IntKind.bits, IntKind.signed]; omega)) (trivial))))))) (And.intro (by first | rfl | exact row_ns (by simp)) (trivial))))
  rintro κ _ ⟨i, r, c, hl, hi, hd, hc, hv, rfl, rfl⟩
  have hA := Dig.getD (digs_dig m) i
  have hB := Dig.getD (digs_dig n) i
  refine awp_seq fun K5 hK5 => ?_
  refine awp_region rfl ?_
  refine n_lss (i) ((digs m).length) Gd.none rfl rfl ?_
  refine aops_end ?_
  refine hK5 _ ?_
  refine awp_seq fun K6 hK6 => ?_
  refine awp_condQ (q := (i) < ((digs m).length)) rfl (fun h1 => ?_) (fun h1 => ?_)
  · refine awp_skip ?_
    refine hK6 _ ?_
    refine awp_seq fun K7 hK7 => ?_
    refine awp_block ?_
    refine awp_seq fun K8 hK8 => ?_
    refine awp_region rfl ?_
    refine o_mv (nm .i64 (i)) rfl ?_
    refine o_as (nm .i64 (i)) rfl ?_
    refine aops_end ?_
    refine hK8 _ ?_
    refine awp_seq fun K9 hK9 => ?_
    refine awp_region rfl ?_
    refine o_mv (AV.sl 1 (ns .u32 (digs m))) rfl ?_
    refine o_mv (nm .i64 (i)) rfl ?_
    refine n_index (digs m) (i) Gd.none Wa_tE87 rfl rfl (by omega) ?_
    refine n_loadI (digs m) (i) Gd.none Wa_tS111 rfl (by omega) ?_
    refine n_conv ((digs m).getD (i) 0) Gd.none rfl Wa_tI111 Wa_tI2 (by simp only [topOf]; omega) ?_
    refine o_mv (nm .i64 (c)) rfl ?_
    refine o_sub (a := ((((digs m).getD (i) 0 : Nat) : Int))) (c := (((c : Nat) : Int))) Gd.none rfl rfl (by exact wrap64 (by omega) (by omega)) ?_
    refine o_as (AV.lit (.int .i64 (((((digs m).getD (i) 0 : Nat) : Int)) - (((c : Nat) : Int))))) rfl ?_
    refine aops_end ?_
    refine hK9 _ ?_
    refine awp_seqJ (J := fun σ => ∃ (y : Int), (y = (((digs m).getD (i) 0) : Int) - c - ((digs n).getD (i) 0)) ∧ True ∧ σ = ⟨[(0, (AV.sl 1 (ns .u32 (digs m)))), (1, (AV.sl 1 (ns .u32 (digs n)))), (5, (AV.row 3)), (7, (nm .i64 (i))), (8, (AV.lit (.int .i64 (y)))), (13, (nm .i64 ((digs m).length))), (14, (nm .i64 (i)))], [(3, (AO.row 111 1 (ns .u32 (r))))]⟩) ?ja1 ?jb1
    case ja1 =>
      refine awp_seq fun K10 hK10 => ?_
      refine awp_region rfl ?_
      refine o_mv (nm .i64 (i)) rfl ?_
      refine o_mv (AV.sl 1 (ns .u32 (digs n))) rfl ?_
      refine n_len (digs n) Gd.none Wa_tU87 rfl ?_
      refine n_lss (i) ((digs n).length) Gd.none rfl rfl ?_
      refine aops_end ?_
      refine hK10 _ ?_
      refine awp_condQ (q := (i) < ((digs n).length)) rfl (fun h2 => ?_) (fun h2 => ?_)
      · refine awp_region rfl ?_
        refine o_mv (AV.lit (.int .i64 (((((digs m).getD (i) 0 : Nat) : Int)) - (((c : Nat) : Int))))) rfl ?_
        refine o_mv (AV.sl 1 (ns .u32 (digs n))) rfl ?_
        refine o_mv (nm .i64 (i)) rfl ?_
        refine n_index (digs n) (i) Gd.none Wa_tE87 rfl rfl (by omega) ?_
        refine n_loadI (digs n) (i) Gd.none Wa_tS111 rfl (by omega) ?_
        refine n_conv ((digs n).getD (i) 0) Gd.none rfl Wa_tI111 Wa_tI2 (by simp only [topOf]; omega) ?_
        refine o_sub (a := (((((digs m).getD (i) 0 : Nat) : Int)) - (((c : Nat) : Int)))) (c := ((((digs n).getD (i) 0 : Nat) : Int))) Gd.none rfl rfl (by exact wrap64 (by omega) (by omega)) ?_
        refine o_as (AV.lit (.int .i64 ((((((digs m).getD (i) 0 : Nat) : Int)) - (((c : Nat) : Int))) - ((((digs n).getD (i) 0 : Nat) : Int))))) rfl ?_
        refine aops_end ?_
        exact ⟨_, ⟨(((((digs m).getD (i) 0 : Nat) : Int)) - (((c : Nat) : Int))) - ((((digs n).getD (i) 0 : Nat) : Int)), (by omega), trivial, rfl⟩, Wk.sub (And.intro rfl (And.intro rfl (And.intro rfl (And.intro rfl (And.intro (by first | rfl | exact int_eq (by omega) | exact int_nm (by omega)) (And.intro rfl (And.intro rfl (trivial)))))))) (And.intro rfl (trivial))⟩
      · refine awp_skip ?_
        exact ⟨_, ⟨((((digs m).getD (i) 0 : Nat) : Int)) - (((c : Nat) : Int)), (by rw [getD_ge (xs := digs n) (by omega)]; omega), trivial, rfl⟩, Wk.sub (And.intro rfl (And.intro rfl (And.intro rfl (And.intro rfl (And.intro (by first | rfl | exact int_eq (by omega) | exact int_nm (by omega)) (And.intro rfl (And.intro rfl (trivial)))))))) (And.intro rfl (trivial))⟩
    rintro _ ⟨y, hy, -, rfl⟩
    refine awp_seq fun K11 hK11 => ?_
    refine awp_region rfl ?_
    refine o_as (nm .i64 (0)) rfl ?_
    refine aops_end ?_
    refine hK11 _ ?_
    refine awp_seqJ (J := fun σ => ∃ (x : Nat), ∃ (c' : Nat), (x + ((digs n).getD (i) 0) + c = ((digs m).getD (i) 0) + 1000000000 * c') ∧ (x < 1000000000) ∧ (c' ≤ 1) ∧ True ∧ σ = ⟨[(0, (AV.sl 1 (ns .u32 (digs m)))), (1, (AV.sl 1 (ns .u32 (digs n)))), (5, (AV.row 3)), (6, (nm .i64 (c'))), (8, (nm .i64 (x))), (13, (nm .i64 ((digs m).length))), (14, (nm .i64 (i)))], [(3, (AO.row 111 1 (ns .u32 (r))))]⟩) ?ja2 ?jb2
    case ja2 =>
      refine awp_seq fun K12 hK12 => ?_
      refine awp_region rfl ?_
      refine o_mv (AV.lit (.int .i64 (y))) rfl ?_
      refine o_lss (a := (y)) (c := (((0 : Nat) : Int))) Gd.none rfl rfl ?_
      refine aops_end ?_
      refine hK12 _ ?_
      refine awp_condQ (q := (y) < (((0 : Nat) : Int))) rfl (fun h3 => ?_) (fun h3 => ?_)
      · refine awp_seq fun K13 hK13 => ?_
        refine awp_region rfl ?_
        refine o_mv (AV.lit (.int .i64 (y))) rfl ?_
        refine o_add (a := (y)) (c := (((1000000000 : Nat) : Int))) Gd.none rfl rfl (by exact wrap64 (by omega) (by omega)) ?_
        refine o_as (AV.lit (.int .i64 ((y) + (((1000000000 : Nat) : Int))))) rfl ?_
        refine aops_end ?_
        refine hK13 _ ?_
        refine awp_region rfl ?_
        refine o_as (nm .i64 (1)) rfl ?_
        refine aops_end ?_
        exact ⟨_, ⟨((digs m).getD (i) 0) + 1000000000 - ((digs n).getD (i) 0) - c, 1, (by omega), (by omega), (by omega), trivial, rfl⟩, Wk.sub (And.intro rfl (And.intro rfl (And.intro rfl (And.intro (by first | rfl | exact congrArg (nm _) (by omega) | exact nm_int (by omega) | exact nm_int (by simp [IntKind.wrap, IntKind.bits, IntKind.signed]; omega)) (And.intro (by first | rfl | exact congrArg (nm _) (by omega) | exact nm_int (by omega) | exact nm_int (by simp [IntKind.wrap, IntKind.bits, IntKind.signed]; omega)) (And.intro rfl (And.intro rfl (trivial)))))))) (And.intro rfl (trivial))⟩
      · refine awp_skip ?_
        exact ⟨_, ⟨((digs m).getD (i) 0) - ((digs n).getD (i) 0) - c, 0, (by omega), (by omega), (by omega), trivial, rfl⟩, Wk.sub (And.intro rfl (And.intro rfl (And.intro rfl (And.intro (by first | rfl | exact congrArg (nm _) (by omega) | exact nm_int (by omega) | exact nm_int (by simp [IntKind.wrap, IntKind.bits, IntKind.signed]; omega)) (And.intro (by first | rfl | exact congrArg (nm _) (by omega) | exact nm_int (by omega) | exact nm_int (by simp [IntKind.wrap, IntKind.bits, IntKind.signed]; omega)) (And.intro rfl (And.intro rfl (trivial)))))))) (And.intro rfl (trivial))⟩
    rintro _ ⟨x, c', hs, hx, hc', -, rfl⟩
    refine awp_region rfl ?_
    refine o_mv (AV.row 3) rfl ?_
    refine o_mv (nm .i64 (x)) rfl ?_
    refine n_conv (x) Gd.none rfl Wa_tI2 Wa_tI111 (by simp only [topOf]; omega) ?_
    refine o_buildSlice 301 (ns .u32 ([x])) [(0, [(nm .u32 (x))])] Gd.none Wa_tE87 rfl Wa_tO111 rfl rfl rfl rfl rfl rfl rfl ?_
    refine n_append 302 (r) ([x]) [(301, (AO.row 111 1 (ns .u32 ([x]))))] Gd.none Wa_tE87 Wa_tO111 rfl rfl rfl rfl rfl (by simp only [List.length_append, List.length_cons, List.length_nil]; omega) (by decide) rfl rfl ?_
    refine o_as (AV.row 302) rfl ?_
    refine aops_end ?_
    refine hK7 _ ?_
    refine awp_region rfl ?_
    refine n_add (i) (1) Gd.none rfl rfl (by simp only [topOf]; omega) ?_
    refine o_mv (nm .i64 ((i) + (1))) rfl ?_
    refine aops_end ?_
    refine ⟨_, _, ?lt, ⟨i + 1, (r) ++ ([x]), c', (by simp [hl]), (by omega), (hd.snoc hx), hc', (sub_step hl hv hs), rfl, rfl⟩, ?wk⟩
    case lt => omega
    case wk => exact Wk.trans (Wk.sub (σ' := ⟨[(0, (AV.sl 1 (ns .u32 (digs m)))), (1, (AV.sl 1 (ns .u32 (digs n)))), (5, (AV.row 302)), (6, (nm .i64 (c'))), (13, (nm .i64 ((digs m).length))), (14, (nm .i64 ((i) + (1))))], [(302, (AO.row 111 1 (ns .u32 ((r) ++ ([x])))))]⟩) (And.intro rfl (And.intro rfl (And.intro rfl (And.intro rfl (And.intro rfl (And.intro rfl (trivial))))))) (And.intro rfl (trivial))) (Wk.trans (Wk.ren (id := 302) (id' := 3) rfl) (Wk.sub (And.intro rfl (And.intro rfl (And.intro (by first | rfl | (simp)) (And.intro (by first | rfl | exact congrArg (nm _) (by omega) | exact nm_int (by omega) | exact nm_int (by simp [IntKind.wrap, IntKind.bits, IntKind.signed]; omega)) (And.intro rfl (And.intro (by first | rfl | exact congrArg (nm _) (by omega) | exact nm_int (by omega) | exact nm_int (by simp [IntKind.wrap, IntKind.bits, IntKind.signed]; omega)) (trivial))))))) (And.intro (by first | rfl | exact row_ns (by simp)) (trivial))))
  · refine awp_exit ?_
    refine hK3 _ ?_
    refine awp_seq fun K14 hK14 => ?_
    refine awp_region rfl ?_
    refine o_mv (AV.row 3) rfl ?_
    refine o_as (AV.row 3) rfl ?_
    refine aops_end ?_
    refine hK14 _ ?_
    refine awp_wk (σ' := ⟨[(4, (AV.row 3))], [(3, (AO.row 111 1 (ns .u32 (r))))]⟩) (Wk.sub (And.intro rfl (trivial)) (And.intro rfl (trivial))) ?_
    refine awp_wk (σ' := ⟨[(4, (AV.sl 1 (ns .u32 (r))))], []⟩) (Wk.freeze (id := 3) (e := 111) (sz := 1) (cs := (ns .u32 (r))) rfl) ?_
    refine awp_ret ?_
    refine post_ret ⟨[(AV.sl 1 (ns .u32 (r)))], And.intro (AV.le_refl _) (trivial), rfl, ?_⟩
    have hil : i = (digs m).length := by omega
    subst hil
    exact ns_congr (less_fin hl hd hnm hv).symm

theorem c_rAdd (x y : Int) (hx : (digs x.natAbs).length ≤ 1000000000) (hy : (digs y.natAbs).length ≤ 1000000000) : ECalls cx 19 [(intR (x)), (intR (y))] (intR ((x + y))) := by
  refine ecalls_of_awp Tryz.func19 (c := _) rfl (Nat.le_of_ble_eq_true rfl) ?_
  show awp cx 40 _ (postF cx Tryz.f19 _) ⟨[(0, (intR (x))), (1, (intR (y)))], []⟩
  refine awp_seq fun K0 hK0 => ?_
  refine awp_region rfl ?_
  refine o_box 2 [(bp (x < 0)), (AV.sl 1 (ns .i64 (digs (x).natAbs)))] Gd.none rfl rfl ?_
  refine o_box 3 [(bp (y < 0)), (AV.sl 1 (ns .i64 (digs (y).natAbs)))] Gd.none rfl rfl ?_
  refine o_alloc 4 [(AV.lit (.bool false)), (AV.lit (.slice none 0 0))] Gd.none Wa_tO41 rfl rfl rfl ?_
  refine aops_end ?_
  refine hK0 _ ?_
  refine awp_seq fun K1 hK1 => ?_
  refine awp_seq fun K2 hK2 => ?_
  refine awp_region rfl ?_
  refine o_fieldRef 0 Gd.none Wa_tF41_0 rfl rfl ?_
  refine o_loadS (bp (x < 0)) Gd.none Wa_tS4 rfl rfl rfl ?_
  refine o_fieldRef 0 Gd.none Wa_tF41_0 rfl rfl ?_
  refine o_loadS (bp (y < 0)) Gd.none Wa_tS4 rfl rfl rfl ?_
  refine o_eqlB (a := (decide (x < 0))) (c := (decide (y < 0))) Gd.none rfl rfl Wa_tB4 ?_
  refine aops_end ?_
  refine hK2 _ ?_
  refine awp_condQ (q := (decide (x < 0)) = (decide (y < 0))) rfl (fun h1 => ?_) (fun h1 => ?_)
  · refine awp_seq fun K3 hK3 => ?_
    refine awp_regionD rfl ?_
    refine o_fieldRef 0 Gd.none Wa_tF41_0 rfl rfl ?_
    refine o_loadS (bp (x < 0)) Gd.none Wa_tS4 rfl rfl rfl ?_
    refine o_fieldRef 1 Gd.none Wa_tF41_1 rfl rfl ?_
    refine o_loadS (AV.sl 1 (ns .i64 (digs (x).natAbs))) Gd.none Wa_tS25 rfl rfl rfl ?_
    refine o_fieldRef 1 Gd.none Wa_tF41_1 rfl rfl ?_
    refine o_loadS (AV.sl 1 (ns .i64 (digs (y).natAbs))) Gd.none Wa_tS25 rfl rfl rfl ?_
    refine o_ct (c_rMore ((x).natAbs) ((y).natAbs) (by omega) (by omega)) Gd.none Wa_tC38 rfl ?_
    refine o_ct (c_rTrim (decide (x < 0)) (dgn (moreN ((x).natAbs) ((y).natAbs)) ((x).natAbs + (y).natAbs)) (by first | assumption | exact dgn_dig _ _ | exact digs_dig _ | exact Dig.snoc (by assumption) (by assumption) | exact Dig.cons (by omega) (digs_dig _))) Gd.none Wa_tC37 rfl ?_
    refine o_store [(4, (oZ 41 .i64 ((sg (decide (x < 0)) (val (dgn (moreN ((x).natAbs) ((y).natAbs)) ((x).natAbs + (y).natAbs))))))), (3, (oZ 41 .i64 (y))), (2, (oZ 41 .i64 (x)))] Gd.none Wa_tZ41 rfl rfl rfl rfl rfl rfl ?_
    refine aops_end ⟨by kernel_rfl, ?_⟩
    refine hK3 _ ?_
    refine awp_ret ?_
    refine post_ret ⟨[(intR ((sg (decide (x < 0)) (val (dgn (moreN ((x).natAbs) ((y).natAbs)) ((x).natAbs + (y).natAbs))))))], And.intro ⟨4, (oZ 41 .i64 ((sg (decide (x < 0)) (val (dgn (moreN ((x).natAbs) ((y).natAbs)) ((x).natAbs + (y).natAbs)))))), rfl, rfl, rfl, Or.inl ⟨Wa_tA41, AV.le_refl _⟩⟩ (trivial), rfl, ?_⟩
    refine congrArg (intK .i64) ?_
    rw [val_more]
    exact sg_add h1
  · refine awp_skip ?_
    refine hK1 _ ?_
    refine awp_seq fun K4 hK4 => ?_
    refine awp_seq fun K5 hK5 => ?_
    refine awp_region rfl ?_
    refine o_fieldRef 1 Gd.none Wa_tF41_1 rfl rfl ?_
    refine o_loadS (AV.sl 1 (ns .i64 (digs (x).natAbs))) Gd.none Wa_tS25 rfl rfl rfl ?_
    refine o_fieldRef 1 Gd.none Wa_tF41_1 rfl rfl ?_
    refine o_loadS (AV.sl 1 (ns .i64 (digs (y).natAbs))) Gd.none Wa_tS25 rfl rfl rfl ?_
    refine o_ct (c_rSize ((x).natAbs) ((y).natAbs)) Gd.none Wa_tC39 rfl ?_
    refine o_geq (a := (cmpN ((x).natAbs) ((y).natAbs))) (c := (((0 : Nat) : Int))) Gd.none rfl rfl ?_
    refine aops_end ?_
    refine hK5 _ ?_
    refine awp_condQ (q := (((0 : Nat) : Int)) ≤ (cmpN ((x).natAbs) ((y).natAbs))) rfl (fun h2 => ?_) (fun h2 => ?_)
    · have hc := cmpN_ge h2
      refine awp_seq fun K6 hK6 => ?_
      refine awp_regionD rfl ?_
      refine o_fieldRef 0 Gd.none Wa_tF41_0 rfl rfl ?_
      refine o_loadS (bp (x < 0)) Gd.none Wa_tS4 rfl rfl rfl ?_
      refine o_fieldRef 1 Gd.none Wa_tF41_1 rfl rfl ?_
      refine o_loadS (AV.sl 1 (ns .i64 (digs (x).natAbs))) Gd.none Wa_tS25 rfl rfl rfl ?_
      refine o_fieldRef 1 Gd.none Wa_tF41_1 rfl rfl ?_
      refine o_loadS (AV.sl 1 (ns .i64 (digs (y).natAbs))) Gd.none Wa_tS25 rfl rfl rfl ?_
      refine o_ct (c_rLess ((x).natAbs) ((y).natAbs) (by omega) (by omega) (by omega)) Gd.none Wa_tC40 rfl ?_
      refine o_ct (c_rTrim (decide (x < 0)) (dgn (digs ((x).natAbs)).length ((x).natAbs - (y).natAbs)) (by first | assumption | exact dgn_dig _ _ | exact digs_dig _ | exact Dig.snoc (by assumption) (by assumption) | exact Dig.cons (by omega) (digs_dig _))) Gd.none Wa_tC37 rfl ?_
      refine o_store [(4, (oZ 41 .i64 ((sg (decide (x < 0)) (val (dgn (digs ((x).natAbs)).length ((x).natAbs - (y).natAbs))))))), (3, (oZ 41 .i64 (y))), (2, (oZ 41 .i64 (x)))] Gd.none Wa_tZ41 rfl rfl rfl rfl rfl rfl ?_
      refine aops_end ⟨by kernel_rfl, ?_⟩
      refine hK6 _ ?_
      refine awp_ret ?_
      refine post_ret ⟨[(intR ((sg (decide (x < 0)) (val (dgn (digs ((x).natAbs)).length ((x).natAbs - (y).natAbs))))))], And.intro ⟨4, (oZ 41 .i64 ((sg (decide (x < 0)) (val (dgn (digs ((x).natAbs)).length ((x).natAbs - (y).natAbs)))))), rfl, rfl, rfl, Or.inl ⟨Wa_tA41, AV.le_refl _⟩⟩ (trivial), rfl, ?_⟩
      refine congrArg (intK .i64) ?_
      rw [val_minus]
      exact sg_sub1 h1 hc
    · have hc := cmpN_ng h2
      refine awp_skip ?_
      refine hK4 _ ?_
      refine awp_seq fun K7 hK7 => ?_
      refine awp_regionD rfl ?_
      refine o_fieldRef 0 Gd.none Wa_tF41_0 rfl rfl ?_
      refine o_loadS (bp (y < 0)) Gd.none Wa_tS4 rfl rfl rfl ?_
      refine o_fieldRef 1 Gd.none Wa_tF41_1 rfl rfl ?_
      refine o_loadS (AV.sl 1 (ns .i64 (digs (y).natAbs))) Gd.none Wa_tS25 rfl rfl rfl ?_
      refine o_fieldRef 1 Gd.none Wa_tF41_1 rfl rfl ?_
      refine o_loadS (AV.sl 1 (ns .i64 (digs (x).natAbs))) Gd.none Wa_tS25 rfl rfl rfl ?_
      refine o_ct (c_rLess ((y).natAbs) ((x).natAbs) (by omega) (by omega) (by omega)) Gd.none Wa_tC40 rfl ?_
      refine o_ct (c_rTrim (decide (y < 0)) (dgn (digs ((y).natAbs)).length ((y).natAbs - (x).natAbs)) (by first | assumption | exact dgn_dig _ _ | exact digs_dig _ | exact Dig.snoc (by assumption) (by assumption) | exact Dig.cons (by omega) (digs_dig _))) Gd.none Wa_tC37 rfl ?_
      refine o_store [(4, (oZ 41 .i64 ((sg (decide (y < 0)) (val (dgn (digs ((y).natAbs)).length ((y).natAbs - (x).natAbs))))))), (3, (oZ 41 .i64 (y))), (2, (oZ 41 .i64 (x)))] Gd.none Wa_tZ41 rfl rfl rfl rfl rfl rfl ?_
      refine aops_end ⟨by kernel_rfl, ?_⟩
      refine hK7 _ ?_
      refine awp_ret ?_
      refine post_ret ⟨[(intR ((sg (decide (y < 0)) (val (dgn (digs ((y).natAbs)).length ((y).natAbs - (x).natAbs))))))], And.intro ⟨4, (oZ 41 .i64 ((sg (decide (y < 0)) (val (dgn (digs ((y).natAbs)).length ((y).natAbs - (x).natAbs)))))), rfl, rfl, rfl, Or.inl ⟨Wa_tA41, AV.le_refl _⟩⟩ (trivial), rfl, ?_⟩
      refine congrArg (intK .i64) ?_
      rw [val_minus]
      exact sg_sub2 h1 hc

theorem c_wAdd (x y : Int) (hx : (digs x.natAbs).length ≤ 1000000000) (hy : (digs y.natAbs).length ≤ 1000000000) : ECalls cx 75 [(intW (x)), (intW (y))] (intW ((x + y))) := by
  refine ecalls_of_awp Tryz.func75 (c := _) rfl (Nat.le_of_ble_eq_true rfl) ?_
  show awp cx 40 _ (postF cx Tryz.f75 _) ⟨[(0, (intW (x))), (1, (intW (y)))], []⟩
  refine awp_seq fun K0 hK0 => ?_
  refine awp_region rfl ?_
  refine o_box 2 [(bp (x < 0)), (AV.sl 1 (ns .u32 (digs (x).natAbs)))] Gd.none rfl rfl ?_
  refine o_box 3 [(bp (y < 0)), (AV.sl 1 (ns .u32 (digs (y).natAbs)))] Gd.none rfl rfl ?_
  refine o_alloc 4 [(AV.lit (.bool false)), (AV.lit (.slice none 0 0))] Gd.none Wa_tO89 rfl rfl rfl ?_
  refine aops_end ?_
  refine hK0 _ ?_
  refine awp_seq fun K1 hK1 => ?_
  refine awp_seq fun K2 hK2 => ?_
  refine awp_region rfl ?_
  refine o_fieldRef 0 Gd.none Wa_tF89_0 rfl rfl ?_
  refine o_loadS (bp (x < 0)) Gd.none Wa_tS4 rfl rfl rfl ?_
  refine o_fieldRef 0 Gd.none Wa_tF89_0 rfl rfl ?_
  refine o_loadS (bp (y < 0)) Gd.none Wa_tS4 rfl rfl rfl ?_
  refine o_eqlB (a := (decide (x < 0))) (c := (decide (y < 0))) Gd.none rfl rfl Wa_tB4 ?_
  refine aops_end ?_
  refine hK2 _ ?_
  refine awp_condQ (q := (decide (x < 0)) = (decide (y < 0))) rfl (fun h1 => ?_) (fun h1 => ?_)
  · refine awp_seq fun K3 hK3 => ?_
    refine awp_regionD rfl ?_
    refine o_fieldRef 0 Gd.none Wa_tF89_0 rfl rfl ?_
    refine o_loadS (bp (x < 0)) Gd.none Wa_tS4 rfl rfl rfl ?_
    refine o_fieldRef 1 Gd.none Wa_tF89_1 rfl rfl ?_
    refine o_loadS (AV.sl 1 (ns .u32 (digs (x).natAbs))) Gd.none Wa_tS87 rfl rfl rfl ?_
    refine o_fieldRef 1 Gd.none Wa_tF89_1 rfl rfl ?_
    refine o_loadS (AV.sl 1 (ns .u32 (digs (y).natAbs))) Gd.none Wa_tS87 rfl rfl rfl ?_
    refine o_ct (c_wPlus ((x).natAbs) ((y).natAbs) (by omega) (by omega)) Gd.none Wa_tC88 rfl ?_
    refine o_ct (c_wTrim (decide (x < 0)) (dgn (max (digs ((x).natAbs)).length (digs ((y).natAbs)).length + 1) ((x).natAbs + (y).natAbs)) (by first | assumption | exact dgn_dig _ _ | exact digs_dig _ | exact Dig.snoc (by assumption) (by assumption) | exact Dig.cons (by omega) (digs_dig _))) Gd.none Wa_tC69 rfl ?_
    refine o_store [(4, (oZ 89 .u32 ((sg (decide (x < 0)) (val (dgn (max (digs ((x).natAbs)).length (digs ((y).natAbs)).length + 1) ((x).natAbs + (y).natAbs))))))), (3, (oZ 89 .u32 (y))), (2, (oZ 89 .u32 (x)))] Gd.none Wa_tZ89 rfl rfl rfl rfl rfl rfl ?_
    refine aops_end ⟨by kernel_rfl, ?_⟩
    refine hK3 _ ?_
    refine awp_ret ?_
    refine post_ret ⟨[(intW ((sg (decide (x < 0)) (val (dgn (max (digs ((x).natAbs)).length (digs ((y).natAbs)).length + 1) ((x).natAbs + (y).natAbs))))))], And.intro ⟨4, (oZ 89 .u32 ((sg (decide (x < 0)) (val (dgn (max (digs ((x).natAbs)).length (digs ((y).natAbs)).length + 1) ((x).natAbs + (y).natAbs)))))), rfl, rfl, rfl, Or.inl ⟨Wa_tA89, AV.le_refl _⟩⟩ (trivial), rfl, ?_⟩
    refine congrArg (intK .u32) ?_
    rw [val_plus]
    exact sg_add h1
  · refine awp_skip ?_
    refine hK1 _ ?_
    refine awp_seq fun K4 hK4 => ?_
    refine awp_seq fun K5 hK5 => ?_
    refine awp_region rfl ?_
    refine o_fieldRef 1 Gd.none Wa_tF89_1 rfl rfl ?_
    refine o_loadS (AV.sl 1 (ns .u32 (digs (x).natAbs))) Gd.none Wa_tS87 rfl rfl rfl ?_
    refine o_fieldRef 1 Gd.none Wa_tF89_1 rfl rfl ?_
    refine o_loadS (AV.sl 1 (ns .u32 (digs (y).natAbs))) Gd.none Wa_tS87 rfl rfl rfl ?_
    refine o_ct (c_wSize ((x).natAbs) ((y).natAbs)) Gd.none Wa_tC84 rfl ?_
    refine o_geq (a := (cmpN ((x).natAbs) ((y).natAbs))) (c := (((0 : Nat) : Int))) Gd.none rfl rfl ?_
    refine aops_end ?_
    refine hK5 _ ?_
    refine awp_condQ (q := (((0 : Nat) : Int)) ≤ (cmpN ((x).natAbs) ((y).natAbs))) rfl (fun h2 => ?_) (fun h2 => ?_)
    · have hc := cmpN_ge h2
      refine awp_seq fun K6 hK6 => ?_
      refine awp_regionD rfl ?_
      refine o_fieldRef 0 Gd.none Wa_tF89_0 rfl rfl ?_
      refine o_loadS (bp (x < 0)) Gd.none Wa_tS4 rfl rfl rfl ?_
      refine o_fieldRef 1 Gd.none Wa_tF89_1 rfl rfl ?_
      refine o_loadS (AV.sl 1 (ns .u32 (digs (x).natAbs))) Gd.none Wa_tS87 rfl rfl rfl ?_
      refine o_fieldRef 1 Gd.none Wa_tF89_1 rfl rfl ?_
      refine o_loadS (AV.sl 1 (ns .u32 (digs (y).natAbs))) Gd.none Wa_tS87 rfl rfl rfl ?_
      refine o_ct (c_wLess ((x).natAbs) ((y).natAbs) (by omega) (by omega) (by omega)) Gd.none Wa_tC86 rfl ?_
      refine o_ct (c_wTrim (decide (x < 0)) (dgn (digs ((x).natAbs)).length ((x).natAbs - (y).natAbs)) (by first | assumption | exact dgn_dig _ _ | exact digs_dig _ | exact Dig.snoc (by assumption) (by assumption) | exact Dig.cons (by omega) (digs_dig _))) Gd.none Wa_tC69 rfl ?_
      refine o_store [(4, (oZ 89 .u32 ((sg (decide (x < 0)) (val (dgn (digs ((x).natAbs)).length ((x).natAbs - (y).natAbs))))))), (3, (oZ 89 .u32 (y))), (2, (oZ 89 .u32 (x)))] Gd.none Wa_tZ89 rfl rfl rfl rfl rfl rfl ?_
      refine aops_end ⟨by kernel_rfl, ?_⟩
      refine hK6 _ ?_
      refine awp_ret ?_
      refine post_ret ⟨[(intW ((sg (decide (x < 0)) (val (dgn (digs ((x).natAbs)).length ((x).natAbs - (y).natAbs))))))], And.intro ⟨4, (oZ 89 .u32 ((sg (decide (x < 0)) (val (dgn (digs ((x).natAbs)).length ((x).natAbs - (y).natAbs)))))), rfl, rfl, rfl, Or.inl ⟨Wa_tA89, AV.le_refl _⟩⟩ (trivial), rfl, ?_⟩
      refine congrArg (intK .u32) ?_
      rw [val_minus]
      exact sg_sub1 h1 hc
    · have hc := cmpN_ng h2
      refine awp_skip ?_
      refine hK4 _ ?_
      refine awp_seq fun K7 hK7 => ?_
      refine awp_regionD rfl ?_
      refine o_fieldRef 0 Gd.none Wa_tF89_0 rfl rfl ?_
      refine o_loadS (bp (y < 0)) Gd.none Wa_tS4 rfl rfl rfl ?_
      refine o_fieldRef 1 Gd.none Wa_tF89_1 rfl rfl ?_
      refine o_loadS (AV.sl 1 (ns .u32 (digs (y).natAbs))) Gd.none Wa_tS87 rfl rfl rfl ?_
      refine o_fieldRef 1 Gd.none Wa_tF89_1 rfl rfl ?_
      refine o_loadS (AV.sl 1 (ns .u32 (digs (x).natAbs))) Gd.none Wa_tS87 rfl rfl rfl ?_
      refine o_ct (c_wLess ((y).natAbs) ((x).natAbs) (by omega) (by omega) (by omega)) Gd.none Wa_tC86 rfl ?_
      refine o_ct (c_wTrim (decide (y < 0)) (dgn (digs ((y).natAbs)).length ((y).natAbs - (x).natAbs)) (by first | assumption | exact dgn_dig _ _ | exact digs_dig _ | exact Dig.snoc (by assumption) (by assumption) | exact Dig.cons (by omega) (digs_dig _))) Gd.none Wa_tC69 rfl ?_
      refine o_store [(4, (oZ 89 .u32 ((sg (decide (y < 0)) (val (dgn (digs ((y).natAbs)).length ((y).natAbs - (x).natAbs))))))), (3, (oZ 89 .u32 (y))), (2, (oZ 89 .u32 (x)))] Gd.none Wa_tZ89 rfl rfl rfl rfl rfl rfl ?_
      refine aops_end ⟨by kernel_rfl, ?_⟩
      refine hK7 _ ?_
      refine awp_ret ?_
      refine post_ret ⟨[(intW ((sg (decide (y < 0)) (val (dgn (digs ((y).natAbs)).length ((y).natAbs - (x).natAbs))))))], And.intro ⟨4, (oZ 89 .u32 ((sg (decide (y < 0)) (val (dgn (digs ((y).natAbs)).length ((y).natAbs - (x).natAbs)))))), rfl, rfl, rfl, Or.inl ⟨Wa_tA89, AV.le_refl _⟩⟩ (trivial), rfl, ?_⟩
      refine congrArg (intK .u32) ?_
      rw [val_minus]
      exact sg_sub2 h1 hc

theorem c_wSub (x y : Int) (hx : (digs x.natAbs).length ≤ 1000000000) (hy : (digs y.natAbs).length ≤ 1000000000) : ECalls cx 74 [(intW (x)), (intW (y))] (intW ((x - y))) := by
  refine ecalls_of_awp Tryz.func74 (c := _) rfl (Nat.le_of_ble_eq_true rfl) ?_
  show awp cx 9 _ (postF cx Tryz.f74 _) ⟨[(0, (intW (x))), (1, (intW (y)))], []⟩
  refine awp_seq fun K0 hK0 => ?_
  refine awp_region rfl ?_
  refine o_box 2 [(bp (x < 0)), (AV.sl 1 (ns .u32 (digs (x).natAbs)))] Gd.none rfl rfl ?_
  refine o_box 3 [(bp (y < 0)), (AV.sl 1 (ns .u32 (digs (y).natAbs)))] Gd.none rfl rfl ?_
  refine o_alloc 4 [(AV.lit (.bool false)), (AV.lit (.slice none 0 0))] Gd.none Wa_tO89 rfl rfl rfl ?_
  refine aops_end ?_
  refine hK0 _ ?_
  refine awp_seq fun K1 hK1 => ?_
  refine awp_regionD rfl ?_
  refine o_loadA [(bp (x < 0)), (AV.sl 1 (ns .u32 (digs (x).natAbs)))] Gd.none Wa_tA89 rfl rfl rfl rfl rfl ?_
  refine o_loadA [(bp (y < 0)), (AV.sl 1 (ns .u32 (digs (y).natAbs)))] Gd.none Wa_tA89 rfl rfl rfl rfl rfl ?_
  refine o_ct (c_wMinus (y)) Gd.none Wa_tC87 rfl ?_
  refine o_ct (c_wAdd (x) ((-y)) (by first | omega | assumption | (simp only [Int.natAbs_neg]; omega)) (by first | omega | assumption | (simp only [Int.natAbs_neg]; omega))) Gd.none Wa_tC75 rfl ?_
  refine o_store [(4, (oZ 89 .u32 ((x + (-y))))), (3, (oZ 89 .u32 (y))), (2, (oZ 89 .u32 (x)))] Gd.none Wa_tZ89 rfl rfl rfl rfl rfl rfl ?_
  refine aops_end ⟨by kernel_rfl, ?_⟩
  refine hK1 _ ?_
  refine awp_ret ?_
  refine post_ret ⟨[(intW ((x + (-y))))], And.intro ⟨4, (oZ 89 .u32 ((x + (-y)))), rfl, rfl, rfl, Or.inl ⟨Wa_tA89, AV.le_refl _⟩⟩ (trivial), rfl, ?_⟩
  exact congrArg (intK .u32) (Int.sub_eq_add_neg)

end Go.Proofs.YtpamhblonmpniaaGreatDoor

set_option linter.unusedVariables false
set_option linter.unusedSimpArgs false
namespace Go.Proofs.YtpamhblonmpniaaGreatDoor
open Go Go.Ab Go.Mth
theorem Wb_tO41 : tyZero cx.P 41 = some [(Go.Value.bool false), (Go.Value.slice none 0 0)] := by kernel_rfl
theorem Wb_tE25 : tyElem cx.P 25 = some (3, 1, 8) := by kernel_rfl
theorem Wb_tO3 : tyZero cx.P 3 = some [(Go.Value.int IntKind.i64 0)] := by kernel_rfl
theorem Wb_tP41 : tyPlaces cx.P 41 = some (fun i => (#[(0, 1), (1, 1)] : Array (Nat × Nat))[i]?) := by kernel_rfl
theorem Wb_tZ41 : tySize cx.P 41 = some 2 := by kernel_rfl
theorem Wb_tA41 : tyAgg cx.P 41 = some 2 := by kernel_rfl
theorem Wb_tO89 : tyZero cx.P 89 = some [(Go.Value.bool false), (Go.Value.slice none 0 0)] := by kernel_rfl
theorem Wb_tI3 : tyInt cx.P 3 = some .i64 := by kernel_rfl
theorem Wb_tI106 : tyInt cx.P 106 = some .u64 := by kernel_rfl
theorem Wb_tI111 : tyInt cx.P 111 = some .u32 := by kernel_rfl
theorem Wb_tE87 : tyElem cx.P 87 = some (111, 1, 4) := by kernel_rfl
theorem Wb_tO111 : tyZero cx.P 111 = some [(Go.Value.int IntKind.u32 0)] := by kernel_rfl
theorem Wb_tP89 : tyPlaces cx.P 89 = some (fun i => (#[(0, 1), (1, 1)] : Array (Nat × Nat))[i]?) := by kernel_rfl
theorem Wb_tZ89 : tySize cx.P 89 = some 2 := by kernel_rfl
theorem Wb_tA89 : tyAgg cx.P 89 = some 2 := by kernel_rfl
theorem Wb_tF41_1 : tyField cx.P 41 1 = some (1, 25) := by kernel_rfl
theorem Wb_tS25 : tySc cx.P 25 = true := by kernel_rfl
theorem Wb_tU25 : cx.P.underlying 25 = some (.slice 3) := by kernel_rfl
theorem Wb_tS3 : tySc cx.P 3 = true := by kernel_rfl
theorem Wb_tC41 : callable cx.P 41 = true := by kernel_rfl
theorem Wb_tZ3 : tySize cx.P 3 = some 1 := by kernel_rfl
theorem Wb_tF41_0 : tyField cx.P 41 0 = some (0, 4) := by kernel_rfl
theorem Wb_tS4 : tySc cx.P 4 = true := by kernel_rfl
theorem Wb_tB4 : cx.P.underlying 4 = some .bool := by kernel_rfl
theorem Wb_tC37 : callable cx.P 37 = true := by kernel_rfl
theorem Wb_tF89_1 : tyField cx.P 89 1 = some (1, 87) := by kernel_rfl
theorem Wb_tS87 : tySc cx.P 87 = true := by kernel_rfl
theorem Wb_tU87 : cx.P.underlying 87 = some (.slice 111) := by kernel_rfl
theorem Wb_tS111 : tySc cx.P 111 = true := by kernel_rfl
theorem Wb_tZ111 : tySize cx.P 111 = some 1 := by kernel_rfl
theorem Wb_tF89_0 : tyField cx.P 89 0 = some (0, 4) := by kernel_rfl
theorem Wb_tC69 : callable cx.P 69 = true := by kernel_rfl
theorem c_rOf (i : Int) (h0 : -4611686018427387904 ≤ i) (h1' : i ≤ 4611686018427387904) : ECalls cx 30 [(AV.lit (.int .i64 (i)))] (intR (i)) := by
  refine ecalls_of_awp Tryz.func30 (c := _) rfl (Nat.le_of_ble_eq_true rfl) ?_
  show awp cx 22 _ (postF cx Tryz.f30 _) ⟨[(0, (AV.lit (.int .i64 (i))))], []⟩
  refine awp_seq fun K0 hK0 => ?_
  refine awp_region rfl ?_
  refine o_alloc 2 [(AV.lit (.bool false)), (AV.lit (.slice none 0 0))] Gd.none Wb_tO41 rfl rfl rfl ?_
  refine aops_end ?_
  refine hK0 _ ?_
  refine awp_seq fun K1 hK1 => ?_
  refine awp_region rfl ?_
  refine o_mv (AV.lit (.int .i64 (i))) rfl ?_
  refine o_lss (a := (i)) (c := (((0 : Nat) : Int))) Gd.none rfl rfl ?_
  refine o_as (bp ((i) < (((0 : Nat) : Int)))) rfl ?_
  refine aops_end ?_
  refine hK1 _ ?_
  refine awp_seqJ (J := fun σ => True ∧ σ = ⟨[(0, (nm .i64 (i.natAbs))), (3, (bp (i < 0))), (2, (AV.ref 2 (0)))], [(2, (AO.var 41 [(AV.lit (.bool false)), (AV.lit (.slice none 0 0))]))]⟩) ?ja0 ?jb0
  case ja0 =>
    refine awp_seq fun K2 hK2 => ?_
    refine awp_region rfl ?_
    refine o_mv (bp ((i) < (((0 : Nat) : Int)))) rfl ?_
    refine aops_end ?_
    refine hK2 _ ?_
    refine awp_condQ (q := (i) < (((0 : Nat) : Int))) rfl (fun h1 => ?_) (fun h1 => ?_)
    · refine awp_region rfl ?_
      refine o_mv (AV.lit (.int .i64 (i))) rfl ?_
      refine o_neg (a := i) Gd.none rfl (by exact wrap64 (by omega) (by omega)) ?_
      refine o_as (AV.lit (.int .i64 (-(i)))) rfl ?_
      refine aops_end ?_
      exact ⟨_, ⟨trivial, rfl⟩, Wk.sub (And.intro (by first | rfl | exact congrArg (nm _) (by omega) | exact nm_int (by omega) | exact nm_int (by simp [IntKind.wrap, IntKind.bits, IntKind.signed]; omega)) (And.intro (by first | rfl | exact bp_congr (by first | omega | simp) | exact bl_bp (by first | omega | simp)) (And.intro rfl (trivial)))) (And.intro rfl (trivial))⟩
    · refine awp_skip ?_
      exact ⟨_, ⟨trivial, rfl⟩, Wk.sub (And.intro (by first | rfl | exact congrArg (nm _) (by omega) | exact nm_int (by omega) | exact nm_int (by simp [IntKind.wrap, IntKind.bits, IntKind.signed]; omega)) (And.intro (by first | rfl | exact bp_congr (by first | omega | simp) | exact bl_bp (by first | omega | simp)) (And.intro rfl (trivial)))) (And.intro rfl (trivial))⟩
  rintro _ ⟨-, rfl⟩
  refine awp_seq fun K3 hK3 => ?_
  refine awp_region rfl ?_
  refine o_as (AV.lit (.slice none 0 0)) rfl ?_
  refine aops_end ?_
  refine hK3 _ ?_
  refine awp_seq fun K4 hK4 => ?_
  refine awp_block ?_
  refine awp_loopR (fun κ σ => ∃ (x : Nat), ∃ (r : List Nat), (x ≤ 4611686018427387904) ∧ (r ++ digs x = digs i.natAbs) ∧ (x) = κ ∧ σ = ⟨[(2, (AV.ref 2 (0))), (4, (AV.row 3)), (0, (nm .i64 (x))), (3, (bp (i < 0)))], [(2, (AO.var 41 [(AV.lit (.bool false)), (AV.lit (.slice none 0 0))])), (3, (AO.row 3 1 (ns .i64 (r))))]⟩) ⟨_, _, ⟨i.natAbs, [], (by omega), rfl, rfl, rfl⟩, ?wk1⟩ ?rd1
  case wk1 =>
    exact Wk.trans (Wk.newNil (i := 4) (id := 601) (e := 3) (sz := 1) rfl rfl (by decide)) (Wk.trans (Wk.sub (σ' := ⟨[(2, (AV.ref 2 (0))), (4, (AV.row 601)), (0, (nm .i64 (i.natAbs))), (3, (bp (i < 0)))], [(2, (AO.var 41 [(AV.lit (.bool false)), (AV.lit (.slice none 0 0))])), (601, (AO.row 3 1 (ns .i64 ([]))))]⟩) (And.intro rfl (And.intro rfl (And.intro rfl (And.intro rfl (trivial))))) (And.intro rfl (And.intro rfl (trivial)))) (Wk.trans (Wk.ren (id := 601) (id' := 3) rfl) (Wk.sub (And.intro rfl (And.intro (by first | rfl | (simp)) (And.intro (by first | rfl | exact congrArg (nm _) (by omega) | exact nm_int (by omega) | exact nm_int (by simp [IntKind.wrap, IntKind.bits, IntKind.signed]; omega)) (And.intro rfl (trivial))))) (And.intro rfl (And.intro (by first | rfl | exact row_ns (by simp)) (trivial))))))
  rintro κ _ ⟨x, r, hx, hr, rfl, rfl⟩
  have hlen := fun h => of_len hr h (by omega)
  refine awp_seq fun K5 hK5 => ?_
  refine awp_seq fun K6 hK6 => ?_
  refine awp_region rfl ?_
  refine o_mv (nm .i64 (x)) rfl ?_
  refine n_gtr (x) (0) Gd.none rfl rfl ?_
  refine aops_end ?_
  refine hK6 _ ?_
  refine awp_condQ (q := (0) < (x)) rfl (fun h2 => ?_) (fun h2 => ?_)
  · refine awp_skip ?_
    refine hK5 _ ?_
    refine awp_block ?_
    refine awp_seq fun K7 hK7 => ?_
    refine awp_region rfl ?_
    refine o_mv (AV.row 3) rfl ?_
    refine o_mv (nm .i64 (x)) rfl ?_
    refine n_rem (x) (1000000000) Gd.none rfl rfl (by omega) ?_
    refine o_buildSlice 201 (ns .i64 ([(x) % (1000000000)])) [(0, [(nm .i64 ((x) % (1000000000)))])] Gd.none Wb_tE25 rfl Wb_tO3 rfl rfl rfl rfl rfl rfl rfl ?_
    refine n_append 202 (r) ([(x) % (1000000000)]) [(201, (AO.row 3 1 (ns .i64 ([(x) % (1000000000)])))), (2, (AO.var 41 [(AV.lit (.bool false)), (AV.lit (.slice none 0 0))]))] Gd.none Wb_tE25 Wb_tO3 rfl rfl rfl rfl rfl (by have hl' := hlen (by assumption); simp only [List.length_append, List.length_cons, List.length_nil]; omega) (by decide) rfl rfl ?_
    refine o_as (AV.row 202) rfl ?_
    refine aops_end ?_
    refine hK7 _ ?_
    refine awp_region rfl ?_
    refine o_mv (nm .i64 (x)) rfl ?_
    refine n_quo (x) (1000000000) Gd.none rfl rfl (by omega) (by simp only [topOf]; omega) ?_
    refine o_as (nm .i64 ((x) / (1000000000))) rfl ?_
    refine aops_end ?_
    refine ⟨_, _, ?lt, ⟨(x) / (1000000000), (r) ++ ([(x) % (1000000000)]), (by omega), (of_step hr (by assumption)), rfl, rfl⟩, ?wk⟩
    case lt => omega
    case wk => exact Wk.trans (Wk.sub (σ' := ⟨[(2, (AV.ref 2 (0))), (4, (AV.row 202)), (0, (nm .i64 ((x) / (1000000000)))), (3, (bp (i < 0)))], [(2, (AO.var 41 [(AV.lit (.bool false)), (AV.lit (.slice none 0 0))])), (202, (AO.row 3 1 (ns .i64 ((r) ++ ([(x) % (1000000000)])))))]⟩) (And.intro rfl (And.intro rfl (And.intro rfl (And.intro rfl (trivial))))) (And.intro rfl (And.intro rfl (trivial)))) (Wk.trans (Wk.ren (id := 202) (id' := 3) rfl) (Wk.sub (And.intro rfl (And.intro (by first | rfl | (simp)) (And.intro (by first | rfl | exact congrArg (nm _) (by omega) | exact nm_int (by omega) | exact nm_int (by simp [IntKind.wrap, IntKind.bits, IntKind.signed]; omega)) (And.intro rfl (trivial))))) (And.intro rfl (And.intro (by first | rfl | exact row_ns (by simp)) (trivial)))))
  · refine awp_exit ?_
    refine hK4 _ ?_
    refine awp_seq fun K8 hK8 => ?_
    refine awp_region rfl ?_
    refine o_mv (bp (i < 0)) rfl ?_
    refine o_mv (AV.row 3) rfl ?_
    refine o_build [(bp (i < 0)), (AV.row 3)] [(0, [(bp (i < 0))]), (1, [(AV.row 3)])] Gd.none Wb_tP41 Wb_tO41 rfl rfl rfl ?_
    refine o_store [(2, (AO.var 41 [(bp (i < 0)), (AV.row 3)])), (3, (AO.row 3 1 (ns .i64 (r))))] Gd.none Wb_tZ41 rfl rfl rfl rfl rfl rfl ?_
    refine aops_end ?_
    refine hK8 _ ?_
    refine awp_wk (σ' := ⟨[(2, (AV.ref 2 (0)))], [(2, (AO.var 41 [(bp (i < 0)), (AV.row 3)])), (3, (AO.row 3 1 (ns .i64 (r))))]⟩) (Wk.sub (And.intro rfl (trivial)) (And.intro rfl (And.intro rfl (trivial)))) ?_
    refine awp_wk (σ' := ⟨[(2, (AV.ref 2 (0)))], [(2, (AO.var 41 [(bp (i < 0)), (AV.sl 1 (ns .i64 (r)))]))]⟩) (Wk.freeze (id := 3) (e := 3) (sz := 1) (cs := (ns .i64 (r))) rfl) ?_
    refine awp_ret ?_
    refine post_ret ⟨[(AV.agg [(bp (i < 0)), (AV.sl 1 (ns .i64 (r)))])], And.intro ⟨2, (AO.var 41 [(bp (i < 0)), (AV.sl 1 (ns .i64 (r)))]), rfl, rfl, rfl, Or.inl ⟨Wb_tA41, AV.le_refl _⟩⟩ (trivial), rfl, ?_⟩
    refine (intK_eq (k := .i64) (bp_congr (by omega)) (of_end hr (by assumption))).symm

theorem c_wOf (i : Int) (h0 : -4611686018427387904 ≤ i) (h1' : i ≤ 4611686018427387904) : ECalls cx 70 [(AV.lit (.int .i64 (i)))] (intW (i)) := by
  refine ecalls_of_awp Tryz.func70 (c := _) rfl (Nat.le_of_ble_eq_true rfl) ?_
  show awp cx 25 _ (postF cx Tryz.f70 _) ⟨[(0, (AV.lit (.int .i64 (i))))], []⟩
  refine awp_seq fun K0 hK0 => ?_
  refine awp_region rfl ?_
  refine o_alloc 2 [(AV.lit (.bool false)), (AV.lit (.slice none 0 0))] Gd.none Wb_tO89 rfl rfl rfl ?_
  refine aops_end ?_
  refine hK0 _ ?_
  refine awp_seq fun K1 hK1 => ?_
  refine awp_region rfl ?_
  refine o_as (AV.lit (.slice none 0 0)) rfl ?_
  refine aops_end ?_
  refine hK1 _ ?_
  refine awp_seq fun K2 hK2 => ?_
  refine awp_region rfl ?_
  refine o_mv (AV.lit (.int .i64 (i))) rfl ?_
  refine o_convW (a := i) Gd.none rfl Wb_tI3 Wb_tI106 ?_
  refine o_as (AV.lit (.int .u64 (IntKind.wrap .u64 (i)))) rfl ?_
  refine aops_end ?_
  refine hK2 _ ?_
  refine awp_seqJ (J := fun σ => True ∧ σ = ⟨[(0, (AV.lit (.int .i64 (i)))), (4, (nm .u64 (i.natAbs))), (3, (AV.lit (.slice none 0 0))), (2, (AV.ref 2 (0)))], [(2, (AO.var 89 [(AV.lit (.bool false)), (AV.lit (.slice none 0 0))]))]⟩) ?ja0 ?jb0
  case ja0 =>
    refine awp_seq fun K3 hK3 => ?_
    refine awp_region rfl ?_
    refine o_mv (AV.lit (.int .i64 (i))) rfl ?_
    refine o_lss (a := (i)) (c := (((0 : Nat) : Int))) Gd.none rfl rfl ?_
    refine aops_end ?_
    refine hK3 _ ?_
    refine awp_condQ (q := (i) < (((0 : Nat) : Int))) rfl (fun h1 => ?_) (fun h1 => ?_)
    · refine awp_region rfl ?_
      refine o_mv (AV.lit (.int .u64 (IntKind.wrap .u64 (i)))) rfl ?_
      refine o_negW (a := IntKind.wrap .u64 (i)) Gd.none rfl ?_
      refine o_as (AV.lit (.int .u64 (IntKind.wrap .u64 (-(IntKind.wrap .u64 (i)))))) rfl ?_
      refine aops_end ?_
      exact ⟨_, ⟨trivial, rfl⟩, Wk.sub (And.intro rfl (And.intro (by first | rfl | exact congrArg (nm _) (by omega) | exact nm_int (by omega) | exact nm_int (by simp [IntKind.wrap, IntKind.bits, IntKind.signed]; omega)) (And.intro rfl (And.intro rfl (trivial))))) (And.intro rfl (trivial))⟩
    · refine awp_skip ?_
      exact ⟨_, ⟨trivial, rfl⟩, Wk.sub (And.intro rfl (And.intro (by first | rfl | exact congrArg (nm _) (by omega) | exact nm_int (by omega) | exact nm_int (by simp [IntKind.wrap, IntKind.bits, IntKind.signed]; omega)) (And.intro rfl (And.intro rfl (trivial))))) (And.intro rfl (trivial))⟩
  rintro _ ⟨-, rfl⟩
  refine awp_seq fun K4 hK4 => ?_
  refine awp_block ?_
  refine awp_loopR (fun κ σ => ∃ (x : Nat), ∃ (r : List Nat), (x ≤ 4611686018427387904) ∧ (r ++ digs x = digs i.natAbs) ∧ (x) = κ ∧ σ = ⟨[(2, (AV.ref 2 (0))), (3, (AV.row 3)), (4, (nm .u64 (x))), (0, (AV.lit (.int .i64 (i))))], [(2, (AO.var 89 [(AV.lit (.bool false)), (AV.lit (.slice none 0 0))])), (3, (AO.row 111 1 (ns .u32 (r))))]⟩) ⟨_, _, ⟨i.natAbs, [], (by omega), rfl, rfl, rfl⟩, ?wk1⟩ ?rd1
  case wk1 =>
    exact Wk.trans (Wk.newNil (i := 3) (id := 601) (e := 111) (sz := 1) rfl rfl (by decide)) (Wk.trans (Wk.sub (σ' := ⟨[(2, (AV.ref 2 (0))), (3, (AV.row 601)), (4, (nm .u64 (i.natAbs))), (0, (AV.lit (.int .i64 (i))))], [(2, (AO.var 89 [(AV.lit (.bool false)), (AV.lit (.slice none 0 0))])), (601, (AO.row 111 1 (ns .u32 ([]))))]⟩) (And.intro rfl (And.intro rfl (And.intro rfl (And.intro rfl (trivial))))) (And.intro rfl (And.intro rfl (trivial)))) (Wk.trans (Wk.ren (id := 601) (id' := 3) rfl) (Wk.sub (And.intro rfl (And.intro (by first | rfl | (simp)) (And.intro (by first | rfl | exact congrArg (nm _) (by omega) | exact nm_int (by omega) | exact nm_int (by simp [IntKind.wrap, IntKind.bits, IntKind.signed]; omega)) (And.intro rfl (trivial))))) (And.intro rfl (And.intro (by first | rfl | exact row_ns (by simp)) (trivial))))))
  rintro κ _ ⟨x, r, hx, hr, rfl, rfl⟩
  have hlen := fun h => of_len hr h (by omega)
  refine awp_seq fun K5 hK5 => ?_
  refine awp_seq fun K6 hK6 => ?_
  refine awp_region rfl ?_
  refine o_mv (nm .u64 (x)) rfl ?_
  refine n_gtr (x) (0) Gd.none rfl rfl ?_
  refine aops_end ?_
  refine hK6 _ ?_
  refine awp_condQ (q := (0) < (x)) rfl (fun h2 => ?_) (fun h2 => ?_)
  · refine awp_skip ?_
    refine hK5 _ ?_
    refine awp_seq fun K7 hK7 => ?_
    refine awp_block ?_
    refine awp_region rfl ?_
    refine o_mv (AV.row 3) rfl ?_
    refine o_mv (nm .u64 (x)) rfl ?_
    refine n_rem (x) (1000000000) Gd.none rfl rfl (by omega) ?_
    refine n_conv ((x) % (1000000000)) Gd.none rfl Wb_tI106 Wb_tI111 (by simp only [topOf]; omega) ?_
    refine o_buildSlice 201 (ns .u32 ([(x) % (1000000000)])) [(0, [(nm .u32 ((x) % (1000000000)))])] Gd.none Wb_tE87 rfl Wb_tO111 rfl rfl rfl rfl rfl rfl rfl ?_
    refine n_append 202 (r) ([(x) % (1000000000)]) [(201, (AO.row 111 1 (ns .u32 ([(x) % (1000000000)])))), (2, (AO.var 89 [(AV.lit (.bool false)), (AV.lit (.slice none 0 0))]))] Gd.none Wb_tE87 Wb_tO111 rfl rfl rfl rfl rfl (by have hl' := hlen (by assumption); simp only [List.length_append, List.length_cons, List.length_nil]; omega) (by decide) rfl rfl ?_
    refine o_as (AV.row 202) rfl ?_
    refine aops_end ?_
    refine hK7 _ ?_
    refine awp_region rfl ?_
    refine o_mv (nm .u64 (x)) rfl ?_
    refine n_quo (x) (1000000000) Gd.none rfl rfl (by omega) (by simp only [topOf]; omega) ?_
    refine o_as (nm .u64 ((x) / (1000000000))) rfl ?_
    refine aops_end ?_
    refine ⟨_, _, ?lt, ⟨(x) / (1000000000), (r) ++ ([(x) % (1000000000)]), (by omega), (of_step hr (by assumption)), rfl, rfl⟩, ?wk⟩
    case lt => omega
    case wk => exact Wk.trans (Wk.sub (σ' := ⟨[(2, (AV.ref 2 (0))), (3, (AV.row 202)), (4, (nm .u64 ((x) / (1000000000)))), (0, (AV.lit (.int .i64 (i))))], [(2, (AO.var 89 [(AV.lit (.bool false)), (AV.lit (.slice none 0 0))])), (202, (AO.row 111 1 (ns .u32 ((r) ++ ([(x) % (1000000000)])))))]⟩) (And.intro rfl (And.intro rfl (And.intro rfl (And.intro rfl (trivial))))) (And.intro rfl (And.intro rfl (trivial)))) (Wk.trans (Wk.ren (id := 202) (id' := 3) rfl) (Wk.sub (And.intro rfl (And.intro (by first | rfl | (simp)) (And.intro (by first | rfl | exact congrArg (nm _) (by omega) | exact nm_int (by omega) | exact nm_int (by simp [IntKind.wrap, IntKind.bits, IntKind.signed]; omega)) (And.intro rfl (trivial))))) (And.intro rfl (And.intro (by first | rfl | exact row_ns (by simp)) (trivial)))))
  · refine awp_exit ?_
    refine hK4 _ ?_
    refine awp_seq fun K8 hK8 => ?_
    refine awp_region rfl ?_
    refine o_mv (AV.lit (.int .i64 (i))) rfl ?_
    refine o_lss (a := (i)) (c := (((0 : Nat) : Int))) Gd.none rfl rfl ?_
    refine o_mv (AV.row 3) rfl ?_
    refine o_build [(bp ((i) < (((0 : Nat) : Int)))), (AV.row 3)] [(0, [(bp ((i) < (((0 : Nat) : Int))))]), (1, [(AV.row 3)])] Gd.none Wb_tP89 Wb_tO89 rfl rfl rfl ?_
    refine o_store [(2, (AO.var 89 [(bp ((i) < (((0 : Nat) : Int)))), (AV.row 3)])), (3, (AO.row 111 1 (ns .u32 (r))))] Gd.none Wb_tZ89 rfl rfl rfl rfl rfl rfl ?_
    refine aops_end ?_
    refine hK8 _ ?_
    refine awp_wk (σ' := ⟨[(2, (AV.ref 2 (0)))], [(2, (AO.var 89 [(bp ((i) < (((0 : Nat) : Int)))), (AV.row 3)])), (3, (AO.row 111 1 (ns .u32 (r))))]⟩) (Wk.sub (And.intro rfl (trivial)) (And.intro rfl (And.intro rfl (trivial)))) ?_
    refine awp_wk (σ' := ⟨[(2, (AV.ref 2 (0)))], [(2, (AO.var 89 [(bp ((i) < (((0 : Nat) : Int)))), (AV.sl 1 (ns .u32 (r)))]))]⟩) (Wk.freeze (id := 3) (e := 111) (sz := 1) (cs := (ns .u32 (r))) rfl) ?_
    refine awp_ret ?_
    refine post_ret ⟨[(AV.agg [(bp ((i) < (((0 : Nat) : Int)))), (AV.sl 1 (ns .u32 (r)))])], And.intro ⟨2, (AO.var 89 [(bp ((i) < (((0 : Nat) : Int)))), (AV.sl 1 (ns .u32 (r)))]), rfl, rfl, rfl, Or.inl ⟨Wb_tA89, AV.le_refl _⟩⟩ (trivial), rfl, ?_⟩
    refine (intK_eq (k := .u32) (bp_congr (by omega)) (of_end hr (by assumption))).symm

theorem c_rMul (x y : Int) (hx : (digs x.natAbs).length ≤ 1000000000) (hy : (digs y.natAbs).length ≤ 1000000000) : ECalls cx 20 [(intR (x)), (intR (y))] (intR (x * y)) := by
  refine ecalls_of_awp Tryz.func20 (c := _) rfl (Nat.le_of_ble_eq_true rfl) ?_
  show awp cx 72 _ (postF cx Tryz.f20 _) ⟨[(0, (intR (x))), (1, (intR (y)))], []⟩
  refine awp_seq fun K0 hK0 => ?_
  refine awp_region rfl ?_
  refine o_box 2 [(bp (x < 0)), (AV.sl 1 (ns .i64 (digs (x).natAbs)))] Gd.none rfl rfl ?_
  refine o_box 3 [(bp (y < 0)), (AV.sl 1 (ns .i64 (digs (y).natAbs)))] Gd.none rfl rfl ?_
  refine o_alloc 4 [(AV.lit (.bool false)), (AV.lit (.slice none 0 0))] Gd.none Wb_tO41 rfl rfl rfl ?_
  refine aops_end ?_
  refine hK0 _ ?_
  refine awp_seq fun K1 hK1 => ?_
  refine awp_region rfl ?_
  refine o_fieldRef 1 Gd.none Wb_tF41_1 rfl rfl ?_
  refine o_loadS (AV.sl 1 (ns .i64 (digs (x).natAbs))) Gd.none Wb_tS25 rfl rfl rfl ?_
  refine n_len (digs (x).natAbs) Gd.none Wb_tU25 rfl ?_
  refine o_fieldRef 1 Gd.none Wb_tF41_1 rfl rfl ?_
  refine o_loadS (AV.sl 1 (ns .i64 (digs (y).natAbs))) Gd.none Wb_tS25 rfl rfl rfl ?_
  refine n_len (digs (y).natAbs) Gd.none Wb_tU25 rfl ?_
  refine n_add ((digs (x).natAbs).length) ((digs (y).natAbs).length) Gd.none rfl rfl (by simp only [topOf]; omega) ?_
  refine n_add (((digs (x).natAbs).length) + ((digs (y).natAbs).length)) (1) Gd.none rfl rfl (by simp only [topOf]; omega) ?_
  refine n_make 5 ((((digs (x).natAbs).length) + ((digs (y).natAbs).length)) + (1)) Gd.none Wb_tE25 Wb_tO3 rfl rfl (by omega) rfl rfl ?_
  refine o_as (AV.row 5) rfl ?_
  refine aops_end ?_
  refine hK1 _ ?_
  refine awp_seq fun K2 hK2 => ?_
  refine awp_seq fun K3 hK3 => ?_
  refine awp_region rfl ?_
  refine o_as (nm .i64 (0)) rfl ?_
  refine aops_end ?_
  refine hK3 _ ?_
  refine awp_block ?_
  refine awp_loopR (fun κ σ => ∃ (i : Nat), ∃ (o : List Nat), (o.length = (digs x.natAbs).length + (digs y.natAbs).length + 1) ∧ (Dig o) ∧ (i ≤ (digs x.natAbs).length) ∧ (val o = val ((digs x.natAbs).take i) * y.natAbs) ∧ ((digs x.natAbs).length - i) = κ ∧ σ = ⟨[(2, (AV.ref 2 (0))), (3, (AV.ref 3 (0))), (4, (AV.ref 4 (0))), (5, (AV.row 5)), (6, (nm .i64 (i)))], [(2, (oZ 41 .i64 (x))), (3, (oZ 41 .i64 (y))), (4, (AO.var 41 [(AV.lit (.bool false)), (AV.lit (.slice none 0 0))])), (5, (AO.row 3 1 (ns .i64 (o))))]⟩) ⟨_, _, ⟨0, List.replicate ((digs x.natAbs).length + (digs y.natAbs).length + 1) 0, (by simp), (Dig.repl _), (by omega), (by rw [val_repl]; simp [val]), rfl, rfl⟩, ?wk0⟩ ?rd0
  case wk0 =>
    exact Wk.sub (And.intro rfl (And.intro rfl (And.intro rfl (And.intro rfl (And.intro (by first | rfl | exact congrArg (nm _) (by omega) | exact nm_int (by omega) | exact nm_int (by simp [IntKind.wrap, IntKind.bits, IntKind.signed]; omega)) (trivial)))))) (And.intro rfl (And.intro rfl (And.intro rfl (And.intro (by first | rfl | exact row_ns (by simp)) (trivial)))))
  rintro κ _ ⟨i, o, hl, hd, hi, hv, rfl, rfl⟩
  refine awp_seq fun K4 hK4 => ?_
  refine awp_seq fun K5 hK5 => ?_
  refine awp_region rfl ?_
  refine o_mv (nm .i64 (i)) rfl ?_
  refine o_fieldRef 1 Gd.none Wb_tF41_1 rfl rfl ?_
  refine o_loadS (AV.sl 1 (ns .i64 (digs (x).natAbs))) Gd.none Wb_tS25 rfl rfl rfl ?_
  refine n_len (digs (x).natAbs) Gd.none Wb_tU25 rfl ?_
  refine n_lss (i) ((digs (x).natAbs).length) Gd.none rfl rfl ?_
  refine aops_end ?_
  refine hK5 _ ?_
  refine awp_condQ (q := (i) < ((digs (x).natAbs).length)) rfl (fun h1 => ?_) (fun h1 => ?_)
  · refine awp_skip ?_
    refine hK4 _ ?_
    refine awp_seq fun K6 hK6 => ?_
    refine awp_block ?_
    refine awp_seq fun K7 hK7 => ?_
    refine awp_region rfl ?_
    refine o_as (nm .i64 (0)) rfl ?_
    refine aops_end ?_
    refine hK7 _ ?_
    refine awp_seq fun K8 hK8 => ?_
    refine awp_region rfl ?_
    refine o_as (nm .i64 (0)) rfl ?_
    refine aops_end ?_
    refine hK8 _ ?_
    refine awp_block ?_
    refine awp_loopR (fun κ σ => ∃ (k : Nat), ∃ (c : Nat), ∃ (o : List Nat), (o.length = (digs x.natAbs).length + (digs y.natAbs).length + 1) ∧ (Dig o) ∧ (k ≤ (digs y.natAbs).length + 1) ∧ (c < 1000000000) ∧ (val o + 1000000000 ^ (i + k) * c = val ((digs x.natAbs).take i) * y.natAbs + 1000000000 ^ i * ((digs x.natAbs).getD i 0 * val ((digs y.natAbs).take k))) ∧ ((digs y.natAbs).length + 2 - k) = κ ∧ σ = ⟨[(2, (AV.ref 2 (0))), (3, (AV.ref 3 (0))), (4, (AV.ref 4 (0))), (5, (AV.row 5)), (6, (nm .i64 (i))), (7, (nm .i64 (c))), (8, (nm .i64 (k)))], [(2, (oZ 41 .i64 (x))), (3, (oZ 41 .i64 (y))), (4, (AO.var 41 [(AV.lit (.bool false)), (AV.lit (.slice none 0 0))])), (5, (AO.row 3 1 (ns .i64 (o))))]⟩) ⟨_, _, ⟨0, 0, _, hl, hd, (by omega), (by omega), (by simp only [Nat.mul_zero, Nat.add_zero, hv, List.take_zero, val]), rfl, rfl⟩, ?wk1⟩ ?rd1
    case wk1 =>
      exact Wk.sub (And.intro rfl (And.intro rfl (And.intro rfl (And.intro rfl (And.intro rfl (And.intro (by first | rfl | exact congrArg (nm _) (by omega) | exact nm_int (by omega) | exact nm_int (by simp [IntKind.wrap, IntKind.bits, IntKind.signed]; omega)) (And.intro (by first | rfl | exact congrArg (nm _) (by omega) | exact nm_int (by omega) | exact nm_int (by simp [IntKind.wrap, IntKind.bits, IntKind.signed]; omega)) (trivial)))))))) (And.intro rfl (And.intro rfl (And.intro rfl (And.intro rfl (trivial)))))
    rintro κ _ ⟨k, c, o, hl2, hd2, hk, hc, hv2, rfl, rfl⟩
    have hA := (digs_dig x.natAbs).mulb (digs_dig y.natAbs) i k
    have hO := hd2.getD (i + k)
    have hkc := mul_k hv2
    refine awp_seq fun K9 hK9 => ?_
    refine awp_seq fun K10 hK10 => ?_
    refine awp_region rfl ?_
    refine o_mv (nm .i64 (k)) rfl ?_
    refine o_fieldRef 1 Gd.none Wb_tF41_1 rfl rfl ?_
    refine o_loadS (AV.sl 1 (ns .i64 (digs (y).natAbs))) Gd.none Wb_tS25 rfl rfl rfl ?_
    refine n_len (digs (y).natAbs) Gd.none Wb_tU25 rfl ?_
    refine n_lss (k) ((digs (y).natAbs).length) Gd.none rfl rfl ?_
    refine o_mv (bp ((k) < ((digs (y).natAbs).length))) rfl ?_
    refine o_splitP (q := (k) < ((digs (y).natAbs).length)) 31 rfl (fun h2 => ?_) (fun h2 => ?_)
    · refine o_skip rfl rfl (decide_eq_true h2) ?_
      refine o_skip rfl rfl (decide_eq_true h2) ?_
      refine o_pickT (AV.lit (.bool true)) Gd.none rfl (decide_eq_true h2) rfl ?_
      refine aops_end ?_
      refine hK10 _ ?_
      refine awp_condB (b := true) rfl (fun _ => ?_) (fun hh => absurd (hh.symm.trans rfl) (by decide))
      refine awp_skip ?_
      refine hK9 _ ?_
      refine awp_seq fun K11 hK11 => ?_
      refine awp_block ?_
      refine awp_seq fun K12 hK12 => ?_
      refine awp_regionD rfl ?_
      refine o_mv (AV.row 5) rfl ?_
      refine o_mv (nm .i64 (i)) rfl ?_
      refine o_mv (nm .i64 (k)) rfl ?_
      refine n_add (i) (k) Gd.none rfl rfl (by simp only [topOf]; omega) ?_
      refine n_indexRow (o) ((i) + (k)) Gd.none Wb_tE25 rfl rfl rfl (by first | omega | (have := hkc (by assumption); omega)) ?_
      refine n_loadRow (o) ((i) + (k)) Gd.none Wb_tS3 rfl rfl (by first | omega | (have := hkc (by assumption); omega)) ?_
      refine o_fieldRef 1 Gd.none Wb_tF41_1 rfl rfl ?_
      refine o_loadS (AV.sl 1 (ns .i64 (digs (x).natAbs))) Gd.none Wb_tS25 rfl rfl rfl ?_
      refine o_mv (nm .i64 (i)) rfl ?_
      refine n_index (digs (x).natAbs) (i) Gd.none Wb_tE25 rfl rfl (by omega) ?_
      refine n_loadI (digs (x).natAbs) (i) Gd.none Wb_tS3 rfl (by omega) ?_
      refine o_fieldRef 1 Gd.none Wb_tF41_1 rfl rfl ?_
      refine o_loadS (AV.sl 1 (ns .i64 (digs (y).natAbs))) Gd.none Wb_tS25 rfl rfl rfl ?_
      refine o_mv (nm .i64 (k)) rfl ?_
      refine o_ct (c_rPart (digs (y).natAbs) (k)) Gd.none Wb_tC41 rfl ?_
      refine n_mul ((digs (x).natAbs).getD (i) 0) ((digs (y).natAbs).getD (k) 0) Gd.none rfl rfl (by simp only [topOf]; omega) ?_
      refine n_add ((o).getD ((i) + (k)) 0) (((digs (x).natAbs).getD (i) 0) * ((digs (y).natAbs).getD (k) 0)) Gd.none rfl rfl (by simp only [topOf]; omega) ?_
      refine o_mv (nm .i64 (c)) rfl ?_
      refine n_add (((o).getD ((i) + (k)) 0) + (((digs (x).natAbs).getD (i) 0) * ((digs (y).natAbs).getD (k) 0))) (c) Gd.none rfl rfl (by simp only [topOf]; omega) ?_
      refine o_as (nm .i64 ((((o).getD ((i) + (k)) 0) + (((digs (x).natAbs).getD (i) 0) * ((digs (y).natAbs).getD (k) 0))) + (c))) rfl ?_
      refine aops_end ⟨by kernel_rfl, ?_⟩
      refine hK12 _ ?_
      refine awp_seq fun K13 hK13 => ?_
      refine awp_region rfl ?_
      refine o_mv (AV.row 5) rfl ?_
      refine o_mv (nm .i64 (i)) rfl ?_
      refine o_mv (nm .i64 (k)) rfl ?_
      refine n_add (i) (k) Gd.none rfl rfl (by simp only [topOf]; omega) ?_
      refine o_mv (nm .i64 ((((o).getD ((i) + (k)) 0) + (((digs (x).natAbs).getD (i) 0) * ((digs (y).natAbs).getD (k) 0))) + (c))) rfl ?_
      refine n_rem ((((o).getD ((i) + (k)) 0) + (((digs (x).natAbs).getD (i) 0) * ((digs (y).natAbs).getD (k) 0))) + (c)) (1000000000) Gd.none rfl rfl (by omega) ?_
      refine n_indexRow (o) ((i) + (k)) Gd.none Wb_tE25 rfl rfl rfl (by first | omega | (have := hkc (by assumption); omega)) ?_
      refine n_storeRow (o) ((i) + (k)) (((((o).getD ((i) + (k)) 0) + (((digs (x).natAbs).getD (i) 0) * ((digs (y).natAbs).getD (k) 0))) + (c)) % (1000000000)) [(2, (oZ 41 .i64 (x))), (3, (oZ 41 .i64 (y))), (4, (AO.var 41 [(AV.lit (.bool false)), (AV.lit (.slice none 0 0))])), (5, (AO.row 3 1 (ns .i64 ((o).set ((i) + (k)) (((((o).getD ((i) + (k)) 0) + (((digs (x).natAbs).getD (i) 0) * ((digs (y).natAbs).getD (k) 0))) + (c)) % (1000000000))))))] Gd.none Wb_tZ3 rfl rfl rfl (by first | omega | (have := hkc (by assumption); omega)) rfl ?_
      refine aops_end ?_
      refine hK13 _ ?_
      refine awp_region rfl ?_
      refine o_mv (nm .i64 ((((o).getD ((i) + (k)) 0) + (((digs (x).natAbs).getD (i) 0) * ((digs (y).natAbs).getD (k) 0))) + (c))) rfl ?_
      refine n_quo ((((o).getD ((i) + (k)) 0) + (((digs (x).natAbs).getD (i) 0) * ((digs (y).natAbs).getD (k) 0))) + (c)) (1000000000) Gd.none rfl rfl (by omega) (by simp only [topOf]; omega) ?_
      refine o_as (nm .i64 (((((o).getD ((i) + (k)) 0) + (((digs (x).natAbs).getD (i) 0) * ((digs (y).natAbs).getD (k) 0))) + (c)) / (1000000000))) rfl ?_
      refine aops_end ?_
      refine hK11 _ ?_
      refine awp_region rfl ?_
      refine o_mv (nm .i64 (k)) rfl ?_
      refine n_add (k) (1) Gd.none rfl rfl (by simp only [topOf]; omega) ?_
      refine o_as (nm .i64 ((k) + (1))) rfl ?_
      refine aops_end ?_
      refine ⟨_, _, ?lt, ⟨k + 1, ((((o).getD ((i) + (k)) 0) + (((digs (x).natAbs).getD (i) 0) * ((digs (y).natAbs).getD (k) 0))) + (c)) / (1000000000), (o).set ((i) + (k)) (((((o).getD ((i) + (k)) 0) + (((digs (x).natAbs).getD (i) 0) * ((digs (y).natAbs).getD (k) 0))) + (c)) % (1000000000)), (by simp only [List.length_set]; exact hl2), (hd2.set (Nat.mod_lt _ (by decide))), (by omega), (by omega), (mul_step (by omega) hv2 rfl), rfl, rfl⟩, ?wk⟩
      case lt => omega
      case wk => exact Wk.sub (And.intro rfl (And.intro rfl (And.intro rfl (And.intro rfl (And.intro rfl (And.intro (by first | rfl | exact congrArg (nm _) (by omega) | exact nm_int (by omega) | exact nm_int (by simp [IntKind.wrap, IntKind.bits, IntKind.signed]; omega)) (And.intro (by first | rfl | exact congrArg (nm _) (by omega) | exact nm_int (by omega) | exact nm_int (by simp [IntKind.wrap, IntKind.bits, IntKind.signed]; omega)) (trivial)))))))) (And.intro rfl (And.intro rfl (And.intro rfl (And.intro (by first | rfl | exact row_ns (by simp)) (trivial)))))
    · refine o_move (nm .i64 (c)) (Gd.yes rfl rfl (decide_eq_false h2)) rfl ?_
      refine n_gtr (c) (0) (Gd.yes rfl rfl (decide_eq_false h2)) rfl rfl ?_
      refine o_pickF (bp ((0) < (c))) Gd.none rfl (decide_eq_false h2) rfl ?_
      refine aops_end ?_
      refine hK10 _ ?_
      refine awp_condQ (q := (0) < (c)) rfl (fun h3 => ?_) (fun h3 => ?_)
      · refine awp_skip ?_
        refine hK9 _ ?_
        refine awp_seq fun K14 hK14 => ?_
        refine awp_block ?_
        refine awp_seq fun K15 hK15 => ?_
        refine awp_regionD rfl ?_
        refine o_mv (AV.row 5) rfl ?_
        refine o_mv (nm .i64 (i)) rfl ?_
        refine o_mv (nm .i64 (k)) rfl ?_
        refine n_add (i) (k) Gd.none rfl rfl (by simp only [topOf]; omega) ?_
        refine n_indexRow (o) ((i) + (k)) Gd.none Wb_tE25 rfl rfl rfl (by first | omega | (have := hkc (by assumption); omega)) ?_
        refine n_loadRow (o) ((i) + (k)) Gd.none Wb_tS3 rfl rfl (by first | omega | (have := hkc (by assumption); omega)) ?_
        refine o_fieldRef 1 Gd.none Wb_tF41_1 rfl rfl ?_
        refine o_loadS (AV.sl 1 (ns .i64 (digs (x).natAbs))) Gd.none Wb_tS25 rfl rfl rfl ?_
        refine o_mv (nm .i64 (i)) rfl ?_
        refine n_index (digs (x).natAbs) (i) Gd.none Wb_tE25 rfl rfl (by omega) ?_
        refine n_loadI (digs (x).natAbs) (i) Gd.none Wb_tS3 rfl (by omega) ?_
        refine o_fieldRef 1 Gd.none Wb_tF41_1 rfl rfl ?_
        refine o_loadS (AV.sl 1 (ns .i64 (digs (y).natAbs))) Gd.none Wb_tS25 rfl rfl rfl ?_
        refine o_mv (nm .i64 (k)) rfl ?_
        refine o_ct (c_rPart (digs (y).natAbs) (k)) Gd.none Wb_tC41 rfl ?_
        refine n_mul ((digs (x).natAbs).getD (i) 0) ((digs (y).natAbs).getD (k) 0) Gd.none rfl rfl (by simp only [topOf]; omega) ?_
        refine n_add ((o).getD ((i) + (k)) 0) (((digs (x).natAbs).getD (i) 0) * ((digs (y).natAbs).getD (k) 0)) Gd.none rfl rfl (by simp only [topOf]; omega) ?_
        refine o_mv (nm .i64 (c)) rfl ?_
        refine n_add (((o).getD ((i) + (k)) 0) + (((digs (x).natAbs).getD (i) 0) * ((digs (y).natAbs).getD (k) 0))) (c) Gd.none rfl rfl (by simp only [topOf]; omega) ?_
        refine o_as (nm .i64 ((((o).getD ((i) + (k)) 0) + (((digs (x).natAbs).getD (i) 0) * ((digs (y).natAbs).getD (k) 0))) + (c))) rfl ?_
        refine aops_end ⟨by kernel_rfl, ?_⟩
        refine hK15 _ ?_
        refine awp_seq fun K16 hK16 => ?_
        refine awp_region rfl ?_
        refine o_mv (AV.row 5) rfl ?_
        refine o_mv (nm .i64 (i)) rfl ?_
        refine o_mv (nm .i64 (k)) rfl ?_
        refine n_add (i) (k) Gd.none rfl rfl (by simp only [topOf]; omega) ?_
        refine o_mv (nm .i64 ((((o).getD ((i) + (k)) 0) + (((digs (x).natAbs).getD (i) 0) * ((digs (y).natAbs).getD (k) 0))) + (c))) rfl ?_
        refine n_rem ((((o).getD ((i) + (k)) 0) + (((digs (x).natAbs).getD (i) 0) * ((digs (y).natAbs).getD (k) 0))) + (c)) (1000000000) Gd.none rfl rfl (by omega) ?_
        refine n_indexRow (o) ((i) + (k)) Gd.none Wb_tE25 rfl rfl rfl (by first | omega | (have := hkc (by assumption); omega)) ?_
        refine n_storeRow (o) ((i) + (k)) (((((o).getD ((i) + (k)) 0) + (((digs (x).natAbs).getD (i) 0) * ((digs (y).natAbs).getD (k) 0))) + (c)) % (1000000000)) [(2, (oZ 41 .i64 (x))), (3, (oZ 41 .i64 (y))), (4, (AO.var 41 [(AV.lit (.bool false)), (AV.lit (.slice none 0 0))])), (5, (AO.row 3 1 (ns .i64 ((o).set ((i) + (k)) (((((o).getD ((i) + (k)) 0) + (((digs (x).natAbs).getD (i) 0) * ((digs (y).natAbs).getD (k) 0))) + (c)) % (1000000000))))))] Gd.none Wb_tZ3 rfl rfl rfl (by first | omega | (have := hkc (by assumption); omega)) rfl ?_
        refine aops_end ?_
        refine hK16 _ ?_
        refine awp_region rfl ?_
        refine o_mv (nm .i64 ((((o).getD ((i) + (k)) 0) + (((digs (x).natAbs).getD (i) 0) * ((digs (y).natAbs).getD (k) 0))) + (c))) rfl ?_
        refine n_quo ((((o).getD ((i) + (k)) 0) + (((digs (x).natAbs).getD (i) 0) * ((digs (y).natAbs).getD (k) 0))) + (c)) (1000000000) Gd.none rfl rfl (by omega) (by simp only [topOf]; omega) ?_
        refine o_as (nm .i64 (((((o).getD ((i) + (k)) 0) + (((digs (x).natAbs).getD (i) 0) * ((digs (y).natAbs).getD (k) 0))) + (c)) / (1000000000))) rfl ?_
        refine aops_end ?_
        refine hK14 _ ?_
        refine awp_region rfl ?_
        refine o_mv (nm .i64 (k)) rfl ?_
        refine n_add (k) (1) Gd.none rfl rfl (by simp only [topOf]; omega) ?_
        refine o_as (nm .i64 ((k) + (1))) rfl ?_
        refine aops_end ?_
        refine ⟨_, _, ?lt, ⟨k + 1, ((((o).getD ((i) + (k)) 0) + (((digs (x).natAbs).getD (i) 0) * ((digs (y).natAbs).getD (k) 0))) + (c)) / (1000000000), (o).set ((i) + (k)) (((((o).getD ((i) + (k)) 0) + (((digs (x).natAbs).getD (i) 0) * ((digs (y).natAbs).getD (k) 0))) + (c)) % (1000000000)), (by simp only [List.length_set]; exact hl2), (hd2.set (Nat.mod_lt _ (by decide))), (by have := hkc (by assumption); omega), (by omega), (mul_step (by have := hkc (by assumption); omega) hv2 rfl), rfl, rfl⟩, ?wk⟩
        case lt => omega
        case wk => exact Wk.sub (And.intro rfl (And.intro rfl (And.intro rfl (And.intro rfl (And.intro rfl (And.intro (by first | rfl | exact congrArg (nm _) (by omega) | exact nm_int (by omega) | exact nm_int (by simp [IntKind.wrap, IntKind.bits, IntKind.signed]; omega)) (And.intro (by first | rfl | exact congrArg (nm _) (by omega) | exact nm_int (by omega) | exact nm_int (by simp [IntKind.wrap, IntKind.bits, IntKind.signed]; omega)) (trivial)))))))) (And.intro rfl (And.intro rfl (And.intro rfl (And.intro (by first | rfl | exact row_ns (by simp)) (trivial)))))
      · refine awp_exit ?_
        refine hK6 _ ?_
        refine awp_region rfl ?_
        refine o_mv (nm .i64 (i)) rfl ?_
        refine n_add (i) (1) Gd.none rfl rfl (by simp only [topOf]; omega) ?_
        refine o_as (nm .i64 ((i) + (1))) rfl ?_
        refine aops_end ?_
        refine ⟨_, _, ?lt, ⟨i + 1, o, hl2, hd2, (by omega), (mul_end (k := k) (by omega) (by rw [show c = 0 by omega] at hv2; exact hv2)), rfl, rfl⟩, ?wk⟩
        case lt => omega
        case wk => exact Wk.sub (And.intro rfl (And.intro rfl (And.intro rfl (And.intro rfl (And.intro (by first | rfl | exact congrArg (nm _) (by omega) | exact nm_int (by omega) | exact nm_int (by simp [IntKind.wrap, IntKind.bits, IntKind.signed]; omega)) (trivial)))))) (And.intro rfl (And.intro rfl (And.intro rfl (And.intro rfl (trivial)))))
  · refine awp_exit ?_
    refine hK2 _ ?_
    refine awp_seq fun K17 hK17 => ?_
    refine awp_region rfl ?_
    refine o_fieldRef 0 Gd.none Wb_tF41_0 rfl rfl ?_
    refine o_loadS (bp (x < 0)) Gd.none Wb_tS4 rfl rfl rfl ?_
    refine o_fieldRef 0 Gd.none Wb_tF41_0 rfl rfl ?_
    refine o_loadS (bp (y < 0)) Gd.none Wb_tS4 rfl rfl rfl ?_
    refine o_neqB (a := (decide (x < 0))) (c := (decide (y < 0))) Gd.none rfl rfl Wb_tB4 ?_
    refine o_mv (AV.row 5) rfl ?_
    refine o_callG [(5, 1, (ns .i64 (o)))] [(bp ((decide (x < 0)) ≠ (decide (y < 0)))), (AV.sl 1 (ns .i64 (o)))] _ (intR ((sg (decide ((decide (x < 0)) ≠ (decide (y < 0)))) (val (o))))) [(2, (oZ 41 .i64 (x))), (3, (oZ 41 .i64 (y))), (4, (AO.var 41 [(AV.lit (.bool false)), (AV.lit (.slice none 0 0))]))] Gd.none Wb_tC37 rfl (And.intro ⟨_, rfl⟩ (trivial)) rfl rfl (LeL.cons (AV.le_refl _) (LeL.cons (AV.le_refl _) (LeL.nil))) (c_rTrim (decide ((decide (x < 0)) ≠ (decide (y < 0)))) (o) (by first | assumption | exact dgn_dig _ _ | exact digs_dig _ | exact Dig.snoc (by assumption) (by assumption) | exact Dig.cons (by omega) (digs_dig _))) rfl ?_
    refine o_store [(2, (oZ 41 .i64 (x))), (3, (oZ 41 .i64 (y))), (4, (oZ 41 .i64 ((sg (decide ((decide (x < 0)) ≠ (decide (y < 0)))) (val (o))))))] Gd.none Wb_tZ41 rfl rfl rfl rfl rfl rfl ?_
    refine aops_end ?_
    refine hK17 _ ?_
    refine awp_ret ?_
    refine post_ret ⟨[(intR ((sg (decide ((decide (x < 0)) ≠ (decide (y < 0)))) (val (o)))))], And.intro ⟨4, (oZ 41 .i64 ((sg (decide ((decide (x < 0)) ≠ (decide (y < 0)))) (val (o))))), rfl, rfl, rfl, Or.inl ⟨Wb_tA41, AV.le_refl _⟩⟩ (trivial), rfl, ?_⟩
    refine congrArg (intK .i64) ?_
    rw [hv, val_take_all (by omega), val_digs]
    exact sg_mul x y

theorem c_wMul (x y : Int) (hx : (digs x.natAbs).length ≤ 1000000000) (hy : (digs y.natAbs).length ≤ 1000000000) : ECalls cx 56 [(intW (x)), (intW (y))] (intW (x * y)) := by
  refine ecalls_of_awp Tryz.func56 (c := _) rfl (Nat.le_of_ble_eq_true rfl) ?_
  show awp cx 97 _ (postF cx Tryz.f56 _) ⟨[(0, (intW (x))), (1, (intW (y)))], []⟩
  refine awp_seq fun K0 hK0 => ?_
  refine awp_region rfl ?_
  refine o_box 2 [(bp (x < 0)), (AV.sl 1 (ns .u32 (digs (x).natAbs)))] Gd.none rfl rfl ?_
  refine o_box 3 [(bp (y < 0)), (AV.sl 1 (ns .u32 (digs (y).natAbs)))] Gd.none rfl rfl ?_
  refine o_alloc 4 [(AV.lit (.bool false)), (AV.lit (.slice none 0 0))] Gd.none Wb_tO89 rfl rfl rfl ?_
  refine aops_end ?_
  refine hK0 _ ?_
  refine awp_seq fun K1 hK1 => ?_
  refine awp_region rfl ?_
  refine o_fieldRef 1 Gd.none Wb_tF89_1 rfl rfl ?_
  refine o_loadS (AV.sl 1 (ns .u32 (digs (x).natAbs))) Gd.none Wb_tS87 rfl rfl rfl ?_
  refine n_len (digs (x).natAbs) Gd.none Wb_tU87 rfl ?_
  refine o_fieldRef 1 Gd.none Wb_tF89_1 rfl rfl ?_
  refine o_loadS (AV.sl 1 (ns .u32 (digs (y).natAbs))) Gd.none Wb_tS87 rfl rfl rfl ?_
  refine n_len (digs (y).natAbs) Gd.none Wb_tU87 rfl ?_
  refine n_add ((digs (x).natAbs).length) ((digs (y).natAbs).length) Gd.none rfl rfl (by simp only [topOf]; omega) ?_
  refine n_add (((digs (x).natAbs).length) + ((digs (y).natAbs).length)) (1) Gd.none rfl rfl (by simp only [topOf]; omega) ?_
  refine n_make 5 ((((digs (x).natAbs).length) + ((digs (y).natAbs).length)) + (1)) Gd.none Wb_tE87 Wb_tO111 rfl rfl (by omega) rfl rfl ?_
  refine o_as (AV.row 5) rfl ?_
  refine aops_end ?_
  refine hK1 _ ?_
  refine awp_seq fun K2 hK2 => ?_
  refine awp_seq fun K3 hK3 => ?_
  refine awp_region rfl ?_
  refine o_fieldRef 1 Gd.none Wb_tF89_1 rfl rfl ?_
  refine o_loadS (AV.sl 1 (ns .u32 (digs (x).natAbs))) Gd.none Wb_tS87 rfl rfl rfl ?_
  refine n_len (digs (x).natAbs) Gd.none Wb_tU87 rfl ?_
  refine o_mv (nm .i64 (0)) rfl ?_
  refine aops_end ?_
  refine hK3 _ ?_
  refine awp_block ?_
  refine awp_loopR (fun κ σ => ∃ (i : Nat), ∃ (o : List Nat), (o.length = (digs x.natAbs).length + (digs y.natAbs).length + 1) ∧ (Dig o) ∧ (i ≤ (digs x.natAbs).length) ∧ (val o = val ((digs x.natAbs).take i) * y.natAbs) ∧ ((digs x.natAbs).length - i) = κ ∧ σ = ⟨[(2, (AV.ref 2 (0))), (3, (AV.ref 3 (0))), (4, (AV.ref 4 (0))), (5, (AV.row 5)), (24, (AV.sl 1 (ns .u32 (digs (x).natAbs)))), (25, (nm .i64 ((digs x.natAbs).length))), (26, (nm .i64 (i)))], [(2, (oZ 89 .u32 (x))), (3, (oZ 89 .u32 (y))), (4, (AO.var 89 [(AV.lit (.bool false)), (AV.lit (.slice none 0 0))])), (5, (AO.row 111 1 (ns .u32 (o))))]⟩) ⟨_, _, ⟨0, List.replicate ((digs x.natAbs).length + (digs y.natAbs).length + 1) 0, (by simp), (Dig.repl _), (by omega), (by rw [val_repl]; simp [val]), rfl, rfl⟩, ?wk0⟩ ?rd0
  case wk0 =>
    exact Wk.sub (And.intro rfl (And.intro rfl (And.intro rfl (And.intro rfl (And.intro rfl (And.intro (by first | rfl | exact congrArg (nm _) (by omega) | exact nm_int (by omega) | exact nm_int (by simp [IntKind.wrap, IntKind.bits, IntKind.signed]; omega)) (And.intro (by first | rfl | exact congrArg (nm _) (by omega) | exact nm_int (by omega) | exact nm_int (by simp [IntKind.wrap, IntKind.bits, IntKind.signed]; omega)) (trivial)))))))) (And.intro rfl (And.intro rfl (And.intro rfl (And.intro (by first | rfl | exact row_ns (by simp)) (trivial)))))
  rintro κ _ ⟨i, o, hl, hd, hi, hv, rfl, rfl⟩
  refine awp_seq fun K4 hK4 => ?_
  refine awp_region rfl ?_
  refine n_lss (i) ((digs x.natAbs).length) Gd.none rfl rfl ?_
  refine aops_end ?_
  refine hK4 _ ?_
  refine awp_seq fun K5 hK5 => ?_
  refine awp_condQ (q := (i) < ((digs x.natAbs).length)) rfl (fun h1 => ?_) (fun h1 => ?_)
  · refine awp_skip ?_
    refine hK5 _ ?_
    refine awp_seq fun K6 hK6 => ?_
    refine awp_block ?_
    refine awp_seq fun K7 hK7 => ?_
    refine awp_region rfl ?_
    refine o_mv (nm .i64 (i)) rfl ?_
    refine n_index (digs (x).natAbs) (i) Gd.none Wb_tE87 rfl rfl (by omega) ?_
    refine n_loadI (digs (x).natAbs) (i) Gd.none Wb_tS111 rfl (by omega) ?_
    refine o_as (nm .i64 (i)) rfl ?_
    refine o_as (nm .u32 ((digs (x).natAbs).getD (i) 0)) rfl ?_
    refine aops_end ?_
    refine hK7 _ ?_
    refine awp_seq fun K8 hK8 => ?_
    refine awp_region rfl ?_
    refine o_as (nm .u64 (0)) rfl ?_
    refine aops_end ?_
    refine hK8 _ ?_
    refine awp_seq fun K9 hK9 => ?_
    refine awp_seq fun K10 hK10 => ?_
    refine awp_region rfl ?_
    refine o_fieldRef 1 Gd.none Wb_tF89_1 rfl rfl ?_
    refine o_loadS (AV.sl 1 (ns .u32 (digs (y).natAbs))) Gd.none Wb_tS87 rfl rfl rfl ?_
    refine n_len (digs (y).natAbs) Gd.none Wb_tU87 rfl ?_
    refine o_mv (nm .i64 (0)) rfl ?_
    refine aops_end ?_
    refine hK10 _ ?_
    refine awp_block ?_
    refine awp_loopR (fun κ σ => ∃ (k : Nat), ∃ (c : Nat), ∃ (o : List Nat), (o.length = (digs x.natAbs).length + (digs y.natAbs).length + 1) ∧ (Dig o) ∧ (k ≤ (digs y.natAbs).length) ∧ (c < 1000000000) ∧ (val o + 1000000000 ^ (i + k) * c = val ((digs x.natAbs).take i) * y.natAbs + 1000000000 ^ i * ((digs x.natAbs).getD i 0 * val ((digs y.natAbs).take k))) ∧ ((digs y.natAbs).length - k) = κ ∧ σ = ⟨[(2, (AV.ref 2 (0))), (3, (AV.ref 3 (0))), (4, (AV.ref 4 (0))), (5, (AV.row 5)), (24, (AV.sl 1 (ns .u32 (digs (x).natAbs)))), (25, (nm .i64 ((digs x.natAbs).length))), (26, (nm .i64 (i))), (6, (nm .i64 (i))), (7, (nm .u32 ((digs x.natAbs).getD (i) 0))), (8, (nm .u64 (c))), (32, (AV.sl 1 (ns .u32 (digs (y).natAbs)))), (33, (nm .i64 ((digs y.natAbs).length))), (34, (nm .i64 (k)))], [(2, (oZ 89 .u32 (x))), (3, (oZ 89 .u32 (y))), (4, (AO.var 89 [(AV.lit (.bool false)), (AV.lit (.slice none 0 0))])), (5, (AO.row 111 1 (ns .u32 (o))))]⟩) ⟨_, _, ⟨0, 0, _, hl, hd, (by omega), (by omega), (by simp only [Nat.mul_zero, Nat.add_zero, hv, List.take_zero, val]), rfl, rfl⟩, ?wk1⟩ ?rd1
    case wk1 =>
      exact Wk.sub (And.intro rfl (And.intro rfl (And.intro rfl (And.intro rfl (And.intro rfl (And.intro rfl (And.intro rfl (And.intro rfl (And.intro (by first | rfl | exact congrArg (nm _) (by omega) | exact nm_int (by omega) | exact nm_int (by simp [IntKind.wrap, IntKind.bits, IntKind.signed]; omega)) (And.intro (by first | rfl | exact congrArg (nm _) (by omega) | exact nm_int (by omega) | exact nm_int (by simp [IntKind.wrap, IntKind.bits, IntKind.signed]; omega)) (And.intro rfl (And.intro (by first | rfl | exact congrArg (nm _) (by omega) | exact nm_int (by omega) | exact nm_int (by simp [IntKind.wrap, IntKind.bits, IntKind.signed]; omega)) (And.intro (by first | rfl | exact congrArg (nm _) (by omega) | exact nm_int (by omega) | exact nm_int (by simp [IntKind.wrap, IntKind.bits, IntKind.signed]; omega)) (trivial)))))))))))))) (And.intro rfl (And.intro rfl (And.intro rfl (And.intro rfl (trivial)))))
    rintro κ _ ⟨k, c, o, hl2, hd2, hk, hc, hv2, rfl, rfl⟩
    have hA := (digs_dig x.natAbs).mulb (digs_dig y.natAbs) i k
    have hA1 := (digs_dig x.natAbs).getD i
    have hB1 := (digs_dig y.natAbs).getD k
    have hO := hd2.getD (i + k)
    refine awp_seq fun K11 hK11 => ?_
    refine awp_region rfl ?_
    refine n_lss (k) ((digs y.natAbs).length) Gd.none rfl rfl ?_
    refine aops_end ?_
    refine hK11 _ ?_
    refine awp_seq fun K12 hK12 => ?_
    refine awp_condQ (q := (k) < ((digs y.natAbs).length)) rfl (fun h2 => ?_) (fun h2 => ?_)
    · refine awp_skip ?_
      refine hK12 _ ?_
      refine awp_seq fun K13 hK13 => ?_
      refine awp_block ?_
      refine awp_seq fun K14 hK14 => ?_
      refine awp_region rfl ?_
      refine o_mv (nm .i64 (k)) rfl ?_
      refine n_index (digs (y).natAbs) (k) Gd.none Wb_tE87 rfl rfl (by omega) ?_
      refine n_loadI (digs (y).natAbs) (k) Gd.none Wb_tS111 rfl (by omega) ?_
      refine o_as (nm .i64 (k)) rfl ?_
      refine o_as (nm .u32 ((digs (y).natAbs).getD (k) 0)) rfl ?_
      refine aops_end ?_
      refine hK14 _ ?_
      refine awp_seq fun K15 hK15 => ?_
      refine awp_region rfl ?_
      refine o_mv (AV.row 5) rfl ?_
      refine o_mv (nm .i64 (i)) rfl ?_
      refine o_mv (nm .i64 (k)) rfl ?_
      refine n_add (i) (k) Gd.none rfl rfl (by simp only [topOf]; omega) ?_
      refine n_indexRow (o) ((i) + (k)) Gd.none Wb_tE87 rfl rfl rfl (by omega) ?_
      refine n_loadRow (o) ((i) + (k)) Gd.none Wb_tS111 rfl rfl (by omega) ?_
      refine n_conv ((o).getD ((i) + (k)) 0) Gd.none rfl Wb_tI111 Wb_tI106 (by simp only [topOf]; omega) ?_
      refine o_mv (nm .u32 ((digs x.natAbs).getD (i) 0)) rfl ?_
      refine n_conv ((digs x.natAbs).getD (i) 0) Gd.none rfl Wb_tI111 Wb_tI106 (by simp only [topOf]; omega) ?_
      refine o_mv (nm .u32 ((digs (y).natAbs).getD (k) 0)) rfl ?_
      refine n_conv ((digs (y).natAbs).getD (k) 0) Gd.none rfl Wb_tI111 Wb_tI106 (by simp only [topOf]; omega) ?_
      refine n_mul ((digs x.natAbs).getD (i) 0) ((digs (y).natAbs).getD (k) 0) Gd.none rfl rfl (by simp only [topOf]; omega) ?_
      refine n_add ((o).getD ((i) + (k)) 0) (((digs x.natAbs).getD (i) 0) * ((digs (y).natAbs).getD (k) 0)) Gd.none rfl rfl (by simp only [topOf]; omega) ?_
      refine o_mv (nm .u64 (c)) rfl ?_
      refine n_add (((o).getD ((i) + (k)) 0) + (((digs x.natAbs).getD (i) 0) * ((digs (y).natAbs).getD (k) 0))) (c) Gd.none rfl rfl (by simp only [topOf]; omega) ?_
      refine o_as (nm .u64 ((((o).getD ((i) + (k)) 0) + (((digs x.natAbs).getD (i) 0) * ((digs (y).natAbs).getD (k) 0))) + (c))) rfl ?_
      refine aops_end ?_
      refine hK15 _ ?_
      refine awp_seq fun K16 hK16 => ?_
      refine awp_region rfl ?_
      refine o_mv (AV.row 5) rfl ?_
      refine o_mv (nm .i64 (i)) rfl ?_
      refine o_mv (nm .i64 (k)) rfl ?_
      refine n_add (i) (k) Gd.none rfl rfl (by simp only [topOf]; omega) ?_
      refine o_mv (nm .u64 ((((o).getD ((i) + (k)) 0) + (((digs x.natAbs).getD (i) 0) * ((digs (y).natAbs).getD (k) 0))) + (c))) rfl ?_
      refine n_rem ((((o).getD ((i) + (k)) 0) + (((digs x.natAbs).getD (i) 0) * ((digs (y).natAbs).getD (k) 0))) + (c)) (1000000000) Gd.none rfl rfl (by omega) ?_
      refine n_conv (((((o).getD ((i) + (k)) 0) + (((digs x.natAbs).getD (i) 0) * ((digs (y).natAbs).getD (k) 0))) + (c)) % (1000000000)) Gd.none rfl Wb_tI106 Wb_tI111 (by simp only [topOf]; omega) ?_
      refine n_indexRow (o) ((i) + (k)) Gd.none Wb_tE87 rfl rfl rfl (by omega) ?_
      refine n_storeRow (o) ((i) + (k)) (((((o).getD ((i) + (k)) 0) + (((digs x.natAbs).getD (i) 0) * ((digs (y).natAbs).getD (k) 0))) + (c)) % (1000000000)) [(2, (oZ 89 .u32 (x))), (3, (oZ 89 .u32 (y))), (4, (AO.var 89 [(AV.lit (.bool false)), (AV.lit (.slice none 0 0))])), (5, (AO.row 111 1 (ns .u32 ((o).set ((i) + (k)) (((((o).getD ((i) + (k)) 0) + (((digs x.natAbs).getD (i) 0) * ((digs (y).natAbs).getD (k) 0))) + (c)) % (1000000000))))))] Gd.none Wb_tZ111 rfl rfl rfl (by omega) rfl ?_
      refine aops_end ?_
      refine hK16 _ ?_
      refine awp_region rfl ?_
      refine o_mv (nm .u64 ((((o).getD ((i) + (k)) 0) + (((digs x.natAbs).getD (i) 0) * ((digs (y).natAbs).getD (k) 0))) + (c))) rfl ?_
      refine n_quo ((((o).getD ((i) + (k)) 0) + (((digs x.natAbs).getD (i) 0) * ((digs (y).natAbs).getD (k) 0))) + (c)) (1000000000) Gd.none rfl rfl (by omega) (by simp only [topOf]; omega) ?_
      refine o_as (nm .u64 (((((o).getD ((i) + (k)) 0) + (((digs x.natAbs).getD (i) 0) * ((digs (y).natAbs).getD (k) 0))) + (c)) / (1000000000))) rfl ?_
      refine aops_end ?_
      refine hK13 _ ?_
      refine awp_region rfl ?_
      refine n_add (k) (1) Gd.none rfl rfl (by simp only [topOf]; omega) ?_
      refine o_mv (nm .i64 ((k) + (1))) rfl ?_
      refine aops_end ?_
      refine ⟨_, _, ?lt, ⟨k + 1, ((((o).getD ((i) + (k)) 0) + (((digs x.natAbs).getD (i) 0) * ((digs (y).natAbs).getD (k) 0))) + (c)) / (1000000000), (o).set ((i) + (k)) (((((o).getD ((i) + (k)) 0) + (((digs x.natAbs).getD (i) 0) * ((digs (y).natAbs).getD (k) 0))) + (c)) % (1000000000)), (by simp only [List.length_set]; exact hl2), (hd2.set (Nat.mod_lt _ (by decide))), (by omega), (by omega), (mul_step (by omega) hv2 rfl), rfl, rfl⟩, ?wk⟩
      case lt => omega
      case wk => exact Wk.sub (And.intro rfl (And.intro rfl (And.intro rfl (And.intro rfl (And.intro rfl (And.intro rfl (And.intro rfl (And.intro rfl (And.intro rfl (And.intro (by first | rfl | exact congrArg (nm _) (by omega) | exact nm_int (by omega) | exact nm_int (by simp [IntKind.wrap, IntKind.bits, IntKind.signed]; omega)) (And.intro rfl (And.intro rfl (And.intro (by first | rfl | exact congrArg (nm _) (by omega) | exact nm_int (by omega) | exact nm_int (by simp [IntKind.wrap, IntKind.bits, IntKind.signed]; omega)) (trivial)))))))))))))) (And.intro rfl (And.intro rfl (And.intro rfl (And.intro (by first | rfl | exact row_ns (by simp)) (trivial)))))
    · refine awp_exit ?_
      refine hK9 _ ?_
      refine awp_seq fun K17 hK17 => ?_
      refine awp_region rfl ?_
      refine o_mv (nm .i64 (i)) rfl ?_
      refine o_fieldRef 1 Gd.none Wb_tF89_1 rfl rfl ?_
      refine o_loadS (AV.sl 1 (ns .u32 (digs (y).natAbs))) Gd.none Wb_tS87 rfl rfl rfl ?_
      refine n_len (digs (y).natAbs) Gd.none Wb_tU87 rfl ?_
      refine n_add (i) ((digs (y).natAbs).length) Gd.none rfl rfl (by simp only [topOf]; omega) ?_
      refine o_as (nm .i64 ((i) + ((digs (y).natAbs).length))) rfl ?_
      refine aops_end ?_
      refine hK17 _ ?_
      refine awp_block ?_
      refine awp_loopR (fun κ σ => ∃ (k : Nat), ∃ (c : Nat), ∃ (o : List Nat), (o.length = (digs x.natAbs).length + (digs y.natAbs).length + 1) ∧ (Dig o) ∧ ((digs y.natAbs).length ≤ k) ∧ (k ≤ (digs y.natAbs).length + 1) ∧ (c < 1000000000) ∧ (val o + 1000000000 ^ (i + k) * c = val ((digs x.natAbs).take i) * y.natAbs + 1000000000 ^ i * ((digs x.natAbs).getD i 0 * val ((digs y.natAbs).take k))) ∧ ((digs y.natAbs).length + 1 - k) = κ ∧ σ = ⟨[(2, (AV.ref 2 (0))), (3, (AV.ref 3 (0))), (4, (AV.ref 4 (0))), (5, (AV.row 5)), (24, (AV.sl 1 (ns .u32 (digs (x).natAbs)))), (25, (nm .i64 ((digs x.natAbs).length))), (26, (nm .i64 (i))), (6, (nm .i64 (i))), (8, (nm .u64 (c))), (12, (nm .i64 (i + k)))], [(2, (oZ 89 .u32 (x))), (3, (oZ 89 .u32 (y))), (4, (AO.var 89 [(AV.lit (.bool false)), (AV.lit (.slice none 0 0))])), (5, (AO.row 111 1 (ns .u32 (o))))]⟩) ⟨_, _, ⟨k, c, o, hl2, hd2, (by omega), (by omega), hc, hv2, rfl, rfl⟩, ?wk2⟩ ?rd2
      case wk2 =>
        exact Wk.sub (And.intro rfl (And.intro rfl (And.intro rfl (And.intro rfl (And.intro rfl (And.intro rfl (And.intro rfl (And.intro rfl (And.intro rfl (And.intro (by first | rfl | exact congrArg (nm _) (by omega) | exact nm_int (by omega) | exact nm_int (by simp [IntKind.wrap, IntKind.bits, IntKind.signed]; omega)) (trivial))))))))))) (And.intro rfl (And.intro rfl (And.intro rfl (And.intro rfl (trivial)))))
      rintro κ _ ⟨k, c, o, hl3, hd3, hk3, hk4, hc3, hv3, rfl, rfl⟩
      have hO3 := hd3.getD (i + k)
      have hkc := mul_k hv3
      refine awp_seq fun K18 hK18 => ?_
      refine awp_seq fun K19 hK19 => ?_
      refine awp_region rfl ?_
      refine o_mv (nm .u64 (c)) rfl ?_
      refine n_gtr (c) (0) Gd.none rfl rfl ?_
      refine aops_end ?_
      refine hK19 _ ?_
      refine awp_condQ (q := (0) < (c)) rfl (fun h3 => ?_) (fun h3 => ?_)
      · refine awp_skip ?_
        refine hK18 _ ?_
        refine awp_seq fun K20 hK20 => ?_
        refine awp_block ?_
        refine awp_seq fun K21 hK21 => ?_
        refine awp_region rfl ?_
        refine o_mv (AV.row 5) rfl ?_
        refine o_mv (nm .i64 (i + k)) rfl ?_
        refine n_indexRow (o) (i + k) Gd.none Wb_tE87 rfl rfl rfl (by have := hkc (by assumption); omega) ?_
        refine n_loadRow (o) (i + k) Gd.none Wb_tS111 rfl rfl (by have := hkc (by assumption); omega) ?_
        refine n_conv ((o).getD (i + k) 0) Gd.none rfl Wb_tI111 Wb_tI106 (by simp only [topOf]; omega) ?_
        refine o_mv (nm .u64 (c)) rfl ?_
        refine n_add ((o).getD (i + k) 0) (c) Gd.none rfl rfl (by simp only [topOf]; omega) ?_
        refine o_as (nm .u64 (((o).getD (i + k) 0) + (c))) rfl ?_
        refine aops_end ?_
        refine hK21 _ ?_
        refine awp_seq fun K22 hK22 => ?_
        refine awp_region rfl ?_
        refine o_mv (AV.row 5) rfl ?_
        refine o_mv (nm .i64 (i + k)) rfl ?_
        refine o_mv (nm .u64 (((o).getD (i + k) 0) + (c))) rfl ?_
        refine n_rem (((o).getD (i + k) 0) + (c)) (1000000000) Gd.none rfl rfl (by omega) ?_
        refine n_conv ((((o).getD (i + k) 0) + (c)) % (1000000000)) Gd.none rfl Wb_tI106 Wb_tI111 (by simp only [topOf]; omega) ?_
        refine n_indexRow (o) (i + k) Gd.none Wb_tE87 rfl rfl rfl (by have := hkc (by assumption); omega) ?_
        refine n_storeRow (o) (i + k) ((((o).getD (i + k) 0) + (c)) % (1000000000)) [(2, (oZ 89 .u32 (x))), (3, (oZ 89 .u32 (y))), (4, (AO.var 89 [(AV.lit (.bool false)), (AV.lit (.slice none 0 0))])), (5, (AO.row 111 1 (ns .u32 ((o).set (i + k) ((((o).getD (i + k) 0) + (c)) % (1000000000))))))] Gd.none Wb_tZ111 rfl rfl rfl (by have := hkc (by assumption); omega) rfl ?_
        refine aops_end ?_
        refine hK22 _ ?_
        refine awp_region rfl ?_
        refine o_mv (nm .u64 (((o).getD (i + k) 0) + (c))) rfl ?_
        refine n_quo (((o).getD (i + k) 0) + (c)) (1000000000) Gd.none rfl rfl (by omega) (by simp only [topOf]; omega) ?_
        refine o_as (nm .u64 ((((o).getD (i + k) 0) + (c)) / (1000000000))) rfl ?_
        refine aops_end ?_
        refine hK20 _ ?_
        refine awp_region rfl ?_
        refine o_mv (nm .i64 (i + k)) rfl ?_
        refine n_add (i + k) (1) Gd.none rfl rfl (by simp only [topOf]; omega) ?_
        refine o_as (nm .i64 ((i + k) + (1))) rfl ?_
        refine aops_end ?_
        refine ⟨_, _, ?lt, ⟨k + 1, (((o).getD (i + k) 0) + (c)) / (1000000000), (o).set (i + k) ((((o).getD (i + k) 0) + (c)) % (1000000000)), (by simp only [List.length_set]; exact hl3), (hd3.set (Nat.mod_lt _ (by decide))), (by omega), (by have := hkc (by assumption); omega), (by omega), (mul_step (by have := hkc (by assumption); omega) hv3 (by rw [getD_ge (xs := digs y.natAbs) hk3]; simp)), rfl, rfl⟩, ?wk⟩
        case lt => (have := hkc (by assumption); omega)
        case wk => exact Wk.sub (And.intro rfl (And.intro rfl (And.intro rfl (And.intro rfl (And.intro rfl (And.intro rfl (And.intro rfl (And.intro rfl (And.intro (by first | rfl | exact congrArg (nm _) (by omega) | exact nm_int (by omega) | exact nm_int (by simp [IntKind.wrap, IntKind.bits, IntKind.signed]; omega)) (And.intro (by first | rfl | exact congrArg (nm _) (by omega) | exact nm_int (by omega) | exact nm_int (by simp [IntKind.wrap, IntKind.bits, IntKind.signed]; omega)) (trivial))))))))))) (And.intro rfl (And.intro rfl (And.intro rfl (And.intro (by first | rfl | exact row_ns (by simp)) (trivial)))))
      · refine awp_exit ?_
        refine hK6 _ ?_
        refine awp_region rfl ?_
        refine n_add (i) (1) Gd.none rfl rfl (by simp only [topOf]; omega) ?_
        refine o_mv (nm .i64 ((i) + (1))) rfl ?_
        refine aops_end ?_
        refine ⟨_, _, ?lt, ⟨i + 1, o, hl3, hd3, (by omega), (mul_end (k := k) (by omega) (by rw [show c = 0 by omega] at hv3; exact hv3)), rfl, rfl⟩, ?wk⟩
        case lt => omega
        case wk => exact Wk.sub (And.intro rfl (And.intro rfl (And.intro rfl (And.intro rfl (And.intro rfl (And.intro rfl (And.intro (by first | rfl | exact congrArg (nm _) (by omega) | exact nm_int (by omega) | exact nm_int (by simp [IntKind.wrap, IntKind.bits, IntKind.signed]; omega)) (trivial)))))))) (And.intro rfl (And.intro rfl (And.intro rfl (And.intro rfl (trivial)))))
  · refine awp_exit ?_
    refine hK2 _ ?_
    refine awp_seq fun K23 hK23 => ?_
    refine awp_region rfl ?_
    refine o_fieldRef 0 Gd.none Wb_tF89_0 rfl rfl ?_
    refine o_loadS (bp (x < 0)) Gd.none Wb_tS4 rfl rfl rfl ?_
    refine o_fieldRef 0 Gd.none Wb_tF89_0 rfl rfl ?_
    refine o_loadS (bp (y < 0)) Gd.none Wb_tS4 rfl rfl rfl ?_
    refine o_neqB (a := (decide (x < 0))) (c := (decide (y < 0))) Gd.none rfl rfl Wb_tB4 ?_
    refine o_mv (AV.row 5) rfl ?_
    refine o_callG [(5, 1, (ns .u32 (o)))] [(bp ((decide (x < 0)) ≠ (decide (y < 0)))), (AV.sl 1 (ns .u32 (o)))] _ (intW ((sg (decide ((decide (x < 0)) ≠ (decide (y < 0)))) (val (o))))) [(2, (oZ 89 .u32 (x))), (3, (oZ 89 .u32 (y))), (4, (AO.var 89 [(AV.lit (.bool false)), (AV.lit (.slice none 0 0))]))] Gd.none Wb_tC69 rfl (And.intro ⟨_, rfl⟩ (trivial)) rfl rfl (LeL.cons (AV.le_refl _) (LeL.cons (AV.le_refl _) (LeL.nil))) (c_wTrim (decide ((decide (x < 0)) ≠ (decide (y < 0)))) (o) (by first | assumption | exact dgn_dig _ _ | exact digs_dig _ | exact Dig.snoc (by assumption) (by assumption) | exact Dig.cons (by omega) (digs_dig _))) rfl ?_
    refine o_store [(2, (oZ 89 .u32 (x))), (3, (oZ 89 .u32 (y))), (4, (oZ 89 .u32 ((sg (decide ((decide (x < 0)) ≠ (decide (y < 0)))) (val (o))))))] Gd.none Wb_tZ89 rfl rfl rfl rfl rfl rfl ?_
    refine aops_end ?_
    refine hK23 _ ?_
    refine awp_ret ?_
    refine post_ret ⟨[(intW ((sg (decide ((decide (x < 0)) ≠ (decide (y < 0)))) (val (o)))))], And.intro ⟨4, (oZ 89 .u32 ((sg (decide ((decide (x < 0)) ≠ (decide (y < 0)))) (val (o))))), rfl, rfl, rfl, Or.inl ⟨Wb_tA89, AV.le_refl _⟩⟩ (trivial), rfl, ?_⟩
    refine congrArg (intK .u32) ?_
    rw [hv, val_take_all (by omega), val_digs]
    exact sg_mul x y

end Go.Proofs.YtpamhblonmpniaaGreatDoor

set_option linter.unusedVariables false
set_option linter.unusedSimpArgs false
namespace Go.Proofs.YtpamhblonmpniaaGreatDoor
open Go Go.Ab Go.Mth
end Go.Proofs.YtpamhblonmpniaaGreatDoor

set_option linter.unusedVariables false
set_option linter.unusedSimpArgs false
namespace Go.Proofs.YtpamhblonmpniaaGreatDoor
open Go Go.Ab Go.Mth
theorem Wd_tF41_1 : tyField cx.P 41 1 = some (1, 25) := by kernel_rfl
theorem Wd_tS25 : tySc cx.P 25 = true := by kernel_rfl
theorem Wd_tU25 : cx.P.underlying 25 = some (.slice 3) := by kernel_rfl
theorem Wd_tE25 : tyElem cx.P 25 = some (3, 1, 8) := by kernel_rfl
theorem Wd_tS3 : tySc cx.P 3 = true := by kernel_rfl
theorem Wd_tI3 : tyInt cx.P 3 = some .i64 := by kernel_rfl
theorem Wd_tI5 : tyInt cx.P 5 = some .u8 := by kernel_rfl
theorem Wd_tE70 : tyElem cx.P 70 = some (5, 1, 1) := by kernel_rfl
theorem Wd_tO5 : tyZero cx.P 5 = some [(Go.Value.int IntKind.u8 0)] := by kernel_rfl
theorem Wd_tF41_0 : tyField cx.P 41 0 = some (0, 4) := by kernel_rfl
theorem Wd_tS4 : tySc cx.P 4 = true := by kernel_rfl
theorem Wd_tU70 : cx.P.underlying 70 = some (.slice 5) := by kernel_rfl
theorem Wd_tS5 : tySc cx.P 5 = true := by kernel_rfl
theorem Wd_tQ5 : cx.P.underlying 5 = some (.int .u8) := by kernel_rfl
theorem Wd_tT9 : cx.P.underlying 9 = some .string := by kernel_rfl
theorem c_rText (z : Int) (hz : (digs z.natAbs).length ≤ 1000000000) : ECalls cx 11 [(intR (z))] (.lit (.string (txt z))) := by
  refine ecalls_of_awp Tryz.func11 (c := _) rfl (Nat.le_of_ble_eq_true rfl) ?_
  show awp cx 71 _ (postF cx Tryz.f11 _) ⟨[(0, (intR (z)))], []⟩
  refine awp_seq fun K0 hK0 => ?_
  refine awp_region rfl ?_
  refine o_box 2 [(bp (z < 0)), (AV.sl 1 (ns .i64 (digs (z).natAbs)))] Gd.none rfl rfl ?_
  refine o_as (AV.lit (.string (({data := #[]} : ByteArray)))) rfl ?_
  refine aops_end ?_
  refine hK0 _ ?_
  refine awp_seq fun K1 hK1 => ?_
  refine awp_seq fun K2 hK2 => ?_
  refine awp_region rfl ?_
  refine o_fieldRef 1 Gd.none Wd_tF41_1 rfl rfl ?_
  refine o_loadS (AV.sl 1 (ns .i64 (digs (z).natAbs))) Gd.none Wd_tS25 rfl rfl rfl ?_
  refine n_len (digs (z).natAbs) Gd.none Wd_tU25 rfl ?_
  refine n_eql ((digs (z).natAbs).length) (0) Gd.none rfl rfl ?_
  refine aops_end ?_
  refine hK2 _ ?_
  refine awp_condQ (q := ((digs (z).natAbs).length) = (0)) rfl (fun h1 => ?_) (fun h1 => ?_)
  · refine awp_seq fun K3 hK3 => ?_
    refine awp_region rfl ?_
    refine o_as (AV.lit (.string (({data := #[48]} : ByteArray)))) rfl ?_
    refine aops_end ?_
    refine hK3 _ ?_
    refine awp_ret ?_
    refine post_ret ⟨[(AV.lit (.string (({data := #[48]} : ByteArray))))], And.intro (AV.le_refl _) (trivial), rfl, ?_⟩
    rw [show z = 0 by have := digs_len_zero.1 h1; omega]
    rfl
  · have hz0 : z.natAbs ≠ 0 := fun e => h1 (digs_len_zero.2 e)
    have hdl := decs_len_le z.natAbs
    refine awp_skip ?_
    refine hK1 _ ?_
    refine awp_seq fun K4 hK4 => ?_
    refine awp_region rfl ?_
    refine o_as (AV.lit (.slice none 0 0)) rfl ?_
    refine aops_end ?_
    refine hK4 _ ?_
    refine awp_seq fun K5 hK5 => ?_
    refine awp_seq fun K6 hK6 => ?_
    refine awp_region rfl ?_
    refine o_as (nm .i64 (0)) rfl ?_
    refine aops_end ?_
    refine hK6 _ ?_
    refine awp_block ?_
    refine awp_loopR (fun κ σ => ∃ (i : Nat), ∃ (bk : List Nat), (i ≤ (digs z.natAbs).length) ∧ (bk ++ decs (val ((digs z.natAbs).drop i)) = decs z.natAbs) ∧ ((digs z.natAbs).length - i) = κ ∧ σ = ⟨[(1, (AV.ref 2 (0))), (3, (AV.row 3)), (4, (nm .i64 (i)))], [(2, (oZ 41 .i64 (z))), (3, (AO.row 5 1 (ns .u8 (bk))))]⟩) ⟨_, _, ⟨0, [], (by omega), (by simp [val_digs]), rfl, rfl⟩, ?wk0⟩ ?rd0
    case wk0 =>
      exact Wk.trans (Wk.newNil (i := 3) (id := 503) (e := 5) (sz := 1) rfl rfl (by decide)) (Wk.trans (Wk.sub (σ' := ⟨[(1, (AV.ref 2 (0))), (3, (AV.row 503)), (4, (nm .i64 (0)))], [(2, (oZ 41 .i64 (z))), (503, (AO.row 5 1 (ns .u8 ([]))))]⟩) (And.intro rfl (And.intro rfl (And.intro rfl (trivial)))) (And.intro rfl (And.intro rfl (trivial)))) (Wk.trans (Wk.ren (id := 503) (id' := 3) rfl) (Wk.sub (And.intro rfl (And.intro (by first | rfl | (simp)) (And.intro (by first | rfl | exact congrArg (nm _) (by omega) | exact nm_int (by omega) | exact nm_int (by simp [IntKind.wrap, IntKind.bits, IntKind.signed]; omega)) (trivial)))) (And.intro rfl (And.intro (by first | rfl | exact row_ns (by simp)) (trivial))))))
    rintro κ _ ⟨i, bk, hi, hv, rfl, rfl⟩
    have hA := (digs_dig z.natAbs).getD i
    refine awp_seq fun K7 hK7 => ?_
    refine awp_seq fun K8 hK8 => ?_
    refine awp_region rfl ?_
    refine o_mv (nm .i64 (i)) rfl ?_
    refine o_fieldRef 1 Gd.none Wd_tF41_1 rfl rfl ?_
    refine o_loadS (AV.sl 1 (ns .i64 (digs (z).natAbs))) Gd.none Wd_tS25 rfl rfl rfl ?_
    refine n_len (digs (z).natAbs) Gd.none Wd_tU25 rfl ?_
    refine n_lss (i) ((digs (z).natAbs).length) Gd.none rfl rfl ?_
    refine aops_end ?_
    refine hK8 _ ?_
    refine awp_condQ (q := (i) < ((digs (z).natAbs).length)) rfl (fun h2 => ?_) (fun h2 => ?_)
    · refine awp_skip ?_
      refine hK7 _ ?_
      refine awp_seq fun K9 hK9 => ?_
      refine awp_block ?_
      refine awp_seq fun K10 hK10 => ?_
      refine awp_region rfl ?_
      refine o_fieldRef 1 Gd.none Wd_tF41_1 rfl rfl ?_
      refine o_loadS (AV.sl 1 (ns .i64 (digs (z).natAbs))) Gd.none Wd_tS25 rfl rfl rfl ?_
      refine o_mv (nm .i64 (i)) rfl ?_
      refine n_index (digs (z).natAbs) (i) Gd.none Wd_tE25 rfl rfl (by omega) ?_
      refine n_loadI (digs (z).natAbs) (i) Gd.none Wd_tS3 rfl (by omega) ?_
      refine o_as (nm .i64 ((digs (z).natAbs).getD (i) 0)) rfl ?_
      refine aops_end ?_
      refine hK10 _ ?_
      refine awp_seq fun K11 hK11 => ?_
      refine awp_region rfl ?_
      refine o_as (nm .i64 (0)) rfl ?_
      refine aops_end ?_
      refine hK11 _ ?_
      refine awp_block ?_
      refine awp_loopR (fun κ σ => ∃ (k : Nat), ∃ (p : Nat), ∃ (bk : List Nat), (k ≤ 9) ∧ (p < 10 ^ (9 - k)) ∧ (p < 1000000000) ∧ (bk ++ decs (p + 10 ^ (9 - k) * val ((digs z.natAbs).drop (i + 1))) = decs z.natAbs) ∧ (9 - k) = κ ∧ σ = ⟨[(1, (AV.ref 2 (0))), (3, (AV.row 3)), (4, (nm .i64 (i))), (5, (nm .i64 (p))), (6, (nm .i64 (k)))], [(2, (oZ 41 .i64 (z))), (3, (AO.row 5 1 (ns .u8 (bk))))]⟩) ⟨_, _, ⟨0, _, bk, (by omega), (by simpa using hA), hA, (by rw [← drop_hi (by omega)]; exact hv), rfl, rfl⟩, ?wk1⟩ ?rd1
      case wk1 =>
        exact Wk.sub (And.intro rfl (And.intro rfl (And.intro rfl (And.intro (by first | rfl | exact congrArg (nm _) (by omega) | exact nm_int (by omega) | exact nm_int (by simp [IntKind.wrap, IntKind.bits, IntKind.signed]; omega)) (And.intro (by first | rfl | exact congrArg (nm _) (by omega) | exact nm_int (by omega) | exact nm_int (by simp [IntKind.wrap, IntKind.bits, IntKind.signed]; omega)) (trivial)))))) (And.intro rfl (And.intro rfl (trivial)))
      rintro κ _ ⟨k, p, bk, hk, hp, hp2, hw, rfl, rfl⟩
      have hpos : i + 1 < (digs z.natAbs).length → 0 < 10 ^ (9 - k) * val ((digs z.natAbs).drop (i + 1)) := fun h => Nat.mul_pos (Nat.pow_pos (by decide)) (val_drop_pos h)
      refine awp_seq fun K12 hK12 => ?_
      refine awp_seq fun K13 hK13 => ?_
      refine awp_region rfl ?_
      refine o_mv (nm .i64 (k)) rfl ?_
      refine n_lss (k) (9) Gd.none rfl rfl ?_
      refine o_mv (bp ((k) < (9))) rfl ?_
      refine o_splitP (q := (k) < (9)) 27 rfl (fun h3 => ?_) (fun h3 => ?_)
      · refine o_move (nm .i64 (p)) (Gd.yes rfl rfl (decide_eq_true h3)) rfl ?_
        refine n_gtr (p) (0) (Gd.yes rfl rfl (decide_eq_true h3)) rfl rfl ?_
        refine o_move (bp ((0) < (p))) (Gd.yes rfl rfl (decide_eq_true h3)) rfl ?_
        refine o_splitP (q := (0) < (p)) 30 rfl (fun h4 => ?_) (fun h4 => ?_)
        · refine o_skip rfl rfl (decide_eq_true h4) ?_
          refine o_skip rfl rfl (decide_eq_true h4) ?_
          refine o_skip rfl rfl (decide_eq_true h4) ?_
          refine o_skip rfl rfl (decide_eq_true h4) ?_
          refine o_skip rfl rfl (decide_eq_true h4) ?_
          refine o_skip rfl rfl (decide_eq_true h4) ?_
          refine o_pickT (AV.lit (.bool true)) (Gd.yes rfl rfl (decide_eq_true h3)) rfl (decide_eq_true h4) rfl ?_
          refine o_pickT (AV.lit (.bool true)) Gd.none rfl (decide_eq_true h3) rfl ?_
          refine aops_end ?_
          refine hK13 _ ?_
          refine awp_condB (b := true) rfl (fun _ => ?_) (fun hh => absurd (hh.symm.trans rfl) (by decide))
          refine awp_skip ?_
          refine hK12 _ ?_
          refine awp_seq fun K14 hK14 => ?_
          refine awp_block ?_
          refine awp_seq fun K15 hK15 => ?_
          refine awp_region rfl ?_
          refine o_mv (AV.row 3) rfl ?_
          refine o_mv (nm .i64 (p)) rfl ?_
          refine n_rem (p) (10) Gd.none rfl rfl (by omega) ?_
          refine n_add (48) ((p) % (10)) Gd.none rfl rfl (by simp only [topOf]; omega) ?_
          refine n_conv ((48) + ((p) % (10))) Gd.none rfl Wd_tI3 Wd_tI5 (by simp only [topOf]; omega) ?_
          refine o_buildSlice 201 (ns .u8 ([(48) + ((p) % (10))])) [(0, [(nm .u8 ((48) + ((p) % (10))))])] Gd.none Wd_tE70 rfl Wd_tO5 rfl rfl rfl rfl rfl rfl rfl ?_
          refine n_append 202 (bk) ([(48) + ((p) % (10))]) [(201, (AO.row 5 1 (ns .u8 ([(48) + ((p) % (10))])))), (2, (oZ 41 .i64 (z)))] Gd.none Wd_tE70 Wd_tO5 rfl rfl rfl rfl rfl (by simp only [List.length_append, List.length_cons, List.length_nil]; have := bk_len hw (by first | omega | (have := hpos (by omega); omega)) hz; omega) (by decide) rfl rfl ?_
          refine o_as (AV.row 202) rfl ?_
          refine aops_end ?_
          refine hK15 _ ?_
          refine awp_region rfl ?_
          refine o_mv (nm .i64 (p)) rfl ?_
          refine n_quo (p) (10) Gd.none rfl rfl (by omega) (by simp only [topOf]; omega) ?_
          refine o_as (nm .i64 ((p) / (10))) rfl ?_
          refine aops_end ?_
          refine hK14 _ ?_
          refine awp_region rfl ?_
          refine o_mv (nm .i64 (k)) rfl ?_
          refine n_add (k) (1) Gd.none rfl rfl (by simp only [topOf]; omega) ?_
          refine o_as (nm .i64 ((k) + (1))) rfl ?_
          refine aops_end ?_
          refine ⟨_, _, ?lt, ⟨k + 1, (p) / (10), (bk) ++ ([(48) + ((p) % (10))]), (by omega), (by rw [Nat.div_lt_iff_lt_mul (by decide), ← Nat.pow_succ, show Nat.succ (9 - (k + 1)) = 9 - k by omega]; exact hp), (by omega), (text_step (by omega) (by first | omega | (have := hpos (by omega); omega)) hw), rfl, rfl⟩, ?wk⟩
          case lt => omega
          case wk => exact Wk.trans (Wk.sub (σ' := ⟨[(1, (AV.ref 2 (0))), (3, (AV.row 202)), (4, (nm .i64 (i))), (5, (nm .i64 ((p) / (10)))), (6, (nm .i64 ((k) + (1))))], [(2, (oZ 41 .i64 (z))), (202, (AO.row 5 1 (ns .u8 ((bk) ++ ([(48) + ((p) % (10))])))))]⟩) (And.intro rfl (And.intro rfl (And.intro rfl (And.intro rfl (And.intro rfl (trivial)))))) (And.intro rfl (And.intro rfl (trivial)))) (Wk.trans (Wk.ren (id := 202) (id' := 3) rfl) (Wk.sub (And.intro rfl (And.intro (by first | rfl | (simp)) (And.intro rfl (And.intro (by first | rfl | exact congrArg (nm _) (by omega) | exact nm_int (by omega) | exact nm_int (by simp [IntKind.wrap, IntKind.bits, IntKind.signed]; omega)) (And.intro (by first | rfl | exact congrArg (nm _) (by omega) | exact nm_int (by omega) | exact nm_int (by simp [IntKind.wrap, IntKind.bits, IntKind.signed]; omega)) (trivial)))))) (And.intro rfl (And.intro (by first | rfl | exact row_ns (by simp)) (trivial)))))
        · refine o_move (nm .i64 (i)) (Gd.yes rfl rfl (decide_eq_false h4)) rfl ?_
          refine o_fieldRef 1 (Gd.yes rfl rfl (decide_eq_false h4)) Wd_tF41_1 rfl rfl ?_
          refine o_loadS (AV.sl 1 (ns .i64 (digs (z).natAbs))) (Gd.yes rfl rfl (decide_eq_false h4)) Wd_tS25 rfl rfl rfl ?_
          refine n_len (digs (z).natAbs) (Gd.yes rfl rfl (decide_eq_false h4)) Wd_tU25 rfl ?_
          refine n_sub ((digs (z).natAbs).length) (1) (Gd.yes rfl rfl (decide_eq_false h4)) rfl rfl (by omega) (by simp only [topOf]; omega) ?_
          refine n_lss (i) (((digs (z).natAbs).length) - (1)) (Gd.yes rfl rfl (decide_eq_false h4)) rfl rfl ?_
          refine o_pickF (bp ((i) < (((digs (z).natAbs).length) - (1)))) (Gd.yes rfl rfl (decide_eq_true h3)) rfl (decide_eq_false h4) rfl ?_
          refine o_pickT (bp ((i) < (((digs (z).natAbs).length) - (1)))) Gd.none rfl (decide_eq_true h3) rfl ?_
          refine aops_end ?_
          refine hK13 _ ?_
          refine awp_condQ (q := (i) < (((digs (z).natAbs).length) - (1))) rfl (fun h5 => ?_) (fun h5 => ?_)
          · refine awp_skip ?_
            refine hK12 _ ?_
            refine awp_seq fun K16 hK16 => ?_
            refine awp_block ?_
            refine awp_seq fun K17 hK17 => ?_
            refine awp_region rfl ?_
            refine o_mv (AV.row 3) rfl ?_
            refine o_mv (nm .i64 (p)) rfl ?_
            refine n_rem (p) (10) Gd.none rfl rfl (by omega) ?_
            refine n_add (48) ((p) % (10)) Gd.none rfl rfl (by simp only [topOf]; omega) ?_
            refine n_conv ((48) + ((p) % (10))) Gd.none rfl Wd_tI3 Wd_tI5 (by simp only [topOf]; omega) ?_
            refine o_buildSlice 201 (ns .u8 ([(48) + ((p) % (10))])) [(0, [(nm .u8 ((48) + ((p) % (10))))])] Gd.none Wd_tE70 rfl Wd_tO5 rfl rfl rfl rfl rfl rfl rfl ?_
            refine n_append 202 (bk) ([(48) + ((p) % (10))]) [(201, (AO.row 5 1 (ns .u8 ([(48) + ((p) % (10))])))), (2, (oZ 41 .i64 (z)))] Gd.none Wd_tE70 Wd_tO5 rfl rfl rfl rfl rfl (by simp only [List.length_append, List.length_cons, List.length_nil]; have := bk_len hw (by first | omega | (have := hpos (by omega); omega)) hz; omega) (by decide) rfl rfl ?_
            refine o_as (AV.row 202) rfl ?_
            refine aops_end ?_
            refine hK17 _ ?_
            refine awp_region rfl ?_
            refine o_mv (nm .i64 (p)) rfl ?_
            refine n_quo (p) (10) Gd.none rfl rfl (by omega) (by simp only [topOf]; omega) ?_
            refine o_as (nm .i64 ((p) / (10))) rfl ?_
            refine aops_end ?_
            refine hK16 _ ?_
            refine awp_region rfl ?_
            refine o_mv (nm .i64 (k)) rfl ?_
            refine n_add (k) (1) Gd.none rfl rfl (by simp only [topOf]; omega) ?_
            refine o_as (nm .i64 ((k) + (1))) rfl ?_
            refine aops_end ?_
            refine ⟨_, _, ?lt, ⟨k + 1, (p) / (10), (bk) ++ ([(48) + ((p) % (10))]), (by omega), (by rw [Nat.div_lt_iff_lt_mul (by decide), ← Nat.pow_succ, show Nat.succ (9 - (k + 1)) = 9 - k by omega]; exact hp), (by omega), (text_step (by omega) (by first | omega | (have := hpos (by omega); omega)) hw), rfl, rfl⟩, ?wk⟩
            case lt => omega
            case wk => exact Wk.trans (Wk.sub (σ' := ⟨[(1, (AV.ref 2 (0))), (3, (AV.row 202)), (4, (nm .i64 (i))), (5, (nm .i64 ((p) / (10)))), (6, (nm .i64 ((k) + (1))))], [(2, (oZ 41 .i64 (z))), (202, (AO.row 5 1 (ns .u8 ((bk) ++ ([(48) + ((p) % (10))])))))]⟩) (And.intro rfl (And.intro rfl (And.intro rfl (And.intro rfl (And.intro rfl (trivial)))))) (And.intro rfl (And.intro rfl (trivial)))) (Wk.trans (Wk.ren (id := 202) (id' := 3) rfl) (Wk.sub (And.intro rfl (And.intro (by first | rfl | (simp)) (And.intro rfl (And.intro (by first | rfl | exact congrArg (nm _) (by omega) | exact nm_int (by omega) | exact nm_int (by simp [IntKind.wrap, IntKind.bits, IntKind.signed]; omega)) (And.intro (by first | rfl | exact congrArg (nm _) (by omega) | exact nm_int (by omega) | exact nm_int (by simp [IntKind.wrap, IntKind.bits, IntKind.signed]; omega)) (trivial)))))) (And.intro rfl (And.intro (by first | rfl | exact row_ns (by simp)) (trivial)))))
          · refine awp_exit ?_
            refine hK9 _ ?_
            refine awp_region rfl ?_
            refine o_mv (nm .i64 (i)) rfl ?_
            refine n_add (i) (1) Gd.none rfl rfl (by simp only [topOf]; omega) ?_
            refine o_as (nm .i64 ((i) + (1))) rfl ?_
            refine aops_end ?_
            have h0 : val ((digs z.natAbs).drop (i + 1)) = 0 := val_drop_all (by omega)
            have hh := hw
            rw [h0, show p = 0 by omega, Nat.mul_zero] at hh
            have hend : bk ++ decs (val ((digs z.natAbs).drop (i + 1))) = decs z.natAbs := by rw [h0]; exact hh
            refine ⟨_, _, ?lt, ⟨i + 1, bk, (by omega), hend, rfl, rfl⟩, ?wk⟩
            case lt => omega
            case wk => exact Wk.sub (And.intro rfl (And.intro rfl (And.intro (by first | rfl | exact congrArg (nm _) (by omega) | exact nm_int (by omega) | exact nm_int (by simp [IntKind.wrap, IntKind.bits, IntKind.signed]; omega)) (trivial)))) (And.intro rfl (And.intro rfl (trivial)))
      · refine o_skip rfl rfl (decide_eq_false h3) ?_
        refine o_skip rfl rfl (decide_eq_false h3) ?_
        refine o_skip rfl rfl (decide_eq_false h3) ?_
        refine o_skipU rfl rfl ?_
        refine o_skipU rfl rfl ?_
        refine o_skipU rfl rfl ?_
        refine o_skipU rfl rfl ?_
        refine o_skipU rfl rfl ?_
        refine o_skipU rfl rfl ?_
        refine o_skip rfl rfl (decide_eq_false h3) ?_
        refine o_pickF (AV.lit (.bool false)) Gd.none rfl (decide_eq_false h3) rfl ?_
        refine aops_end ?_
        refine hK13 _ ?_
        refine awp_condB (b := false) rfl (fun hh => absurd (hh.symm.trans rfl) (by decide)) (fun _ => ?_)
        refine awp_exit ?_
        refine hK9 _ ?_
        refine awp_region rfl ?_
        refine o_mv (nm .i64 (i)) rfl ?_
        refine n_add (i) (1) Gd.none rfl rfl (by simp only [topOf]; omega) ?_
        refine o_as (nm .i64 ((i) + (1))) rfl ?_
        refine aops_end ?_
        have hend := hw
        rw [show k = 9 by omega, show p = 0 by (have h9 := hp; rw [show k = 9 by omega] at h9; simpa using h9)] at hend
        simp only [Nat.sub_self, Nat.pow_zero, Nat.one_mul, Nat.zero_add] at hend
        refine ⟨_, _, ?lt, ⟨i + 1, bk, (by omega), hend, rfl, rfl⟩, ?wk⟩
        case lt => omega
        case wk => exact Wk.sub (And.intro rfl (And.intro rfl (And.intro (by first | rfl | exact congrArg (nm _) (by omega) | exact nm_int (by omega) | exact nm_int (by simp [IntKind.wrap, IntKind.bits, IntKind.signed]; omega)) (trivial)))) (And.intro rfl (And.intro rfl (trivial)))
    · refine awp_exit ?_
      refine hK5 _ ?_
      refine awp_seqJ (J := fun σ => ∃ (b : List Nat), (b = decs z.natAbs ++ if z < 0 then [45] else []) ∧ (b.length ≤ 9000000001) ∧ True ∧ σ = ⟨[(3, (AV.row 3))], [(3, (AO.row 5 1 (ns .u8 (b))))]⟩) ?ja2 ?jb2
      case ja2 =>
        refine awp_seq fun K18 hK18 => ?_
        refine awp_region rfl ?_
        refine o_fieldRef 0 Gd.none Wd_tF41_0 rfl rfl ?_
        refine o_loadS (bp (z < 0)) Gd.none Wd_tS4 rfl rfl rfl ?_
        refine aops_end ?_
        refine hK18 _ ?_
        refine awp_condQ (q := z < 0) rfl (fun h6 => ?_) (fun h6 => ?_)
        · refine awp_region rfl ?_
          refine o_mv (AV.row 3) rfl ?_
          refine o_buildSlice 101 (ns .u8 ([45])) [(0, [(nm .u8 (45))])] Gd.none Wd_tE70 rfl Wd_tO5 rfl rfl rfl rfl rfl rfl rfl ?_
          refine n_append 102 (bk) ([45]) [(101, (AO.row 5 1 (ns .u8 ([45])))), (2, (oZ 41 .i64 (z)))] Gd.none Wd_tE70 Wd_tO5 rfl rfl rfl rfl rfl (by simp only [List.length_append, List.length_cons, List.length_nil]; have := congrArg List.length (bk_end hv (by omega)); omega) (by decide) rfl rfl ?_
          refine o_as (AV.row 102) rfl ?_
          refine aops_end ?_
          have hbe := bk_end hv (by omega)
          exact ⟨_, ⟨(bk) ++ ([45]), (by rw [hbe]; simp [*]), (by simp [hbe]; omega), trivial, rfl⟩, Wk.trans (Wk.sub (σ' := ⟨[(3, (AV.row 102))], [(102, (AO.row 5 1 (ns .u8 ((bk) ++ ([45])))))]⟩) (And.intro rfl (trivial)) (And.intro rfl (trivial))) (Wk.trans (Wk.ren (id := 102) (id' := 3) rfl) (Wk.sub (And.intro (by first | rfl | (simp)) (trivial)) (And.intro (by first | rfl | exact row_ns (by simp)) (trivial))))⟩
        · refine awp_skip ?_
          have hbe := bk_end hv (by omega)
          exact ⟨_, ⟨bk, (by rw [hbe]; simp [*]), (by simp [hbe]; omega), trivial, rfl⟩, Wk.sub (And.intro rfl (trivial)) (And.intro (by first | rfl | exact row_ns (by simp)) (trivial))⟩
      rintro _ ⟨b, hb, hbl, -, rfl⟩
      refine awp_seq fun K19 hK19 => ?_
      refine awp_region rfl ?_
      refine o_as (AV.lit (.slice none 0 0)) rfl ?_
      refine aops_end ?_
      refine hK19 _ ?_
      refine awp_seq fun K20 hK20 => ?_
      refine awp_seq fun K21 hK21 => ?_
      refine awp_region rfl ?_
      refine o_mv (AV.row 3) rfl ?_
      refine n_lenRow (b) Gd.none Wd_tU70 rfl rfl ?_
      refine o_sub (a := ((((b).length : Nat) : Int))) (c := (((1 : Nat) : Int))) Gd.none rfl rfl (by exact wrap64 (by omega) (by omega)) ?_
      refine o_as (AV.lit (.int .i64 (((((b).length : Nat) : Int)) - (((1 : Nat) : Int))))) rfl ?_
      refine aops_end ?_
      refine hK21 _ ?_
      refine awp_block ?_
      refine awp_loopR (fun κ σ => ∃ (j : Nat), ∃ (out : List Nat), (j ≤ b.length) ∧ (out = (b.drop j).reverse) ∧ (j) = κ ∧ σ = ⟨[(3, (AV.row 3)), (7, (AV.row 4)), (8, (AV.lit (.int .i64 ((j : Int) - 1))))], [(3, (AO.row 5 1 (ns .u8 (b)))), (4, (AO.row 5 1 (ns .u8 (out))))]⟩) ⟨_, _, ⟨b.length, [], (Nat.le_refl _), (by simp), rfl, rfl⟩, ?wk3⟩ ?rd3
      case wk3 =>
        exact Wk.trans (Wk.newNil (i := 7) (id := 801) (e := 5) (sz := 1) rfl rfl (by decide)) (Wk.trans (Wk.sub (σ' := ⟨[(3, (AV.row 3)), (7, (AV.row 801)), (8, (AV.lit (.int .i64 (((((b).length : Nat) : Int)) - (((1 : Nat) : Int))))))], [(3, (AO.row 5 1 (ns .u8 (b)))), (801, (AO.row 5 1 (ns .u8 ([]))))]⟩) (And.intro rfl (And.intro rfl (And.intro rfl (trivial)))) (And.intro rfl (And.intro rfl (trivial)))) (Wk.trans (Wk.ren (id := 801) (id' := 4) rfl) (Wk.sub (And.intro rfl (And.intro (by first | rfl | (simp)) (And.intro (by first | rfl | exact int_eq (by omega) | exact int_nm (by omega)) (trivial)))) (And.intro (by first | rfl | exact row_ns (by simp)) (And.intro (by first | rfl | exact row_ns (by simp)) (trivial))))))
      rintro κ _ ⟨j, out, hj, ho, rfl, rfl⟩
      refine awp_seq fun K22 hK22 => ?_
      refine awp_seq fun K23 hK23 => ?_
      refine awp_region rfl ?_
      refine o_mv (AV.lit (.int .i64 ((j : Int) - 1))) rfl ?_
      refine o_geq (a := ((j : Int) - 1)) (c := (((0 : Nat) : Int))) Gd.none rfl rfl ?_
      refine aops_end ?_
      refine hK23 _ ?_
      refine awp_condQ (q := (((0 : Nat) : Int)) ≤ ((j : Int) - 1)) rfl (fun h7 => ?_) (fun h7 => ?_)
      · refine awp_wk (Wk.slot (i := 8) (y := (nm .i64 (j - 1))) (AV.le_eq (by exact nm_int (by omega)))) ?_
        refine awp_skip ?_
        refine hK22 _ ?_
        refine awp_seq fun K24 hK24 => ?_
        refine awp_block ?_
        refine awp_region rfl ?_
        refine o_mv (AV.row 4) rfl ?_
        refine o_mv (AV.row 3) rfl ?_
        refine o_mv (nm .i64 (j - 1)) rfl ?_
        refine n_indexRow (b) (j - 1) Gd.none Wd_tE70 rfl rfl rfl (by omega) ?_
        refine n_loadRow (b) (j - 1) Gd.none Wd_tS5 rfl rfl (by omega) ?_
        refine o_buildSlice 401 (ns .u8 ([(b).getD (j - 1) 0])) [(0, [(nm .u8 ((b).getD (j - 1) 0))])] Gd.none Wd_tE70 rfl Wd_tO5 rfl rfl rfl rfl rfl rfl rfl ?_
        refine n_append 402 (out) ([(b).getD (j - 1) 0]) [(401, (AO.row 5 1 (ns .u8 ([(b).getD (j - 1) 0])))), (3, (AO.row 5 1 (ns .u8 (b))))] Gd.none Wd_tE70 Wd_tO5 rfl rfl rfl rfl rfl (by simp only [ho, List.length_append, List.length_cons, List.length_nil, List.length_reverse, List.length_drop]; omega) (by decide) rfl rfl ?_
        refine o_as (AV.row 402) rfl ?_
        refine aops_end ?_
        refine hK24 _ ?_
        refine awp_region rfl ?_
        refine o_mv (nm .i64 (j - 1)) rfl ?_
        refine o_sub (a := (((j - 1 : Nat) : Int))) (c := (((1 : Nat) : Int))) Gd.none rfl rfl (by exact wrap64 (by omega) (by omega)) ?_
        refine o_as (AV.lit (.int .i64 ((((j - 1 : Nat) : Int)) - (((1 : Nat) : Int))))) rfl ?_
        refine aops_end ?_
        refine ⟨_, _, ?lt, ⟨j - 1, (out) ++ ([(b).getD (j - 1) 0]), (by omega), (by rw [ho]; exact rev_step (by omega) hj), rfl, rfl⟩, ?wk⟩
        case lt => omega
        case wk => exact Wk.trans (Wk.sub (σ' := ⟨[(3, (AV.row 3)), (7, (AV.row 402)), (8, (AV.lit (.int .i64 ((((j - 1 : Nat) : Int)) - (((1 : Nat) : Int))))))], [(3, (AO.row 5 1 (ns .u8 (b)))), (402, (AO.row 5 1 (ns .u8 ((out) ++ ([(b).getD (j - 1) 0])))))]⟩) (And.intro rfl (And.intro rfl (And.intro rfl (trivial)))) (And.intro rfl (And.intro rfl (trivial)))) (Wk.trans (Wk.ren (id := 402) (id' := 4) rfl) (Wk.sub (And.intro rfl (And.intro (by first | rfl | (simp)) (And.intro (by first | rfl | exact int_eq (by omega) | exact int_nm (by omega)) (trivial)))) (And.intro (by first | rfl | exact row_ns (by simp)) (And.intro (by first | rfl | exact row_ns (by simp)) (trivial)))))
      · refine awp_exit ?_
        refine hK20 _ ?_
        refine awp_seq fun K25 hK25 => ?_
        refine awp_region rfl ?_
        refine o_mv (AV.row 4) rfl ?_
        refine n_strOf (out) Gd.none Wd_tU70 Wd_tQ5 Wd_tT9 rfl rfl ?_
        refine o_as (AV.lit (.string (strN (out)))) rfl ?_
        refine aops_end ?_
        refine hK25 _ ?_
        refine awp_ret ?_
        refine post_ret ⟨[(AV.lit (.string (strN (out))))], And.intro (AV.le_refl _) (trivial), rfl, ?_⟩
        have hj0 : j = 0 := by omega
        subst hj0
        rw [ho, List.drop_zero]
        exact congrArg (fun x => AV.lit (.string x)) (txt_fin hz0 hb)

end Go.Proofs.YtpamhblonmpniaaGreatDoor

set_option linter.unusedVariables false
set_option linter.unusedSimpArgs false
namespace Go.Proofs.YtpamhblonmpniaaGreatDoor
open Go Go.Ab Go.Mth
theorem We_tT9 : cx.P.underlying 9 = some .string := by kernel_rfl
theorem We_tO41 : tyZero cx.P 41 = some [(Go.Value.bool false), (Go.Value.slice none 0 0)] := by kernel_rfl
theorem We_tI5 : tyInt cx.P 5 = some .u8 := by kernel_rfl
theorem We_tI3 : tyInt cx.P 3 = some .i64 := by kernel_rfl
theorem We_tE25 : tyElem cx.P 25 = some (3, 1, 8) := by kernel_rfl
theorem We_tO3 : tyZero cx.P 3 = some [(Go.Value.int IntKind.i64 0)] := by kernel_rfl
theorem We_tC37 : callable cx.P 37 = true := by kernel_rfl
theorem We_tZ41 : tySize cx.P 41 = some 2 := by kernel_rfl
theorem We_tA41 : tyAgg cx.P 41 = some 2 := by kernel_rfl
theorem c_rValid (a : ByteArray) (hsz : a.size ≤ 9223372036854775807) : ECalls cx 17 [(AV.lit (.string (a)))] (.lit (.bool (okS a))) := by
  refine ecalls_of_awp Tryz.func17 (c := _) rfl (Nat.le_of_ble_eq_true rfl) ?_
  show awp cx 51 _ (postF cx Tryz.f17 _) ⟨[(0, (AV.lit (.string (a))))], []⟩
  refine awp_seq fun K0 hK0 => ?_
  refine awp_region rfl ?_
  refine o_as (AV.lit (.bool false)) rfl ?_
  refine aops_end ?_
  refine hK0 _ ?_
  refine awp_seq fun K1 hK1 => ?_
  refine awp_region rfl ?_
  refine o_mv (AV.lit (.string (a))) rfl ?_
  refine n_lenS (a) Gd.none rfl We_tT9 ?_
  refine o_as (nm .i64 ((a).size)) rfl ?_
  refine aops_end ?_
  refine hK1 _ ?_
  refine awp_seq fun K2 hK2 => ?_
  refine awp_region rfl ?_
  refine o_as (nm .i64 (0)) rfl ?_
  refine aops_end ?_
  refine hK2 _ ?_
  refine awp_seqJ (J := fun σ => True ∧ σ = ⟨[(0, (AV.lit (.string (a)))), (3, (nm .i64 (a.size - sgnAt a))), (4, (nm .i64 (sgnAt a)))], []⟩) ?ja0 ?jb0
  case ja0 =>
    refine awp_seq fun K3 hK3 => ?_
    refine awp_region rfl ?_
    refine o_mv (AV.lit (.string (a))) rfl ?_
    refine o_neqS (a := (a)) (c := (({data := #[]} : ByteArray))) Gd.none rfl rfl ?_
    refine o_mv (bp ((a).toList ≠ (({data := #[]} : ByteArray)).toList)) rfl ?_
    refine o_splitP (q := (a).toList ≠ (({data := #[]} : ByteArray)).toList) 10 rfl (fun h1 => ?_) (fun h1 => ?_)
    · refine o_move (AV.lit (.string (a))) (Gd.yes rfl rfl (decide_eq_true h1)) rfl ?_
      refine n_indexS (a) (0) (Gd.yes rfl rfl (decide_eq_true h1)) We_tT9 rfl rfl (by have := mt str_nil.2 h1; omega) ?_
      refine n_eql (byt (a) (0)) (45) (Gd.yes rfl rfl (decide_eq_true h1)) rfl rfl ?_
      refine o_pickT (bp ((byt (a) (0)) = (45))) Gd.none rfl (decide_eq_true h1) rfl ?_
      refine aops_end ?_
      refine hK3 _ ?_
      refine awp_condQ (q := (byt (a) (0)) = (45)) rfl (fun h2 => ?_) (fun h2 => ?_)
      · refine awp_seq fun K4 hK4 => ?_
        refine awp_region rfl ?_
        refine o_mv (nm .i64 ((a).size)) rfl ?_
        refine n_sub ((a).size) (1) Gd.none rfl rfl (by have := mt str_nil.2 h1; omega) (by simp only [topOf]; omega) ?_
        refine o_as (nm .i64 (((a).size) - (1))) rfl ?_
        refine aops_end ?_
        refine hK4 _ ?_
        refine awp_region rfl ?_
        refine o_as (nm .i64 (1)) rfl ?_
        refine aops_end ?_
        have hs : sgnAt a = 1 := if_pos h2
        have hne := mt str_nil.2 h1
        exact ⟨_, ⟨trivial, rfl⟩, Wk.sub (And.intro rfl (And.intro (by first | rfl | exact congrArg (nm _) (by omega) | exact nm_int (by omega) | exact nm_int (by simp [IntKind.wrap, IntKind.bits, IntKind.signed]; omega)) (And.intro (by first | rfl | exact congrArg (nm _) (by omega) | exact nm_int (by omega) | exact nm_int (by simp [IntKind.wrap, IntKind.bits, IntKind.signed]; omega)) (trivial)))) (trivial)⟩
      · refine awp_skip ?_
        have hs : sgnAt a = 0 := if_neg h2
        exact ⟨_, ⟨trivial, rfl⟩, Wk.sub (And.intro rfl (And.intro (by first | rfl | exact congrArg (nm _) (by omega) | exact nm_int (by omega) | exact nm_int (by simp [IntKind.wrap, IntKind.bits, IntKind.signed]; omega)) (And.intro (by first | rfl | exact congrArg (nm _) (by omega) | exact nm_int (by omega) | exact nm_int (by simp [IntKind.wrap, IntKind.bits, IntKind.signed]; omega)) (trivial)))) (trivial)⟩
    · refine o_skip rfl rfl (decide_eq_false h1) ?_
      refine o_skip rfl rfl (decide_eq_false h1) ?_
      refine o_skip rfl rfl (decide_eq_false h1) ?_
      refine o_pickF (AV.lit (.bool false)) Gd.none rfl (decide_eq_false h1) rfl ?_
      refine aops_end ?_
      refine hK3 _ ?_
      refine awp_condB (b := false) rfl (fun hh => absurd (hh.symm.trans rfl) (by decide)) (fun _ => ?_)
      refine awp_skip ?_
      have hs : sgnAt a = 0 := if_neg (by rw [byt_nil (str_nil.1 (Decidable.not_not.1 h1))]; decide)
      exact ⟨_, ⟨trivial, rfl⟩, Wk.sub (And.intro rfl (And.intro (by first | rfl | exact congrArg (nm _) (by omega) | exact nm_int (by omega) | exact nm_int (by simp [IntKind.wrap, IntKind.bits, IntKind.signed]; omega)) (And.intro (by first | rfl | exact congrArg (nm _) (by omega) | exact nm_int (by omega) | exact nm_int (by simp [IntKind.wrap, IntKind.bits, IntKind.signed]; omega)) (trivial)))) (trivial)⟩
  rintro _ ⟨-, rfl⟩
  have hs1 : sgnAt a ≤ 1 := by unfold sgnAt; split <;> omega
  refine awp_seq fun K5 hK5 => ?_
  refine awp_seq fun K6 hK6 => ?_
  refine awp_region rfl ?_
  refine o_mv (nm .i64 (a.size - sgnAt a)) rfl ?_
  refine n_lss (a.size - sgnAt a) (1) Gd.none rfl rfl ?_
  refine o_mv (bp ((a.size - sgnAt a) < (1))) rfl ?_
  refine o_splitP (q := (a.size - sgnAt a) < (1)) 19 rfl (fun h3 => ?_) (fun h3 => ?_)
  · refine o_skip rfl rfl (decide_eq_true h3) ?_
    refine o_skip rfl rfl (decide_eq_true h3) ?_
    refine o_pickT (AV.lit (.bool true)) Gd.none rfl (decide_eq_true h3) rfl ?_
    refine o_mv (AV.lit (.bool true)) rfl ?_
    refine o_skip rfl rfl rfl ?_
    refine o_skip rfl rfl rfl ?_
    refine o_skip rfl rfl rfl ?_
    refine o_skip rfl rfl rfl ?_
    refine o_skip rfl rfl rfl ?_
    refine o_skipU rfl rfl ?_
    refine o_skipU rfl rfl ?_
    refine o_skipU rfl rfl ?_
    refine o_skip rfl rfl rfl ?_
    refine o_pickT (AV.lit (.bool true)) Gd.none rfl rfl rfl ?_
    refine aops_end ?_
    refine hK6 _ ?_
    refine awp_condB (b := true) rfl (fun _ => ?_) (fun hh => absurd (hh.symm.trans rfl) (by decide))
    refine awp_seq fun K7 hK7 => ?_
    refine awp_region rfl ?_
    refine o_as (AV.lit (.bool false)) rfl ?_
    refine aops_end ?_
    refine hK7 _ ?_
    refine awp_ret ?_
    refine post_ret ⟨[(AV.lit (.bool false))], And.intro (AV.le_refl _) (trivial), rfl, ?_⟩
    refine bl_eq (okS_no fun h => ?_)
    obtain ⟨o1, o2, o3, o4⟩ := h
    first | omega | (have := o4 i (by omega) (by omega); omega)
  · refine o_move (nm .i64 (a.size - sgnAt a)) (Gd.yes rfl rfl (decide_eq_false h3)) rfl ?_
    refine n_gtr (a.size - sgnAt a) (2000) (Gd.yes rfl rfl (decide_eq_false h3)) rfl rfl ?_
    refine o_pickF (bp ((2000) < (a.size - sgnAt a))) Gd.none rfl (decide_eq_false h3) rfl ?_
    refine o_mv (bp ((2000) < (a.size - sgnAt a))) rfl ?_
    refine o_splitP (q := (2000) < (a.size - sgnAt a)) 23 rfl (fun h4 => ?_) (fun h4 => ?_)
    · refine o_skip rfl rfl (decide_eq_true h4) ?_
      refine o_skip rfl rfl (decide_eq_true h4) ?_
      refine o_skip rfl rfl (decide_eq_true h4) ?_
      refine o_skip rfl rfl (decide_eq_true h4) ?_
      refine o_skip rfl rfl (decide_eq_true h4) ?_
      refine o_skipU rfl rfl ?_
      refine o_skipU rfl rfl ?_
      refine o_skipU rfl rfl ?_
      refine o_skip rfl rfl (decide_eq_true h4) ?_
      refine o_pickT (AV.lit (.bool true)) Gd.none rfl (decide_eq_true h4) rfl ?_
      refine aops_end ?_
      refine hK6 _ ?_
      refine awp_condB (b := true) rfl (fun _ => ?_) (fun hh => absurd (hh.symm.trans rfl) (by decide))
      refine awp_seq fun K8 hK8 => ?_
      refine awp_region rfl ?_
      refine o_as (AV.lit (.bool false)) rfl ?_
      refine aops_end ?_
      refine hK8 _ ?_
      refine awp_ret ?_
      refine post_ret ⟨[(AV.lit (.bool false))], And.intro (AV.le_refl _) (trivial), rfl, ?_⟩
      refine bl_eq (okS_no fun h => ?_)
      obtain ⟨o1, o2, o3, o4⟩ := h
      first | omega | (have := o4 i (by omega) (by omega); omega)
    · refine o_move (AV.lit (.string (a))) (Gd.yes rfl rfl (decide_eq_false h4)) rfl ?_
      refine o_move (nm .i64 (sgnAt a)) (Gd.yes rfl rfl (decide_eq_false h4)) rfl ?_
      refine n_indexS (a) (sgnAt a) (Gd.yes rfl rfl (decide_eq_false h4)) We_tT9 rfl rfl (by omega) ?_
      refine n_eql (byt (a) (sgnAt a)) (48) (Gd.yes rfl rfl (decide_eq_false h4)) rfl rfl ?_
      refine o_move (bp ((byt (a) (sgnAt a)) = (48))) (Gd.yes rfl rfl (decide_eq_false h4)) rfl ?_
      refine o_splitP (q := (byt (a) (sgnAt a)) = (48)) 28 rfl (fun h5 => ?_) (fun h5 => ?_)
      · refine o_move (AV.lit (.string (a))) (Gd.yes rfl rfl (decide_eq_true h5)) rfl ?_
        refine n_lenS (a) (Gd.yes rfl rfl (decide_eq_true h5)) rfl We_tT9 ?_
        refine n_gtr ((a).size) (1) (Gd.yes rfl rfl (decide_eq_true h5)) rfl rfl ?_
        refine o_pickT (bp ((1) < ((a).size))) (Gd.yes rfl rfl (decide_eq_false h4)) rfl (decide_eq_true h5) rfl ?_
        refine o_pickF (bp ((1) < ((a).size))) Gd.none rfl (decide_eq_false h4) rfl ?_
        refine aops_end ?_
        refine hK6 _ ?_
        refine awp_condQ (q := (1) < ((a).size)) rfl (fun h6 => ?_) (fun h6 => ?_)
        · refine awp_seq fun K9 hK9 => ?_
          refine awp_region rfl ?_
          refine o_as (AV.lit (.bool false)) rfl ?_
          refine aops_end ?_
          refine hK9 _ ?_
          refine awp_ret ?_
          refine post_ret ⟨[(AV.lit (.bool false))], And.intro (AV.le_refl _) (trivial), rfl, ?_⟩
          refine bl_eq (okS_no fun h => ?_)
          obtain ⟨o1, o2, o3, o4⟩ := h
          first | omega | (have := o4 i (by omega) (by omega); omega)
        · refine awp_skip ?_
          refine hK5 _ ?_
          refine awp_seq fun K10 hK10 => ?_
          refine awp_seq fun K11 hK11 => ?_
          refine awp_region rfl ?_
          refine o_mv (nm .i64 (sgnAt a)) rfl ?_
          refine o_as (nm .i64 (sgnAt a)) rfl ?_
          refine aops_end ?_
          refine hK11 _ ?_
          refine awp_block ?_
          refine awp_loopR (fun κ σ => ∃ (i : Nat), (sgnAt a ≤ i) ∧ (i ≤ a.size) ∧ (∀ k, sgnAt a ≤ k → k < i → 48 ≤ byt a k ∧ byt a k ≤ 57) ∧ (a.size - i) = κ ∧ σ = ⟨[(0, (AV.lit (.string (a)))), (5, (nm .i64 (i)))], []⟩) ⟨_, _, ⟨sgnAt a, (by omega), (by omega), (fun k h1 h2 => by omega), rfl, rfl⟩, ?wk1⟩ ?rd1
          case wk1 =>
            exact Wk.sub (And.intro rfl (And.intro (by first | rfl | exact congrArg (nm _) (by omega) | exact nm_int (by omega) | exact nm_int (by simp [IntKind.wrap, IntKind.bits, IntKind.signed]; omega)) (trivial))) (trivial)
          rintro κ _ ⟨i, hi, hi2, hv, rfl, rfl⟩
          refine awp_seq fun K12 hK12 => ?_
          refine awp_seq fun K13 hK13 => ?_
          refine awp_region rfl ?_
          refine o_mv (nm .i64 (i)) rfl ?_
          refine o_mv (AV.lit (.string (a))) rfl ?_
          refine n_lenS (a) Gd.none rfl We_tT9 ?_
          refine n_lss (i) ((a).size) Gd.none rfl rfl ?_
          refine aops_end ?_
          refine hK13 _ ?_
          refine awp_condQ (q := (i) < ((a).size)) rfl (fun h7 => ?_) (fun h7 => ?_)
          · refine awp_skip ?_
            refine hK12 _ ?_
            refine awp_seq fun K14 hK14 => ?_
            refine awp_block ?_
            refine awp_seq fun K15 hK15 => ?_
            refine awp_region rfl ?_
            refine o_mv (AV.lit (.string (a))) rfl ?_
            refine o_mv (nm .i64 (i)) rfl ?_
            refine n_indexS (a) (i) Gd.none We_tT9 rfl rfl (by omega) ?_
            refine n_lss (byt (a) (i)) (48) Gd.none rfl rfl ?_
            refine o_mv (bp ((byt (a) (i)) < (48))) rfl ?_
            refine o_splitP (q := (byt (a) (i)) < (48)) 45 rfl (fun h8 => ?_) (fun h8 => ?_)
            · refine o_skip rfl rfl (decide_eq_true h8) ?_
              refine o_skip rfl rfl (decide_eq_true h8) ?_
              refine o_skip rfl rfl (decide_eq_true h8) ?_
              refine o_skip rfl rfl (decide_eq_true h8) ?_
              refine o_pickT (AV.lit (.bool true)) Gd.none rfl (decide_eq_true h8) rfl ?_
              refine aops_end ?_
              refine hK15 _ ?_
              refine awp_condB (b := true) rfl (fun _ => ?_) (fun hh => absurd (hh.symm.trans rfl) (by decide))
              refine awp_seq fun K16 hK16 => ?_
              refine awp_region rfl ?_
              refine o_as (AV.lit (.bool false)) rfl ?_
              refine aops_end ?_
              refine hK16 _ ?_
              refine awp_ret ?_
              refine post_ret ⟨[(AV.lit (.bool false))], And.intro (AV.le_refl _) (trivial), rfl, ?_⟩
              refine bl_eq (okS_no fun h => ?_)
              obtain ⟨o1, o2, o3, o4⟩ := h
              first | omega | (have := o4 i (by omega) (by omega); omega)
            · refine o_move (AV.lit (.string (a))) (Gd.yes rfl rfl (decide_eq_false h8)) rfl ?_
              refine o_move (nm .i64 (i)) (Gd.yes rfl rfl (decide_eq_false h8)) rfl ?_
              refine n_indexS (a) (i) (Gd.yes rfl rfl (decide_eq_false h8)) We_tT9 rfl rfl (by omega) ?_
              refine n_gtr (byt (a) (i)) (57) (Gd.yes rfl rfl (decide_eq_false h8)) rfl rfl ?_
              refine o_pickF (bp ((57) < (byt (a) (i)))) Gd.none rfl (decide_eq_false h8) rfl ?_
              refine aops_end ?_
              refine hK15 _ ?_
              refine awp_condQ (q := (57) < (byt (a) (i))) rfl (fun h9 => ?_) (fun h9 => ?_)
              · refine awp_seq fun K17 hK17 => ?_
                refine awp_region rfl ?_
                refine o_as (AV.lit (.bool false)) rfl ?_
                refine aops_end ?_
                refine hK17 _ ?_
                refine awp_ret ?_
                refine post_ret ⟨[(AV.lit (.bool false))], And.intro (AV.le_refl _) (trivial), rfl, ?_⟩
                refine bl_eq (okS_no fun h => ?_)
                obtain ⟨o1, o2, o3, o4⟩ := h
                first | omega | (have := o4 i (by omega) (by omega); omega)
              · refine awp_skip ?_
                refine hK14 _ ?_
                refine awp_region rfl ?_
                refine o_mv (nm .i64 (i)) rfl ?_
                refine n_add (i) (1) Gd.none rfl rfl (by simp only [topOf]; omega) ?_
                refine o_as (nm .i64 ((i) + (1))) rfl ?_
                refine aops_end ?_
                refine ⟨_, _, ?lt, ⟨i + 1, (by omega), (by omega), (fun k hk1 hk2 => by by_cases e : k = i; subst e; omega; exact hv k hk1 (by omega)), rfl, rfl⟩, ?wk⟩
                case lt => omega
                case wk => exact Wk.sub (And.intro rfl (And.intro (by first | rfl | exact congrArg (nm _) (by omega) | exact nm_int (by omega) | exact nm_int (by simp [IntKind.wrap, IntKind.bits, IntKind.signed]; omega)) (trivial))) (trivial)
          · refine awp_exit ?_
            refine hK10 _ ?_
            refine awp_seq fun K18 hK18 => ?_
            refine awp_region rfl ?_
            refine o_as (AV.lit (.bool true)) rfl ?_
            refine aops_end ?_
            refine hK18 _ ?_
            refine awp_ret ?_
            refine post_ret ⟨[(AV.lit (.bool true))], And.intro (AV.le_refl _) (trivial), rfl, ?_⟩
            refine bl_eq (okS_yes ⟨by omega, by omega, by omega, fun k hk1 hk2 => hv k hk1 (by omega)⟩)
      · refine o_skip rfl rfl (decide_eq_false h5) ?_
        refine o_skip rfl rfl (decide_eq_false h5) ?_
        refine o_skip rfl rfl (decide_eq_false h5) ?_
        refine o_pickF (AV.lit (.bool false)) (Gd.yes rfl rfl (decide_eq_false h4)) rfl (decide_eq_false h5) rfl ?_
        refine o_pickF (AV.lit (.bool false)) Gd.none rfl (decide_eq_false h4) rfl ?_
        refine aops_end ?_
        refine hK6 _ ?_
        refine awp_condB (b := false) rfl (fun hh => absurd (hh.symm.trans rfl) (by decide)) (fun _ => ?_)
        refine awp_skip ?_
        refine hK5 _ ?_
        refine awp_seq fun K19 hK19 => ?_
        refine awp_seq fun K20 hK20 => ?_
        refine awp_region rfl ?_
        refine o_mv (nm .i64 (sgnAt a)) rfl ?_
        refine o_as (nm .i64 (sgnAt a)) rfl ?_
        refine aops_end ?_
        refine hK20 _ ?_
        refine awp_block ?_
        refine awp_loopR (fun κ σ => ∃ (i : Nat), (sgnAt a ≤ i) ∧ (i ≤ a.size) ∧ (∀ k, sgnAt a ≤ k → k < i → 48 ≤ byt a k ∧ byt a k ≤ 57) ∧ (a.size - i) = κ ∧ σ = ⟨[(0, (AV.lit (.string (a)))), (5, (nm .i64 (i)))], []⟩) ⟨_, _, ⟨sgnAt a, (by omega), (by omega), (fun k h1 h2 => by omega), rfl, rfl⟩, ?wk2⟩ ?rd2
        case wk2 =>
          exact Wk.sub (And.intro rfl (And.intro (by first | rfl | exact congrArg (nm _) (by omega) | exact nm_int (by omega) | exact nm_int (by simp [IntKind.wrap, IntKind.bits, IntKind.signed]; omega)) (trivial))) (trivial)
        rintro κ _ ⟨i, hi, hi2, hv, rfl, rfl⟩
        refine awp_seq fun K21 hK21 => ?_
        refine awp_seq fun K22 hK22 => ?_
        refine awp_region rfl ?_
        refine o_mv (nm .i64 (i)) rfl ?_
        refine o_mv (AV.lit (.string (a))) rfl ?_
        refine n_lenS (a) Gd.none rfl We_tT9 ?_
        refine n_lss (i) ((a).size) Gd.none rfl rfl ?_
        refine aops_end ?_
        refine hK22 _ ?_
        refine awp_condQ (q := (i) < ((a).size)) rfl (fun h10 => ?_) (fun h10 => ?_)
        · refine awp_skip ?_
          refine hK21 _ ?_
          refine awp_seq fun K23 hK23 => ?_
          refine awp_block ?_
          refine awp_seq fun K24 hK24 => ?_
          refine awp_region rfl ?_
          refine o_mv (AV.lit (.string (a))) rfl ?_
          refine o_mv (nm .i64 (i)) rfl ?_
          refine n_indexS (a) (i) Gd.none We_tT9 rfl rfl (by omega) ?_
          refine n_lss (byt (a) (i)) (48) Gd.none rfl rfl ?_
          refine o_mv (bp ((byt (a) (i)) < (48))) rfl ?_
          refine o_splitP (q := (byt (a) (i)) < (48)) 45 rfl (fun h11 => ?_) (fun h11 => ?_)
          · refine o_skip rfl rfl (decide_eq_true h11) ?_
            refine o_skip rfl rfl (decide_eq_true h11) ?_
            refine o_skip rfl rfl (decide_eq_true h11) ?_
            refine o_skip rfl rfl (decide_eq_true h11) ?_
            refine o_pickT (AV.lit (.bool true)) Gd.none rfl (decide_eq_true h11) rfl ?_
            refine aops_end ?_
            refine hK24 _ ?_
            refine awp_condB (b := true) rfl (fun _ => ?_) (fun hh => absurd (hh.symm.trans rfl) (by decide))
            refine awp_seq fun K25 hK25 => ?_
            refine awp_region rfl ?_
            refine o_as (AV.lit (.bool false)) rfl ?_
            refine aops_end ?_
            refine hK25 _ ?_
            refine awp_ret ?_
            refine post_ret ⟨[(AV.lit (.bool false))], And.intro (AV.le_refl _) (trivial), rfl, ?_⟩
            refine bl_eq (okS_no fun h => ?_)
            obtain ⟨o1, o2, o3, o4⟩ := h
            first | omega | (have := o4 i (by omega) (by omega); omega)
          · refine o_move (AV.lit (.string (a))) (Gd.yes rfl rfl (decide_eq_false h11)) rfl ?_
            refine o_move (nm .i64 (i)) (Gd.yes rfl rfl (decide_eq_false h11)) rfl ?_
            refine n_indexS (a) (i) (Gd.yes rfl rfl (decide_eq_false h11)) We_tT9 rfl rfl (by omega) ?_
            refine n_gtr (byt (a) (i)) (57) (Gd.yes rfl rfl (decide_eq_false h11)) rfl rfl ?_
            refine o_pickF (bp ((57) < (byt (a) (i)))) Gd.none rfl (decide_eq_false h11) rfl ?_
            refine aops_end ?_
            refine hK24 _ ?_
            refine awp_condQ (q := (57) < (byt (a) (i))) rfl (fun h12 => ?_) (fun h12 => ?_)
            · refine awp_seq fun K26 hK26 => ?_
              refine awp_region rfl ?_
              refine o_as (AV.lit (.bool false)) rfl ?_
              refine aops_end ?_
              refine hK26 _ ?_
              refine awp_ret ?_
              refine post_ret ⟨[(AV.lit (.bool false))], And.intro (AV.le_refl _) (trivial), rfl, ?_⟩
              refine bl_eq (okS_no fun h => ?_)
              obtain ⟨o1, o2, o3, o4⟩ := h
              first | omega | (have := o4 i (by omega) (by omega); omega)
            · refine awp_skip ?_
              refine hK23 _ ?_
              refine awp_region rfl ?_
              refine o_mv (nm .i64 (i)) rfl ?_
              refine n_add (i) (1) Gd.none rfl rfl (by simp only [topOf]; omega) ?_
              refine o_as (nm .i64 ((i) + (1))) rfl ?_
              refine aops_end ?_
              refine ⟨_, _, ?lt, ⟨i + 1, (by omega), (by omega), (fun k hk1 hk2 => by by_cases e : k = i; subst e; omega; exact hv k hk1 (by omega)), rfl, rfl⟩, ?wk⟩
              case lt => omega
              case wk => exact Wk.sub (And.intro rfl (And.intro (by first | rfl | exact congrArg (nm _) (by omega) | exact nm_int (by omega) | exact nm_int (by simp [IntKind.wrap, IntKind.bits, IntKind.signed]; omega)) (trivial))) (trivial)
        · refine awp_exit ?_
          refine hK19 _ ?_
          refine awp_seq fun K27 hK27 => ?_
          refine awp_region rfl ?_
          refine o_as (AV.lit (.bool true)) rfl ?_
          refine aops_end ?_
          refine hK27 _ ?_
          refine awp_ret ?_
          refine post_ret ⟨[(AV.lit (.bool true))], And.intro (AV.le_refl _) (trivial), rfl, ?_⟩
          refine bl_eq (okS_yes ⟨by omega, by omega, by omega, fun k hk1 hk2 => hv k hk1 (by omega)⟩)

theorem c_rParse (a : ByteArray) (hok : OkS a) : ECalls cx 16 [(AV.lit (.string (a)))] (intR (numS a)) := by
  refine ecalls_of_awp Tryz.func16 (c := _) rfl (Nat.le_of_ble_eq_true rfl) ?_
  show awp cx 44 _ (postF cx Tryz.f16 _) ⟨[(0, (AV.lit (.string (a))))], []⟩
  obtain ⟨o1, o2, o3, o4⟩ := hok
  have hs1 : sgnAt a ≤ 1 := by unfold sgnAt; split <;> omega
  refine awp_seq fun K0 hK0 => ?_
  refine awp_region rfl ?_
  refine o_alloc 2 [(AV.lit (.bool false)), (AV.lit (.slice none 0 0))] Gd.none We_tO41 rfl rfl rfl ?_
  refine aops_end ?_
  refine hK0 _ ?_
  refine awp_seq fun K1 hK1 => ?_
  refine awp_region rfl ?_
  refine o_mv (AV.lit (.string (a))) rfl ?_
  refine n_indexS (a) (0) Gd.none We_tT9 rfl rfl (by omega) ?_
  refine n_eql (byt (a) (0)) (45) Gd.none rfl rfl ?_
  refine o_as (bp ((byt (a) (0)) = (45))) rfl ?_
  refine aops_end ?_
  refine hK1 _ ?_
  refine awp_seq fun K2 hK2 => ?_
  refine awp_region rfl ?_
  refine o_as (nm .i64 (0)) rfl ?_
  refine aops_end ?_
  refine hK2 _ ?_
  refine awp_seqJ (J := fun σ => True ∧ σ = ⟨[(0, (AV.lit (.string (a)))), (2, (AV.ref 2 (0))), (3, (bp (byt a 0 = 45))), (4, (nm .i64 (sgnAt a)))], [(2, (AO.var 41 [(AV.lit (.bool false)), (AV.lit (.slice none 0 0))]))]⟩) ?ja0 ?jb0
  case ja0 =>
    refine awp_seq fun K3 hK3 => ?_
    refine awp_region rfl ?_
    refine o_mv (bp ((byt (a) (0)) = (45))) rfl ?_
    refine aops_end ?_
    refine hK3 _ ?_
    refine awp_condQ (q := (byt (a) (0)) = (45)) rfl (fun h1 => ?_) (fun h1 => ?_)
    · refine awp_region rfl ?_
      refine o_as (nm .i64 (1)) rfl ?_
      refine aops_end ?_
      have hs : sgnAt a = 1 := if_pos h1
      exact ⟨_, ⟨trivial, rfl⟩, Wk.sub (And.intro rfl (And.intro rfl (And.intro (by first | rfl | exact bp_congr (by first | omega | simp) | exact bl_bp (by first | omega | simp)) (And.intro (by first | rfl | exact congrArg (nm _) (by omega) | exact nm_int (by omega) | exact nm_int (by simp [IntKind.wrap, IntKind.bits, IntKind.signed]; omega)) (trivial))))) (And.intro rfl (trivial))⟩
    · refine awp_skip ?_
      have hs : sgnAt a = 0 := if_neg h1
      exact ⟨_, ⟨trivial, rfl⟩, Wk.sub (And.intro rfl (And.intro rfl (And.intro (by first | rfl | exact bp_congr (by first | omega | simp) | exact bl_bp (by first | omega | simp)) (And.intro (by first | rfl | exact congrArg (nm _) (by omega) | exact nm_int (by omega) | exact nm_int (by simp [IntKind.wrap, IntKind.bits, IntKind.signed]; omega)) (trivial))))) (And.intro rfl (trivial))⟩
  rintro _ ⟨-, rfl⟩
  refine awp_seq fun K4 hK4 => ?_
  refine awp_region rfl ?_
  refine o_as (AV.lit (.slice none 0 0)) rfl ?_
  refine aops_end ?_
  refine hK4 _ ?_
  refine awp_seq fun K5 hK5 => ?_
  refine awp_seq fun K6 hK6 => ?_
  refine awp_region rfl ?_
  refine o_mv (AV.lit (.string (a))) rfl ?_
  refine n_lenS (a) Gd.none rfl We_tT9 ?_
  refine o_as (nm .i64 ((a).size)) rfl ?_
  refine aops_end ?_
  refine hK6 _ ?_
  refine awp_block ?_
  refine awp_loopR (fun κ σ => ∃ (E : Int), ∃ (L : List Nat), (E ≤ a.size) ∧ (Dig L) ∧ ((sgnAt a : Int) < E → L.length * 9 = a.size - E.toNat) ∧ (L.length ≤ 2000) ∧ (val L = dvk a (max (sgnAt a) E.toNat) (a.size - max (sgnAt a) E.toNat)) ∧ (E.toNat) = κ ∧ σ = ⟨[(0, (AV.lit (.string (a)))), (2, (AV.ref 2 (0))), (3, (bp (byt a 0 = 45))), (4, (nm .i64 (sgnAt a))), (5, (AV.row 3)), (6, (AV.lit (.int .i64 (E))))], [(2, (AO.var 41 [(AV.lit (.bool false)), (AV.lit (.slice none 0 0))])), (3, (AO.row 3 1 (ns .i64 (L))))]⟩) ⟨_, _, ⟨(a.size : Int), [], (by omega), Dig.nil, (by intro _; simp), (by simp), (by rw [show max (sgnAt a) (a.size : Int).toNat = a.size by omega]; simp [val, dvk]), rfl, rfl⟩, ?wk1⟩ ?rd1
  case wk1 =>
    exact Wk.trans (Wk.newNil (i := 5) (id := 601) (e := 3) (sz := 1) rfl rfl (by decide)) (Wk.trans (Wk.sub (σ' := ⟨[(0, (AV.lit (.string (a)))), (2, (AV.ref 2 (0))), (3, (bp (byt a 0 = 45))), (4, (nm .i64 (sgnAt a))), (5, (AV.row 601)), (6, (nm .i64 ((a).size)))], [(2, (AO.var 41 [(AV.lit (.bool false)), (AV.lit (.slice none 0 0))])), (601, (AO.row 3 1 (ns .i64 ([]))))]⟩) (And.intro rfl (And.intro rfl (And.intro rfl (And.intro rfl (And.intro rfl (And.intro rfl (trivial))))))) (And.intro rfl (And.intro rfl (trivial)))) (Wk.trans (Wk.ren (id := 601) (id' := 3) rfl) (Wk.sub (And.intro rfl (And.intro rfl (And.intro rfl (And.intro rfl (And.intro (by first | rfl | (simp)) (And.intro (by first | rfl | exact int_eq (by omega) | exact int_nm (by omega)) (trivial))))))) (And.intro rfl (And.intro (by first | rfl | exact row_ns (by simp)) (trivial))))))
  rintro κ _ ⟨E, L, hE, hd, hl, hl2, hv, rfl, rfl⟩
  refine awp_seq fun K7 hK7 => ?_
  refine awp_seq fun K8 hK8 => ?_
  refine awp_region rfl ?_
  refine o_mv (AV.lit (.int .i64 (E))) rfl ?_
  refine o_mv (nm .i64 (sgnAt a)) rfl ?_
  refine o_gtr (a := (E)) (c := (((sgnAt a : Nat) : Int))) Gd.none rfl rfl ?_
  refine aops_end ?_
  refine hK8 _ ?_
  refine awp_condQ (q := (((sgnAt a : Nat) : Int)) < (E)) rfl (fun h2 => ?_) (fun h2 => ?_)
  · refine awp_wk (Wk.slot (i := 6) (y := (nm .i64 (E.toNat))) (AV.le_eq (by exact nm_int (by omega)))) ?_
    refine awp_skip ?_
    refine hK7 _ ?_
    refine awp_seq fun K9 hK9 => ?_
    refine awp_block ?_
    refine awp_seq fun K10 hK10 => ?_
    refine awp_region rfl ?_
    refine o_as (nm .i64 (0)) rfl ?_
    refine aops_end ?_
    refine hK10 _ ?_
    refine awp_seq fun K11 hK11 => ?_
    refine awp_seq fun K12 hK12 => ?_
    refine awp_region rfl ?_
    refine o_mv (nm .i64 (sgnAt a)) rfl ?_
    refine o_mv (nm .i64 (E.toNat)) rfl ?_
    refine o_sub (a := (((E.toNat : Nat) : Int))) (c := (((9 : Nat) : Int))) Gd.none rfl rfl (by exact wrap64 (by omega) (by omega)) ?_
    refine o_max (a := ((sgnAt a : Nat) : Int)) (c := (((E.toNat : Nat) : Int)) - (((9 : Nat) : Int))) Gd.none rfl rfl (fun w => run_max _ _ w) ?_
    refine n_as (v' := (nm .i64 (max (sgnAt a) (E.toNat - 9)))) (nm_int (by omega)) ?_
    refine o_as (nm .i64 (max (sgnAt a) (E.toNat - 9))) rfl ?_
    refine aops_end ?_
    refine hK12 _ ?_
    refine awp_block ?_
    refine awp_loopR (fun κ σ => ∃ (i : Nat), ∃ (q : Nat), (max (sgnAt a) (E.toNat - 9) ≤ i) ∧ (i ≤ E.toNat) ∧ (q = dvk a (max (sgnAt a) (E.toNat - 9)) (i - (max (sgnAt a) (E.toNat - 9)))) ∧ (E.toNat - i) = κ ∧ σ = ⟨[(0, (AV.lit (.string (a)))), (2, (AV.ref 2 (0))), (3, (bp (byt a 0 = 45))), (4, (nm .i64 (sgnAt a))), (5, (AV.row 3)), (6, (nm .i64 (E.toNat))), (7, (nm .i64 (q))), (8, (nm .i64 (i)))], [(2, (AO.var 41 [(AV.lit (.bool false)), (AV.lit (.slice none 0 0))])), (3, (AO.row 3 1 (ns .i64 (L))))]⟩) ⟨_, _, ⟨max (sgnAt a) (E.toNat - 9), 0, (by omega), (by omega), (by simp [dvk]), rfl, rfl⟩, ?wk2⟩ ?rd2
    case wk2 =>
      exact Wk.sub (And.intro rfl (And.intro rfl (And.intro rfl (And.intro rfl (And.intro rfl (And.intro rfl (And.intro (by first | rfl | exact congrArg (nm _) (by omega) | exact nm_int (by omega) | exact nm_int (by simp [IntKind.wrap, IntKind.bits, IntKind.signed]; omega)) (And.intro (by first | rfl | exact congrArg (nm _) (by omega) | exact nm_int (by omega) | exact nm_int (by simp [IntKind.wrap, IntKind.bits, IntKind.signed]; omega)) (trivial))))))))) (And.intro rfl (And.intro rfl (trivial)))
    rintro κ _ ⟨i, q, hi, hi2, hq0, rfl, rfl⟩
    have hdl := dvk_lt (a := a) (s := max (sgnAt a) (E.toNat - 9)) (k := i - (max (sgnAt a) (E.toNat - 9))) fun j h1 h2 => o4 j (by omega) (by omega)
    rw [← hq0] at hdl
    have hq2 : q < 1000000000 := Nat.lt_of_lt_of_le hdl (by have := Nat.pow_le_pow_right (n := 10) (by decide) (show i - (max (sgnAt a) (E.toNat - 9)) ≤ 9 by omega); simpa using this)
    have hb := fun h => o4 i (by omega) h
    refine awp_seq fun K13 hK13 => ?_
    refine awp_seq fun K14 hK14 => ?_
    refine awp_region rfl ?_
    refine o_mv (nm .i64 (i)) rfl ?_
    refine o_mv (nm .i64 (E.toNat)) rfl ?_
    refine n_lss (i) (E.toNat) Gd.none rfl rfl ?_
    refine aops_end ?_
    refine hK14 _ ?_
    refine awp_condQ (q := (i) < (E.toNat)) rfl (fun h3 => ?_) (fun h3 => ?_)
    · refine awp_skip ?_
      refine hK13 _ ?_
      refine awp_seq fun K15 hK15 => ?_
      refine awp_block ?_
      refine awp_region rfl ?_
      refine o_mv (nm .i64 (q)) rfl ?_
      refine n_mul (10) (q) Gd.none rfl rfl (by simp only [topOf]; omega) ?_
      refine o_mv (AV.lit (.string (a))) rfl ?_
      refine o_mv (nm .i64 (i)) rfl ?_
      refine n_indexS (a) (i) Gd.none We_tT9 rfl rfl (by omega) ?_
      refine n_sub (byt (a) (i)) (48) Gd.none rfl rfl (by have := hb (by omega); omega) (by have := byt_lt a i; simp only [topOf]; omega) ?_
      refine n_conv ((byt (a) (i)) - (48)) Gd.none rfl We_tI5 We_tI3 (by have := byt_lt a i; simp only [topOf]; omega) ?_
      refine n_add ((10) * (q)) ((byt (a) (i)) - (48)) Gd.none rfl rfl (by have := byt_lt a i; simp only [topOf]; omega) ?_
      refine o_as (nm .i64 (((10) * (q)) + ((byt (a) (i)) - (48)))) rfl ?_
      refine aops_end ?_
      refine hK15 _ ?_
      refine awp_region rfl ?_
      refine o_mv (nm .i64 (i)) rfl ?_
      refine n_add (i) (1) Gd.none rfl rfl (by simp only [topOf]; omega) ?_
      refine o_as (nm .i64 ((i) + (1))) rfl ?_
      refine aops_end ?_
      refine ⟨_, _, ?lt, ⟨i + 1, ((10) * (q)) + ((byt (a) (i)) - (48)), (by omega), (by omega), (by rw [show i + 1 - (max (sgnAt a) (E.toNat - 9)) = (i - (max (sgnAt a) (E.toNat - 9))) + 1 by omega, dvk, ← hq0, show max (sgnAt a) (E.toNat - 9) + (i - (max (sgnAt a) (E.toNat - 9))) = i by omega]), rfl, rfl⟩, ?wk⟩
      case lt => omega
      case wk => exact Wk.sub (And.intro rfl (And.intro rfl (And.intro rfl (And.intro rfl (And.intro rfl (And.intro rfl (And.intro (by first | rfl | exact congrArg (nm _) (by omega) | exact nm_int (by omega) | exact nm_int (by simp [IntKind.wrap, IntKind.bits, IntKind.signed]; omega)) (And.intro (by first | rfl | exact congrArg (nm _) (by omega) | exact nm_int (by omega) | exact nm_int (by simp [IntKind.wrap, IntKind.bits, IntKind.signed]; omega)) (trivial))))))))) (And.intro rfl (And.intro rfl (trivial)))
    · have hq : q = dvk a (max (sgnAt a) (E.toNat - 9)) (E.toNat - (max (sgnAt a) (E.toNat - 9))) := by rw [hq0, show i = E.toNat by omega]
      refine awp_exit ?_
      refine hK11 _ ?_
      refine awp_region rfl ?_
      refine o_mv (AV.row 3) rfl ?_
      refine o_mv (nm .i64 (q)) rfl ?_
      refine o_buildSlice 301 (ns .i64 ([q])) [(0, [(nm .i64 (q))])] Gd.none We_tE25 rfl We_tO3 rfl rfl rfl rfl rfl rfl rfl ?_
      refine n_append 302 (L) ([q]) [(301, (AO.row 3 1 (ns .i64 ([q])))), (2, (AO.var 41 [(AV.lit (.bool false)), (AV.lit (.slice none 0 0))]))] Gd.none We_tE25 We_tO3 rfl rfl rfl rfl rfl (by simp only [List.length_append, List.length_cons, List.length_nil]; omega) (by decide) rfl rfl ?_
      refine o_as (AV.row 302) rfl ?_
      refine aops_end ?_
      refine hK9 _ ?_
      refine awp_region rfl ?_
      refine o_mv (nm .i64 (E.toNat)) rfl ?_
      refine o_sub (a := (((E.toNat : Nat) : Int))) (c := (((9 : Nat) : Int))) Gd.none rfl rfl (by exact wrap64 (by omega) (by omega)) ?_
      refine o_as (AV.lit (.int .i64 ((((E.toNat : Nat) : Int)) - (((9 : Nat) : Int))))) rfl ?_
      refine aops_end ?_
      refine ⟨_, _, ?lt, ⟨(E.toNat : Int) - 9, (L) ++ ([q]), (by omega), (hd.snoc hq2), (by intro h; have := hl (by omega); simp only [List.length_append, List.length_cons, List.length_nil]; omega), (by have := hl (by omega); simp only [List.length_append, List.length_cons, List.length_nil]; omega), (by rw [hq]; rw [show max (sgnAt a) E.toNat = E.toNat by omega] at hv; have hh := parse_step (s := max (sgnAt a) (E.toNat - 9)) (by omega) (by omega) (hl (by omega)) hv; rw [show max (sgnAt a) ((E.toNat : Int) - 9).toNat = max (sgnAt a) (E.toNat - 9) by omega]; exact hh), rfl, rfl⟩, ?wk⟩
      case lt => omega
      case wk => exact Wk.trans (Wk.sub (σ' := ⟨[(0, (AV.lit (.string (a)))), (2, (AV.ref 2 (0))), (3, (bp (byt a 0 = 45))), (4, (nm .i64 (sgnAt a))), (5, (AV.row 302)), (6, (AV.lit (.int .i64 ((((E.toNat : Nat) : Int)) - (((9 : Nat) : Int))))))], [(2, (AO.var 41 [(AV.lit (.bool false)), (AV.lit (.slice none 0 0))])), (302, (AO.row 3 1 (ns .i64 ((L) ++ ([q])))))]⟩) (And.intro rfl (And.intro rfl (And.intro rfl (And.intro rfl (And.intro rfl (And.intro rfl (trivial))))))) (And.intro rfl (And.intro rfl (trivial)))) (Wk.trans (Wk.ren (id := 302) (id' := 3) rfl) (Wk.sub (And.intro rfl (And.intro rfl (And.intro rfl (And.intro rfl (And.intro (by first | rfl | (simp)) (And.intro (by first | rfl | exact int_eq (by omega) | exact int_nm (by omega)) (trivial))))))) (And.intro rfl (And.intro (by first | rfl | exact row_ns (by simp)) (trivial)))))
  · refine awp_exit ?_
    refine hK5 _ ?_
    refine awp_seq fun K16 hK16 => ?_
    refine awp_region rfl ?_
    refine o_mv (bp (byt a 0 = 45)) rfl ?_
    refine o_mv (AV.row 3) rfl ?_
    refine o_callG [(3, 1, (ns .i64 (L)))] [(bp (byt a 0 = 45)), (AV.sl 1 (ns .i64 (L)))] _ (intR ((sg (decide (byt a 0 = 45)) (val (L))))) [(2, (AO.var 41 [(AV.lit (.bool false)), (AV.lit (.slice none 0 0))]))] Gd.none We_tC37 rfl (And.intro ⟨_, rfl⟩ (trivial)) rfl rfl (LeL.cons (AV.le_refl _) (LeL.cons (AV.le_refl _) (LeL.nil))) (c_rTrim (decide (byt a 0 = 45)) (L) (by first | assumption | exact dgn_dig _ _ | exact digs_dig _ | exact Dig.snoc (by assumption) (by assumption) | exact Dig.cons (by omega) (digs_dig _))) rfl ?_
    refine o_store [(2, (oZ 41 .i64 ((sg (decide (byt a 0 = 45)) (val (L))))))] Gd.none We_tZ41 rfl rfl rfl rfl rfl rfl ?_
    refine aops_end ?_
    refine hK16 _ ?_
    refine awp_ret ?_
    refine post_ret ⟨[(intR ((sg (decide (byt a 0 = 45)) (val (L)))))], And.intro ⟨2, (oZ 41 .i64 ((sg (decide (byt a 0 = 45)) (val (L))))), rfl, rfl, rfl, Or.inl ⟨We_tA41, AV.le_refl _⟩⟩ (trivial), rfl, ?_⟩
    refine congrArg (intK .i64) ?_
    rw [hv, show max (sgnAt a) E.toNat = sgnAt a by omega]
    rfl

end Go.Proofs.YtpamhblonmpniaaGreatDoor

set_option linter.unusedVariables false
set_option linter.unusedSimpArgs false
namespace Go.Mth
open Go.Ab
theorem decDigits_decs (u : Nat) : Lib.decDigits u = (if u = 0 then [48] else (decs u).reverse).map UInt8.ofNat := by
  induction u using Nat.strongRecOn with
  | _ u ih =>
    rw [Lib.decDigits]
    split
    · rename_i h
      by_cases h0 : u = 0
      · subst h0; simp
      · rw [if_neg h0, decs_pos (by omega), show u / 10 = 0 by omega, decs_zero, show u % 10 = u by omega]; simp
    · rename_i h
      rw [ih (u / 10) (by omega), if_neg (by omega), if_neg (by omega), decs_pos (n := u) (by omega)]
      simp
theorem itoa_txt (x : Nat) : (⟨(Lib.itoa (x : Int)).toArray⟩ : ByteArray) = txt x := by
  unfold Lib.itoa txt txtL strN strOfNums
  rw [if_neg (by omega), Int.toNat_natCast, decDigits_decs]
  by_cases h : x = 0
  · subst h; rfl
  · rw [if_neg h, if_neg (by omega), if_neg (by omega)]
    simp
theorem parse_ok (a : ByteArray) (h : ∀ i, i < a.size → 48 ≤ byt a i ∧ byt a i ≤ 57) (h9 : a.size ≤ 9) : ∀ (l : List UInt8) (s : Nat), a.data.toList.drop s = l → s + l.length = a.size → Lib.parseUintM 4294967295 (dvk a 0 s) l = .ok (dvk a 0 a.size) := by
  intro l
  induction l with
  | nil =>
    intro s hd hs
    rw [Lib.parseUintM, show s = a.size by simpa using hs]
  | cons c r ih =>
    intro s hd hs
    simp only [List.length_cons] at hs
    have hc : byt a s = c.toNat := by
      unfold byt
      have := congrArg (·[0]?) hd
      simp only [List.getElem?_drop, Nat.add_zero, List.getElem?_cons_zero] at this
      rw [List.getD_eq_getElem?_getD, this]; rfl
    have hb := h s (by omega)
    rw [hc] at hb
    have hlt := dvk_lt (a := a) (s := 0) (k := s + 1) fun i _ hi => h i (by omega)
    have hp : 10 ^ (s + 1) ≤ 10 ^ 9 := Nat.pow_le_pow_right (by decide) (by omega)
    have e : dvk a 0 (s + 1) = dvk a 0 s * 10 + (c.toNat - 48) := by rw [dvk, Nat.zero_add, hc]; omega
    rw [Lib.parseUintM, if_pos hb, if_neg (by omega), if_neg (by omega), ← e]
    refine ih (s + 1) ?_ (by omega)
    have := congrArg (List.drop 1) hd
    simpa using this
end Go.Mth
namespace Go.Proofs.YtpamhblonmpniaaGreatDoor
open Go Go.Ab Go.Mth
theorem c_itoa (x : Nat) (hx : x ≤ 9223372036854775807) : ECalls cx 27 [nm .i64 x] (.lit (.string (txt x))) := by
  intro H L vals w hG hH hr
  simp only [RepL, RepV, nm] at hr
  obtain ⟨v, r, rfl, rfl, rfl⟩ := hr
  refine (Tryz.strconv_Itoa (x : Int) (by omega) (by omega) w (tabIs hG hH)).mono ?_
  rintro e w' ⟨rfl, k, os, rfl⟩
  have hold : ∀ b, b < w.heap.size → (Sort.grow (w.drewN k) os).heap[b]? = w.heap[b]? := fun b hb => by
    simp only [Sort.grow, World.drewN]
    rw [Array.getElem?_append_left hb]
  refine ⟨H, _, rfl, by simp only [RepV]; rw [itoa_txt], Ext.refl _ _, fun b o hb => ?_, ⟨rfl, rfl, rfl, by simp [Sort.grow, World.drewN], hold⟩⟩
  rw [hold b (Array.getElem?_eq_some_iff.1 (hH b o hb)).1]
  exact hH b o hb
theorem c_iparse (a : ByteArray) (h0 : 0 < a.size) (h9 : a.size ≤ 9) (h : ∀ i, i < a.size → 48 ≤ byt a i ∧ byt a i ≤ 57) : ECalls cx 80 [.lit (.string a), nm .i64 10, nm .i64 32] (.tup [nm .u64 (dvk a 0 a.size), .lit .nilIface]) := by
  intro H L vals w hG hH hr
  simp only [RepL, RepV, nm] at hr
  obtain ⟨_, _, rfl, rfl, _, _, rfl, rfl, _, _, rfl, rfl, rfl⟩ := hr
  refine (Tryz.internal_strconv_ParseUint_10_b32 a (by omega) (by omega) w).mono ?_
  rintro e w' ⟨rfl, rfl⟩
  have hbl := Lib.bytesWorld_below w 5 a
  refine ⟨H, _, rfl, ?_, Ext.refl _ _, fun b o hb => ?_, hbl⟩
  · have := parse_ok a h h9 a.data.toList 0 rfl (by simp)
    rw [dvk] at this
    rw [this]
    simp only [RepV, RepL, nm, Lib.uintTupleM]
    exact ⟨[_, _], rfl, _, _, rfl, rfl, _, _, rfl, rfl, rfl⟩
  · rw [hbl.block b (Array.getElem?_eq_some_iff.1 (hH b o hb)).1]
    exact hH b o hb
end Go.Proofs.YtpamhblonmpniaaGreatDoor

