/- What the proof of a row of this seat leans on (part 3 of 6): a library of abstract values, walks of functions, and plain laws. -/
import Derived.Shelf.Spec.SlicesInsertGrow
import Derived.Laws.StructEq
import Derived.Test.YtdmkejloknejdaaGreatDoorPkTopCyclesb
set_option linter.unusedVariables false
set_option linter.unusedSimpArgs false
namespace Go.Proofs.YtdmkejloknejdaaGreatDoor
open Go Go.Ab Go.Mth
theorem f41_ : tyInt cx.P 3 = some .i64 := by kernel_rfl
theorem f42_ : tyInt cx.P 144 = some .u64 := by kernel_rfl
theorem f43_ : tySize cx.P 3 = some 1 := by kernel_rfl
theorem f44_ : tySize cx.P 145 = some 1 := by kernel_rfl
theorem c_rOf (i : Int) (h0 : -4611686018427387904 ≤ i) (h1' : i ≤ 4611686018427387904) : ECalls cx 23 [Iv i] (intR i) := by
 refine ecalls_of_awp Tryz.func23 (c := _) rfl (Nat.le_of_ble_eq_true rfl) ?_
 show awp cx 22 _ (postF cx Tryz.f23 _) ⟨[(0, Iv i)], []⟩
 refine awp_seq fun K0 hK0 => awp_region rfl ?_
 refine o_alloc 2 [Fv, Zv] gn f9_ rfl rfl rfl ?_
 refine aops_end (hK0 _ (awp_seq fun K1 hK1 => awp_region rfl (o_mv (Iv i) rfl ?_)))
 refine o_lss (a := i) (c := ((0 : Nat) : Int)) gn rfl rfl ?_
 refine o_as (bp (i < ((0 : Nat) : Int))) rfl (aops_end (hK1 _ ?_))
 refine awp_seqJ (J := fun σ => True ∧ σ = ⟨[(0, Nv i.natAbs), (3, bp (i < 0)), (2, .ref 2 0)], [(2, .var 42 [Fv, Zv])]⟩) ?ja0 ?jb0
 case ja0 =>
  refine awp_seq fun K2 hK2 => awp_region rfl (o_mv (bp (i < ((0 : Nat) : Int))) rfl (aops_end (hK2 _ ?_)))
  refine awp_condQ (q := i < ((0 : Nat) : Int)) rfl (fun h1 => ?_) (fun h1 => ?_)
  ·refine awp_region rfl (o_mv (Iv i) rfl ?_)
   refine o_neg (a := i) gn rfl (by exact wrap64 (by omega) (by omega)) ?_
   refine o_as (Iv (-(i))) rfl (aops_end ?_)
   exact ⟨_, ⟨trivial, rfl⟩, Wk.sub ⟨(by first | rfl | exact nm_int (by omega)), (by first | rfl | exact bp_congr (by first | omega | simp) | exact bl_bp (by first | omega | simp)), rfl, trivial⟩ ⟨rfl, trivial⟩⟩
  ·refine awp_skip ?_
   exact ⟨_, ⟨trivial, rfl⟩, Wk.sub ⟨(by first | rfl | exact nm_int (by omega)), (by first | rfl | exact bp_congr (by first | omega | simp) | exact bl_bp (by first | omega | simp)), rfl, trivial⟩ ⟨rfl, trivial⟩⟩
 rintro _ ⟨-, rfl⟩
 refine awp_seq fun K3 hK3 => awp_region rfl (o_as Zv rfl (aops_end (hK3 _ (awp_seq fun K4 hK4 => ?_))))
 refine awp_block ?_
 refine awp_loopR (fun κ σ => ∃ (x : Nat), ∃ (r : List Nat), (x ≤ 4611686018427387904) ∧ (r ++ digs x = digs i.natAbs) ∧ x = κ ∧ σ = ⟨[(2, .ref 2 0), (4, .row 3), (0, Nv x), (3, bp (i < 0))], [(2, .var 42 [Fv, Zv]), (3, .row 3 1 (ns .i64 r))]⟩) ⟨_, _, ⟨i.natAbs, [], (by omega), rfl, rfl, rfl⟩, ?wk1⟩ ?rd1
 case wk1 =>
  exact Wk.trans (Wk.newNil (i := 4) (id := 601) (e := 3) (sz := 1) rfl rfl (by decide)) (Wk.trans (Wk.sub (σ' := ⟨[(2, .ref 2 0), (4, .row 601), (0, Nv i.natAbs), (3, bp (i < 0))], [(2, .var 42 [Fv, Zv]), (601, .row 3 1 (ns .i64 ([])))]⟩) ⟨rfl, rfl, rfl, rfl, trivial⟩ ⟨rfl, rfl, trivial⟩) (Wk.trans (Wk.ren (id := 601) (id' := 3) rfl) (Wk.sub ⟨rfl, (by first | rfl | simp), (by first | rfl | exact nm_int (by omega)), rfl, trivial⟩ ⟨rfl, (by first | rfl | exact row_ns (by simp)), trivial⟩)))
 rintro κ _ ⟨x, r, hx, hr, rfl, rfl⟩
 have hlen := fun h => of_len hr h (by omega)
 refine awp_seq fun K5 hK5 => awp_seq fun K6 hK6 => awp_region rfl (o_mv (Nv x) rfl ?_)
 refine n_gtr x 0 gn rfl rfl ?_
 refine aops_end (hK6 _ ?_)
 refine awp_condQ (q := 0 < x) rfl (fun h2 => ?_) (fun h2 => ?_)
 ·refine awp_skip (hK5 _ ?_)
  refine awp_block ?_
  refine awp_seq fun K7 hK7 => awp_region rfl (o_mv (.row 3) rfl (o_mv (Nv x) rfl ?_))
  refine n_rem x 1000000000 gn rfl rfl (by omega) ?_
  refine o_buildSlice 201 (ns .i64 ([x % 1000000000])) [(0, [Nv (x % 1000000000)])] gn f10_ rfl f26_ rfl rfl rfl rfl rfl rfl rfl ?_
  refine n_append 202 r ([x % 1000000000]) [(201, .row 3 1 (ns .i64 ([x % 1000000000]))), (2, .var 42 [Fv, Zv])] gn f10_ f26_ rfl rfl rfl rfl rfl (by have hl' := hlen (by assumption); simp only [List.length_append, List.length_cons, List.length_nil]; omega) (by decide) rfl rfl ?_
  refine o_as (.row 202) rfl (aops_end (hK7 _ (awp_region rfl (o_mv (Nv x) rfl ?_))))
  refine n_quo x 1000000000 gn rfl rfl (by omega) (by simp only [topOf]; omega) ?_
  refine o_as (Nv (x / 1000000000)) rfl (aops_end ?_)
  refine ⟨_, _, ?lt, ⟨x / 1000000000, r ++ ([x % 1000000000]), (by omega), (of_step hr (by assumption)), rfl, rfl⟩, ?wk⟩
  case lt => omega
  case wk => exact Wk.trans (Wk.sub (σ' := ⟨[(2, .ref 2 0), (4, .row 202), (0, Nv (x / 1000000000)), (3, bp (i < 0))], [(2, .var 42 [Fv, Zv]), (202, .row 3 1 (ns .i64 (r ++ ([x % 1000000000]))))]⟩) ⟨rfl, rfl, rfl, rfl, trivial⟩ ⟨rfl, rfl, trivial⟩) (Wk.trans (Wk.ren (id := 202) (id' := 3) rfl) (Wk.sub ⟨rfl, (by first | rfl | simp), (by first | rfl | exact nm_int (by omega)), rfl, trivial⟩ ⟨rfl, (by first | rfl | exact row_ns (by simp)), trivial⟩))
 ·refine awp_exit ?_
  refine hK4 _ (awp_seq fun K8 hK8 => awp_region rfl (o_mv (bp (i < 0)) rfl (o_mv (.row 3) rfl ?_)))
  refine o_build [bp (i < 0), .row 3] [(0, [bp (i < 0)]), (1, [.row 3])] gn f12_ f9_ rfl rfl rfl ?_
  refine o_store [(2, .var 42 [bp (i < 0), .row 3]), (3, .row 3 1 (ns .i64 r))] gn f13_ rfl rfl rfl rfl rfl rfl ?_
  refine aops_end (hK8 _ ?_)
  refine awp_wk (σ' := ⟨[(2, .ref 2 0)], [(2, .var 42 [bp (i < 0), .row 3]), (3, .row 3 1 (ns .i64 r))]⟩) (Wk.sub ⟨rfl, trivial⟩ ⟨rfl, rfl, trivial⟩) ?_
  refine awp_wk (σ' := ⟨[(2, .ref 2 0)], [(2, .var 42 [bp (i < 0), .sl 1 (ns .i64 r)])]⟩) (Wk.freeze (id := 3) (e := 3) (sz := 1) (cs := (ns .i64 r)) rfl) ?_
  refine awp_ret ?_
  refine post_ret ⟨[.agg [bp (i < 0), .sl 1 (ns .i64 r)]], ⟨⟨2, .var 42 [bp (i < 0), .sl 1 (ns .i64 r)], rfl, rfl, rfl, Or.inl ⟨f14_, AV.le_refl _⟩⟩, trivial⟩, rfl, ?_⟩
  refine (intK_eq (k := .i64) (bp_congr (by omega)) (of_end hr (by assumption))).symm

theorem c_wOf (i : Int) (h0 : -4611686018427387904 ≤ i) (h1' : i ≤ 4611686018427387904) : ECalls cx 51 [Iv i] (intW i) := by
 refine ecalls_of_awp Tryz.func51 (c := _) rfl (Nat.le_of_ble_eq_true rfl) ?_
 show awp cx 25 _ (postF cx Tryz.f51 _) ⟨[(0, Iv i)], []⟩
 refine awp_seq fun K0 hK0 => awp_region rfl ?_
 refine o_alloc 2 [Fv, Zv] gn f15_ rfl rfl rfl ?_
 refine aops_end (hK0 _ (awp_seq fun K1 hK1 => awp_region rfl (o_as Zv rfl (aops_end (hK1 _ (awp_seq fun K2 hK2 => awp_region rfl (o_mv (Iv i) rfl ?_)))))))
 refine o_convW (a := i) gn rfl f41_ f42_ ?_
 refine o_as (.lit (.int .u64 (IntKind.wrap .u64 i))) rfl (aops_end (hK2 _ ?_))
 refine awp_seqJ (J := fun σ => True ∧ σ = ⟨[(0, Iv i), (4, nm .u64 i.natAbs), (3, Zv), (2, .ref 2 0)], [(2, .var 90 [Fv, Zv])]⟩) ?ja0 ?jb0
 case ja0 =>
  refine awp_seq fun K3 hK3 => awp_region rfl (o_mv (Iv i) rfl ?_)
  refine o_lss (a := i) (c := ((0 : Nat) : Int)) gn rfl rfl ?_
  refine aops_end (hK3 _ ?_)
  refine awp_condQ (q := i < ((0 : Nat) : Int)) rfl (fun h1 => ?_) (fun h1 => ?_)
  ·refine awp_region rfl (o_mv (.lit (.int .u64 (IntKind.wrap .u64 i))) rfl ?_)
   refine o_negW (a := IntKind.wrap .u64 i) gn rfl ?_
   refine o_as (.lit (.int .u64 (IntKind.wrap .u64 (-(IntKind.wrap .u64 i))))) rfl (aops_end ?_)
   exact ⟨_, ⟨trivial, rfl⟩, Wk.sub ⟨rfl, (by first | rfl | exact nm_int (by omega) | exact nm_int (by simp [IntKind.wrap, IntKind.bits, IntKind.signed]; omega)), rfl, rfl, trivial⟩ ⟨rfl, trivial⟩⟩
  ·refine awp_skip ?_
   exact ⟨_, ⟨trivial, rfl⟩, Wk.sub ⟨rfl, (by first | rfl | exact nm_int (by omega) | exact nm_int (by simp [IntKind.wrap, IntKind.bits, IntKind.signed]; omega)), rfl, rfl, trivial⟩ ⟨rfl, trivial⟩⟩
 rintro _ ⟨-, rfl⟩
 refine awp_seq fun K4 hK4 => ?_
 refine awp_block ?_
 refine awp_loopR (fun κ σ => ∃ (x : Nat), ∃ (r : List Nat), (x ≤ 4611686018427387904) ∧ (r ++ digs x = digs i.natAbs) ∧ x = κ ∧ σ = ⟨[(2, .ref 2 0), (3, .row 3), (4, nm .u64 x), (0, Iv i)], [(2, .var 90 [Fv, Zv]), (3, .row 145 1 (ns .u32 r))]⟩) ⟨_, _, ⟨i.natAbs, [], (by omega), rfl, rfl, rfl⟩, ?wk1⟩ ?rd1
 case wk1 =>
  exact Wk.trans (Wk.newNil (i := 3) (id := 601) (e := 145) (sz := 1) rfl rfl (by decide)) (Wk.trans (Wk.sub (σ' := ⟨[(2, .ref 2 0), (3, .row 601), (4, nm .u64 i.natAbs), (0, Iv i)], [(2, .var 90 [Fv, Zv]), (601, .row 145 1 (ns .u32 ([])))]⟩) ⟨rfl, rfl, rfl, rfl, trivial⟩ ⟨rfl, rfl, trivial⟩) (Wk.trans (Wk.ren (id := 601) (id' := 3) rfl) (Wk.sub ⟨rfl, (by first | rfl | simp), (by first | rfl | exact nm_int (by omega) | exact nm_int (by simp [IntKind.wrap, IntKind.bits, IntKind.signed]; omega)), rfl, trivial⟩ ⟨rfl, (by first | rfl | exact row_ns (by simp)), trivial⟩)))
 rintro κ _ ⟨x, r, hx, hr, rfl, rfl⟩
 have hlen := fun h => of_len hr h (by omega)
 refine awp_seq fun K5 hK5 => awp_seq fun K6 hK6 => awp_region rfl (o_mv (nm .u64 x) rfl ?_)
 refine n_gtr x 0 gn rfl rfl ?_
 refine aops_end (hK6 _ ?_)
 refine awp_condQ (q := 0 < x) rfl (fun h2 => ?_) (fun h2 => ?_)
 ·refine awp_skip (hK5 _ (awp_seq fun K7 hK7 => ?_))
  refine awp_block ?_
  refine awp_region rfl (o_mv (.row 3) rfl (o_mv (nm .u64 x) rfl ?_))
  refine n_rem x 1000000000 gn rfl rfl (by omega) ?_
  refine n_conv (x % 1000000000) gn rfl f42_ f28_ (by simp only [topOf]; omega) ?_
  refine o_buildSlice 201 (ns .u32 ([x % 1000000000])) [(0, [nm .u32 (x % 1000000000)])] gn f16_ rfl f27_ rfl rfl rfl rfl rfl rfl rfl ?_
  refine n_append 202 r ([x % 1000000000]) [(201, .row 145 1 (ns .u32 ([x % 1000000000]))), (2, .var 90 [Fv, Zv])] gn f16_ f27_ rfl rfl rfl rfl rfl (by have hl' := hlen (by assumption); simp only [List.length_append, List.length_cons, List.length_nil]; omega) (by decide) rfl rfl ?_
  refine o_as (.row 202) rfl (aops_end (hK7 _ (awp_region rfl (o_mv (nm .u64 x) rfl ?_))))
  refine n_quo x 1000000000 gn rfl rfl (by omega) (by simp only [topOf]; omega) ?_
  refine o_as (nm .u64 (x / 1000000000)) rfl (aops_end ?_)
  refine ⟨_, _, ?lt, ⟨x / 1000000000, r ++ ([x % 1000000000]), (by omega), (of_step hr (by assumption)), rfl, rfl⟩, ?wk⟩
  case lt => omega
  case wk => exact Wk.trans (Wk.sub (σ' := ⟨[(2, .ref 2 0), (3, .row 202), (4, nm .u64 (x / 1000000000)), (0, Iv i)], [(2, .var 90 [Fv, Zv]), (202, .row 145 1 (ns .u32 (r ++ ([x % 1000000000]))))]⟩) ⟨rfl, rfl, rfl, rfl, trivial⟩ ⟨rfl, rfl, trivial⟩) (Wk.trans (Wk.ren (id := 202) (id' := 3) rfl) (Wk.sub ⟨rfl, (by first | rfl | simp), (by first | rfl | exact nm_int (by omega) | exact nm_int (by simp [IntKind.wrap, IntKind.bits, IntKind.signed]; omega)), rfl, trivial⟩ ⟨rfl, (by first | rfl | exact row_ns (by simp)), trivial⟩))
 ·refine awp_exit ?_
  refine hK4 _ (awp_seq fun K8 hK8 => awp_region rfl (o_mv (Iv i) rfl ?_))
  refine o_lss (a := i) (c := ((0 : Nat) : Int)) gn rfl rfl ?_
  refine o_mv (.row 3) rfl ?_
  refine o_build [(bp (i < ((0 : Nat) : Int))), .row 3] [(0, [(bp (i < ((0 : Nat) : Int)))]), (1, [.row 3])] gn f18_ f15_ rfl rfl rfl ?_
  refine o_store [(2, (.var 90 [(bp (i < ((0 : Nat) : Int))), .row 3])), (3, .row 145 1 (ns .u32 r))] gn f19_ rfl rfl rfl rfl rfl rfl ?_
  refine aops_end (hK8 _ ?_)
  refine awp_wk (σ' := ⟨[(2, .ref 2 0)], [(2, (.var 90 [(bp (i < ((0 : Nat) : Int))), .row 3])), (3, .row 145 1 (ns .u32 r))]⟩) (Wk.sub ⟨rfl, trivial⟩ ⟨rfl, rfl, trivial⟩) ?_
  refine awp_wk (σ' := ⟨[(2, .ref 2 0)], [(2, (.var 90 [(bp (i < ((0 : Nat) : Int))), .sl 1 (ns .u32 r)]))]⟩) (Wk.freeze (id := 3) (e := 145) (sz := 1) (cs := (ns .u32 r)) rfl) ?_
  refine awp_ret ?_
  refine post_ret ⟨[(.agg [(bp (i < ((0 : Nat) : Int))), .sl 1 (ns .u32 r)])], ⟨⟨2, (.var 90 [(bp (i < ((0 : Nat) : Int))), .sl 1 (ns .u32 r)]), rfl, rfl, rfl, Or.inl ⟨f20_, AV.le_refl _⟩⟩, trivial⟩, rfl, ?_⟩
  refine (intK_eq (k := .u32) (bp_congr (by omega)) (of_end hr (by assumption))).symm

theorem c_rMul (x y : Int) (hx : (digs x.natAbs).length ≤ 1000000000) (hy : (digs y.natAbs).length ≤ 1000000000) : ECalls cx 72 [intR x, intR y] (intR (x * y)) := by
 refine ecalls_of_awp Tryz.func72 (c := _) rfl (Nat.le_of_ble_eq_true rfl) ?_
 show awp cx 72 _ (postF cx Tryz.f72 _) ⟨[(0, intR x), (1, intR y)], []⟩
 refine awp_seq fun K0 hK0 => awp_region rfl ?_
 refine o_box 2 [bp (x < 0), .sl 1 (ns .i64 (digs x.natAbs))] gn rfl rfl ?_
 refine o_box 3 [bp (y < 0), .sl 1 (ns .i64 (digs y.natAbs))] gn rfl rfl ?_
 refine o_alloc 4 [Fv, Zv] gn f9_ rfl rfl rfl ?_
 refine aops_end (hK0 _ (awp_seq fun K1 hK1 => awp_region rfl ?_))
 refine o_fieldRef 1 gn f0_ rfl rfl ?_
 refine o_loadS (.sl 1 (ns .i64 (digs x.natAbs))) gn f1_ rfl rfl rfl ?_
 refine n_len (digs x.natAbs) gn f2_ rfl ?_
 refine o_fieldRef 1 gn f0_ rfl rfl ?_
 refine o_loadS (.sl 1 (ns .i64 (digs y.natAbs))) gn f1_ rfl rfl rfl ?_
 refine n_len (digs y.natAbs) gn f2_ rfl ?_
 refine n_add ((digs x.natAbs).length) ((digs y.natAbs).length) gn rfl rfl (by simp only [topOf]; omega) ?_
 refine n_add (((digs x.natAbs).length) + ((digs y.natAbs).length)) 1 gn rfl rfl (by simp only [topOf]; omega) ?_
 refine n_make 5 ((((digs x.natAbs).length) + ((digs y.natAbs).length)) + 1) gn f10_ f26_ rfl rfl (by omega) rfl rfl ?_
 refine o_as (.row 5) rfl (aops_end (hK1 _ (awp_seq fun K2 hK2 => awp_seq fun K3 hK3 => awp_region rfl (o_as (Nv 0) rfl (aops_end (hK3 _ ?_))))))
 refine awp_block ?_
 refine awp_loopR (fun κ σ => ∃ (i : Nat), ∃ (o : List Nat), (o.length = (digs x.natAbs).length + (digs y.natAbs).length + 1) ∧ (Dig o) ∧ (i ≤ (digs x.natAbs).length) ∧ (val o = val ((digs x.natAbs).take i) * y.natAbs) ∧ ((digs x.natAbs).length - i) = κ ∧ σ = ⟨[(2, .ref 2 0), (3, .ref 3 0), (4, .ref 4 0), (5, .row 5), (6, Nv i)], [(2, oZ 42 .i64 x), (3, oZ 42 .i64 y), (4, .var 42 [Fv, Zv]), (5, .row 3 1 (ns .i64 o))]⟩) ⟨_, _, ⟨0, List.replicate ((digs x.natAbs).length + (digs y.natAbs).length + 1) 0, (by simp), Dig.repl _, (by omega), (by rw [val_repl]; simp [val]), rfl, rfl⟩, ?wk0⟩ ?rd0
 case wk0 =>
  exact Wk.sub ⟨rfl, rfl, rfl, rfl, (by first | rfl | exact nm_int (by omega)), trivial⟩ ⟨rfl, rfl, rfl, (by first | rfl | exact row_ns (by simp)), trivial⟩
 rintro κ _ ⟨i, o, hl, hd, hi, hv, rfl, rfl⟩
 refine awp_seq fun K4 hK4 => awp_seq fun K5 hK5 => awp_region rfl (o_mv (Nv i) rfl ?_)
 refine o_fieldRef 1 gn f0_ rfl rfl ?_
 refine o_loadS (.sl 1 (ns .i64 (digs x.natAbs))) gn f1_ rfl rfl rfl ?_
 refine n_len (digs x.natAbs) gn f2_ rfl ?_
 refine n_lss i ((digs x.natAbs).length) gn rfl rfl ?_
 refine aops_end (hK5 _ ?_)
 refine awp_condQ (q := i < ((digs x.natAbs).length)) rfl (fun h1 => ?_) (fun h1 => ?_)
 ·refine awp_skip (hK4 _ (awp_seq fun K6 hK6 => ?_))
  refine awp_block ?_
  refine awp_seq fun K7 hK7 => awp_region rfl (o_as (Nv 0) rfl (aops_end (hK7 _ (awp_seq fun K8 hK8 => awp_region rfl (o_as (Nv 0) rfl (aops_end (hK8 _ ?_)))))))
  refine awp_block ?_
  refine awp_loopR (fun κ σ => ∃ (k : Nat), ∃ (c : Nat), ∃ (o : List Nat), (o.length = (digs x.natAbs).length + (digs y.natAbs).length + 1) ∧ (Dig o) ∧ (k ≤ (digs y.natAbs).length + 1) ∧ (c < 1000000000) ∧ (val o + 1000000000 ^ (i + k) * c = val ((digs x.natAbs).take i) * y.natAbs + 1000000000 ^ i * ((digs x.natAbs).getD i 0 * val ((digs y.natAbs).take k))) ∧ ((digs y.natAbs).length + 2 - k) = κ ∧ σ = ⟨[(2, .ref 2 0), (3, .ref 3 0), (4, .ref 4 0), (5, .row 5), (6, Nv i), (7, Nv c), (8, Nv k)], [(2, oZ 42 .i64 x), (3, oZ 42 .i64 y), (4, .var 42 [Fv, Zv]), (5, .row 3 1 (ns .i64 o))]⟩) ⟨_, _, ⟨0, 0, _, hl, hd, (by omega), (by omega), (by simp only [Nat.mul_zero, Nat.add_zero, hv, List.take_zero, val]), rfl, rfl⟩, ?wk1⟩ ?rd1
  case wk1 =>
   exact Wk.sub ⟨rfl, rfl, rfl, rfl, rfl, (by first | rfl | exact nm_int (by omega)), (by first | rfl | exact nm_int (by omega)), trivial⟩ ⟨rfl, rfl, rfl, rfl, trivial⟩
  rintro κ _ ⟨k, c, o, hl2, hd2, hk, hc, hv2, rfl, rfl⟩
  have hA := (digs_dig x.natAbs).mulb (digs_dig y.natAbs) i k
  have hO := hd2.getD (i + k)
  have hkc := mul_k hv2
  refine awp_seq fun K9 hK9 => awp_seq fun K10 hK10 => awp_region rfl (o_mv (Nv k) rfl ?_)
  refine o_fieldRef 1 gn f0_ rfl rfl ?_
  refine o_loadS (.sl 1 (ns .i64 (digs y.natAbs))) gn f1_ rfl rfl rfl ?_
  refine n_len (digs y.natAbs) gn f2_ rfl ?_
  refine n_lss k ((digs y.natAbs).length) gn rfl rfl ?_
  refine o_mv (bp (k < ((digs y.natAbs).length))) rfl ?_
  refine o_splitP (q := k < ((digs y.natAbs).length)) 31 rfl (fun h2 => ?_) (fun h2 => ?_)
  ·refine o_skip rfl rfl (decide_eq_true h2) (o_skip rfl rfl (decide_eq_true h2) ?_)
   refine o_pickT Tv gn rfl (decide_eq_true h2) rfl ?_
   refine aops_end (hK10 _ ?_)
   refine awp_condB (b := true) rfl (fun _ => ?_) (fun hh => absurd (hh.symm.trans rfl) (by decide))
   refine awp_skip (hK9 _ (awp_seq fun K11 hK11 => ?_))
   refine awp_block ?_
   refine awp_seq fun K12 hK12 => awp_regionD rfl (o_mv (.row 5) rfl (o_mv (Nv i) rfl (o_mv (Nv k) rfl ?_)))
   refine n_add i k gn rfl rfl (by simp only [topOf]; omega) ?_
   refine n_indexRow o (i + k) gn f10_ rfl rfl rfl (by first | omega | (have := hkc (by assumption); omega)) ?_
   refine n_loadRow o (i + k) gn f11_ rfl rfl (by first | omega | (have := hkc (by assumption); omega)) ?_
   refine o_fieldRef 1 gn f0_ rfl rfl ?_
   refine o_loadS (.sl 1 (ns .i64 (digs x.natAbs))) gn f1_ rfl rfl rfl ?_
   refine o_mv (Nv i) rfl ?_
   refine n_index (digs x.natAbs) i gn f10_ rfl rfl (by omega) ?_
   refine n_loadI (digs x.natAbs) i gn f11_ rfl (by omega) ?_
   refine o_fieldRef 1 gn f0_ rfl rfl ?_
   refine o_loadS (.sl 1 (ns .i64 (digs y.natAbs))) gn f1_ rfl rfl rfl ?_
   refine o_mv (Nv k) rfl ?_
   refine o_ct (c_rPart (digs y.natAbs) k) gn f25_ rfl ?_
   refine n_mul ((digs x.natAbs).getD i 0) ((digs y.natAbs).getD k 0) gn rfl rfl (by simp only [topOf]; omega) ?_
   refine n_add (o.getD (i + k) 0) (((digs x.natAbs).getD i 0) * ((digs y.natAbs).getD k 0)) gn rfl rfl (by simp only [topOf]; omega) ?_
   refine o_mv (Nv c) rfl ?_
   refine n_add ((o.getD (i + k) 0) + (((digs x.natAbs).getD i 0) * ((digs y.natAbs).getD k 0))) c gn rfl rfl (by simp only [topOf]; omega) ?_
   refine o_as (Nv (((o.getD (i + k) 0) + (((digs x.natAbs).getD i 0) * ((digs y.natAbs).getD k 0))) + c)) rfl ?_
   refine aops_end ⟨by kernel_rfl, ?_⟩
   refine hK12 _ (awp_seq fun K13 hK13 => awp_region rfl (o_mv (.row 5) rfl (o_mv (Nv i) rfl (o_mv (Nv k) rfl ?_))))
   refine n_add i k gn rfl rfl (by simp only [topOf]; omega) ?_
   refine o_mv (Nv (((o.getD (i + k) 0) + (((digs x.natAbs).getD i 0) * ((digs y.natAbs).getD k 0))) + c)) rfl ?_
   refine n_rem (((o.getD (i + k) 0) + (((digs x.natAbs).getD i 0) * ((digs y.natAbs).getD k 0))) + c) 1000000000 gn rfl rfl (by omega) ?_
   refine n_indexRow o (i + k) gn f10_ rfl rfl rfl (by first | omega | (have := hkc (by assumption); omega)) ?_
   refine n_storeRow o (i + k) ((((o.getD (i + k) 0) + (((digs x.natAbs).getD i 0) * ((digs y.natAbs).getD k 0))) + c) % 1000000000) [(2, oZ 42 .i64 x), (3, oZ 42 .i64 y), (4, .var 42 [Fv, Zv]), (5, .row 3 1 (ns .i64 (o.set (i + k) ((((o.getD (i + k) 0) + (((digs x.natAbs).getD i 0) * ((digs y.natAbs).getD k 0))) + c) % 1000000000))))] gn f43_ rfl rfl rfl (by first | omega | (have := hkc (by assumption); omega)) rfl ?_
   refine aops_end (hK13 _ (awp_region rfl (o_mv (Nv (((o.getD (i + k) 0) + (((digs x.natAbs).getD i 0) * ((digs y.natAbs).getD k 0))) + c)) rfl ?_)))
   refine n_quo (((o.getD (i + k) 0) + (((digs x.natAbs).getD i 0) * ((digs y.natAbs).getD k 0))) + c) 1000000000 gn rfl rfl (by omega) (by simp only [topOf]; omega) ?_
   refine o_as (Nv ((((o.getD (i + k) 0) + (((digs x.natAbs).getD i 0) * ((digs y.natAbs).getD k 0))) + c) / 1000000000)) rfl (aops_end (hK11 _ (awp_region rfl (o_mv (Nv k) rfl ?_))))
   refine n_add k 1 gn rfl rfl (by simp only [topOf]; omega) ?_
   refine o_as (Nv (k + 1)) rfl (aops_end ?_)
   refine ⟨_, _, ?lt, ⟨k + 1, (((o.getD (i + k) 0) + (((digs x.natAbs).getD i 0) * ((digs y.natAbs).getD k 0))) + c) / 1000000000, o.set (i + k) ((((o.getD (i + k) 0) + (((digs x.natAbs).getD i 0) * ((digs y.natAbs).getD k 0))) + c) % 1000000000), (by simp only [List.length_set]; exact hl2), (hd2.set (Nat.mod_lt _ (by decide))), (by omega), (by omega), (mul_step (by omega) hv2 rfl), rfl, rfl⟩, ?wk⟩
   case lt => omega
   case wk => exact Wk.sub ⟨rfl, rfl, rfl, rfl, rfl, (by first | rfl | exact nm_int (by omega)), (by first | rfl | exact nm_int (by omega)), trivial⟩ ⟨rfl, rfl, rfl, (by first | rfl | exact row_ns (by simp)), trivial⟩
  ·refine o_move (Nv c) (Gd.yes rfl rfl (decide_eq_false h2)) rfl ?_
   refine n_gtr c 0 (Gd.yes rfl rfl (decide_eq_false h2)) rfl rfl ?_
   refine o_pickF (bp (0 < c)) gn rfl (decide_eq_false h2) rfl ?_
   refine aops_end (hK10 _ ?_)
   refine awp_condQ (q := 0 < c) rfl (fun h3 => ?_) (fun h3 => ?_)
   ·refine awp_skip (hK9 _ (awp_seq fun K14 hK14 => ?_))
    refine awp_block ?_
    refine awp_seq fun K15 hK15 => awp_regionD rfl (o_mv (.row 5) rfl (o_mv (Nv i) rfl (o_mv (Nv k) rfl ?_)))
    refine n_add i k gn rfl rfl (by simp only [topOf]; omega) ?_
    refine n_indexRow o (i + k) gn f10_ rfl rfl rfl (by first | omega | (have := hkc (by assumption); omega)) ?_
    refine n_loadRow o (i + k) gn f11_ rfl rfl (by first | omega | (have := hkc (by assumption); omega)) ?_
    refine o_fieldRef 1 gn f0_ rfl rfl ?_
    refine o_loadS (.sl 1 (ns .i64 (digs x.natAbs))) gn f1_ rfl rfl rfl ?_
    refine o_mv (Nv i) rfl ?_
    refine n_index (digs x.natAbs) i gn f10_ rfl rfl (by omega) ?_
    refine n_loadI (digs x.natAbs) i gn f11_ rfl (by omega) ?_
    refine o_fieldRef 1 gn f0_ rfl rfl ?_
    refine o_loadS (.sl 1 (ns .i64 (digs y.natAbs))) gn f1_ rfl rfl rfl ?_
    refine o_mv (Nv k) rfl ?_
    refine o_ct (c_rPart (digs y.natAbs) k) gn f25_ rfl ?_
    refine n_mul ((digs x.natAbs).getD i 0) ((digs y.natAbs).getD k 0) gn rfl rfl (by simp only [topOf]; omega) ?_
    refine n_add (o.getD (i + k) 0) (((digs x.natAbs).getD i 0) * ((digs y.natAbs).getD k 0)) gn rfl rfl (by simp only [topOf]; omega) ?_
    refine o_mv (Nv c) rfl ?_
    refine n_add ((o.getD (i + k) 0) + (((digs x.natAbs).getD i 0) * ((digs y.natAbs).getD k 0))) c gn rfl rfl (by simp only [topOf]; omega) ?_
    refine o_as (Nv (((o.getD (i + k) 0) + (((digs x.natAbs).getD i 0) * ((digs y.natAbs).getD k 0))) + c)) rfl ?_
    refine aops_end ⟨by kernel_rfl, ?_⟩
    refine hK15 _ (awp_seq fun K16 hK16 => awp_region rfl (o_mv (.row 5) rfl (o_mv (Nv i) rfl (o_mv (Nv k) rfl ?_))))
    refine n_add i k gn rfl rfl (by simp only [topOf]; omega) ?_
    refine o_mv (Nv (((o.getD (i + k) 0) + (((digs x.natAbs).getD i 0) * ((digs y.natAbs).getD k 0))) + c)) rfl ?_
    refine n_rem (((o.getD (i + k) 0) + (((digs x.natAbs).getD i 0) * ((digs y.natAbs).getD k 0))) + c) 1000000000 gn rfl rfl (by omega) ?_
    refine n_indexRow o (i + k) gn f10_ rfl rfl rfl (by first | omega | (have := hkc (by assumption); omega)) ?_
    refine n_storeRow o (i + k) ((((o.getD (i + k) 0) + (((digs x.natAbs).getD i 0) * ((digs y.natAbs).getD k 0))) + c) % 1000000000) [(2, oZ 42 .i64 x), (3, oZ 42 .i64 y), (4, .var 42 [Fv, Zv]), (5, .row 3 1 (ns .i64 (o.set (i + k) ((((o.getD (i + k) 0) + (((digs x.natAbs).getD i 0) * ((digs y.natAbs).getD k 0))) + c) % 1000000000))))] gn f43_ rfl rfl rfl (by first | omega | (have := hkc (by assumption); omega)) rfl ?_
    refine aops_end (hK16 _ (awp_region rfl (o_mv (Nv (((o.getD (i + k) 0) + (((digs x.natAbs).getD i 0) * ((digs y.natAbs).getD k 0))) + c)) rfl ?_)))
    refine n_quo (((o.getD (i + k) 0) + (((digs x.natAbs).getD i 0) * ((digs y.natAbs).getD k 0))) + c) 1000000000 gn rfl rfl (by omega) (by simp only [topOf]; omega) ?_
    refine o_as (Nv ((((o.getD (i + k) 0) + (((digs x.natAbs).getD i 0) * ((digs y.natAbs).getD k 0))) + c) / 1000000000)) rfl (aops_end (hK14 _ (awp_region rfl (o_mv (Nv k) rfl ?_))))
    refine n_add k 1 gn rfl rfl (by simp only [topOf]; omega) ?_
    refine o_as (Nv (k + 1)) rfl (aops_end ?_)
    refine ⟨_, _, ?lt, ⟨k + 1, (((o.getD (i + k) 0) + (((digs x.natAbs).getD i 0) * ((digs y.natAbs).getD k 0))) + c) / 1000000000, o.set (i + k) ((((o.getD (i + k) 0) + (((digs x.natAbs).getD i 0) * ((digs y.natAbs).getD k 0))) + c) % 1000000000), (by simp only [List.length_set]; exact hl2), (hd2.set (Nat.mod_lt _ (by decide))), (by have := hkc (by assumption); omega), (by omega), (mul_step (by have := hkc (by assumption); omega) hv2 rfl), rfl, rfl⟩, ?wk⟩
    case lt => omega
    case wk => exact Wk.sub ⟨rfl, rfl, rfl, rfl, rfl, (by first | rfl | exact nm_int (by omega)), (by first | rfl | exact nm_int (by omega)), trivial⟩ ⟨rfl, rfl, rfl, (by first | rfl | exact row_ns (by simp)), trivial⟩
   ·refine awp_exit ?_
    refine hK6 _ (awp_region rfl (o_mv (Nv i) rfl ?_))
    refine n_add i 1 gn rfl rfl (by simp only [topOf]; omega) ?_
    refine o_as (Nv (i + 1)) rfl (aops_end ?_)
    refine ⟨_, _, ?lt, ⟨i + 1, o, hl2, hd2, (by omega), (mul_end (k := k) (by omega) (by rw [show c = 0 by omega] at hv2; exact hv2)), rfl, rfl⟩, ?wk⟩
    case lt => omega
    case wk => exact Wk.sub ⟨rfl, rfl, rfl, rfl, (by first | rfl | exact nm_int (by omega)), trivial⟩ ⟨rfl, rfl, rfl, rfl, trivial⟩
 ·refine awp_exit ?_
  refine hK2 _ (awp_seq fun K17 hK17 => awp_region rfl ?_)
  refine o_fieldRef 0 gn f3_ rfl rfl ?_
  refine o_loadS (bp (x < 0)) gn f4_ rfl rfl rfl ?_
  refine o_fieldRef 0 gn f3_ rfl rfl ?_
  refine o_loadS (bp (y < 0)) gn f4_ rfl rfl rfl ?_
  refine o_neqB (a := (decide (x < 0))) (c := (decide (y < 0))) gn rfl rfl f30_ ?_
  refine o_mv (.row 5) rfl ?_
  refine o_callG [(5, 1, ns .i64 o)] [bp ((decide (x < 0)) ≠ (decide (y < 0))), .sl 1 (ns .i64 o)] _ (intR (sg (decide ((decide (x < 0)) ≠ (decide (y < 0)))) (val o))) [(2, oZ 42 .i64 x), (3, oZ 42 .i64 y), (4, .var 42 [Fv, Zv])] gn f32_ rfl ⟨⟨_, rfl⟩, trivial⟩ rfl rfl (LeL.cons (AV.le_refl _) (LeL.cons (AV.le_refl _) LeL.nil)) (c_rTrim (decide ((decide (x < 0)) ≠ (decide (y < 0)))) o (by first | assumption | exact dgn_dig _ _ | exact digs_dig _ | exact Dig.snoc (by assumption) (by assumption) | exact Dig.cons (by omega) (digs_dig _))) rfl ?_
  refine o_store [(2, oZ 42 .i64 x), (3, oZ 42 .i64 y), (4, oZ 42 .i64 (sg (decide ((decide (x < 0)) ≠ (decide (y < 0)))) (val o)))] gn f13_ rfl rfl rfl rfl rfl rfl ?_
  refine aops_end (hK17 _ ?_)
  refine awp_ret ?_
  refine post_ret ⟨[intR (sg (decide ((decide (x < 0)) ≠ (decide (y < 0)))) (val o))], ⟨⟨4, oZ 42 .i64 (sg (decide ((decide (x < 0)) ≠ (decide (y < 0)))) (val o)), rfl, rfl, rfl, Or.inl ⟨f14_, AV.le_refl _⟩⟩, trivial⟩, rfl, ?_⟩
  refine congrArg (intK .i64) ?_
  rw [hv, val_take_all (by omega), val_digs]
  exact sg_mul x y

theorem c_wMul (x y : Int) (hx : (digs x.natAbs).length ≤ 1000000000) (hy : (digs y.natAbs).length ≤ 1000000000) : ECalls cx 107 [intW x, intW y] (intW (x * y)) := by
 refine ecalls_of_awp Tryz.func107 (c := _) rfl (Nat.le_of_ble_eq_true rfl) ?_
 show awp cx 97 _ (postF cx Tryz.f107 _) ⟨[(0, intW x), (1, intW y)], []⟩
 refine awp_seq fun K0 hK0 => awp_region rfl ?_
 refine o_box 2 [bp (x < 0), .sl 1 (ns .u32 (digs x.natAbs))] gn rfl rfl ?_
 refine o_box 3 [bp (y < 0), .sl 1 (ns .u32 (digs y.natAbs))] gn rfl rfl ?_
 refine o_alloc 4 [Fv, Zv] gn f15_ rfl rfl rfl ?_
 refine aops_end (hK0 _ (awp_seq fun K1 hK1 => awp_region rfl ?_))
 refine o_fieldRef 1 gn f5_ rfl rfl ?_
 refine o_loadS (.sl 1 (ns .u32 (digs x.natAbs))) gn f6_ rfl rfl rfl ?_
 refine n_len (digs x.natAbs) gn f7_ rfl ?_
 refine o_fieldRef 1 gn f5_ rfl rfl ?_
 refine o_loadS (.sl 1 (ns .u32 (digs y.natAbs))) gn f6_ rfl rfl rfl ?_
 refine n_len (digs y.natAbs) gn f7_ rfl ?_
 refine n_add ((digs x.natAbs).length) ((digs y.natAbs).length) gn rfl rfl (by simp only [topOf]; omega) ?_
 refine n_add (((digs x.natAbs).length) + ((digs y.natAbs).length)) 1 gn rfl rfl (by simp only [topOf]; omega) ?_
 refine n_make 5 ((((digs x.natAbs).length) + ((digs y.natAbs).length)) + 1) gn f16_ f27_ rfl rfl (by omega) rfl rfl ?_
 refine o_as (.row 5) rfl (aops_end (hK1 _ (awp_seq fun K2 hK2 => awp_seq fun K3 hK3 => awp_region rfl ?_)))
 refine o_fieldRef 1 gn f5_ rfl rfl ?_
 refine o_loadS (.sl 1 (ns .u32 (digs x.natAbs))) gn f6_ rfl rfl rfl ?_
 refine n_len (digs x.natAbs) gn f7_ rfl ?_
 refine o_mv (Nv 0) rfl (aops_end (hK3 _ ?_))
 refine awp_block ?_
 refine awp_loopR (fun κ σ => ∃ (i : Nat), ∃ (o : List Nat), (o.length = (digs x.natAbs).length + (digs y.natAbs).length + 1) ∧ (Dig o) ∧ (i ≤ (digs x.natAbs).length) ∧ (val o = val ((digs x.natAbs).take i) * y.natAbs) ∧ ((digs x.natAbs).length - i) = κ ∧ σ = ⟨[(2, .ref 2 0), (3, .ref 3 0), (4, .ref 4 0), (5, .row 5), (24, .sl 1 (ns .u32 (digs x.natAbs))), (25, Nv ((digs x.natAbs).length)), (26, Nv i)], [(2, oZ 90 .u32 x), (3, oZ 90 .u32 y), (4, .var 90 [Fv, Zv]), (5, .row 145 1 (ns .u32 o))]⟩) ⟨_, _, ⟨0, List.replicate ((digs x.natAbs).length + (digs y.natAbs).length + 1) 0, (by simp), Dig.repl _, (by omega), (by rw [val_repl]; simp [val]), rfl, rfl⟩, ?wk0⟩ ?rd0
 case wk0 =>
  exact Wk.sub ⟨rfl, rfl, rfl, rfl, rfl, (by first | rfl | exact nm_int (by omega)), (by first | rfl | exact nm_int (by omega)), trivial⟩ ⟨rfl, rfl, rfl, (by first | rfl | exact row_ns (by simp)), trivial⟩
 rintro κ _ ⟨i, o, hl, hd, hi, hv, rfl, rfl⟩
 refine awp_seq fun K4 hK4 => awp_region rfl ?_
 refine n_lss i ((digs x.natAbs).length) gn rfl rfl ?_
 refine aops_end (hK4 _ (awp_seq fun K5 hK5 => ?_))
 refine awp_condQ (q := i < ((digs x.natAbs).length)) rfl (fun h1 => ?_) (fun h1 => ?_)
 ·refine awp_skip (hK5 _ (awp_seq fun K6 hK6 => ?_))
  refine awp_block ?_
  refine awp_seq fun K7 hK7 => awp_region rfl (o_mv (Nv i) rfl ?_)
  refine n_index (digs x.natAbs) i gn f16_ rfl rfl (by omega) ?_
  refine n_loadI (digs x.natAbs) i gn f17_ rfl (by omega) ?_
  refine o_as (Nv i) rfl (o_as (nm .u32 ((digs x.natAbs).getD i 0)) rfl (aops_end (hK7 _ (awp_seq fun K8 hK8 => awp_region rfl (o_as (nm .u64 0) rfl (aops_end (hK8 _ (awp_seq fun K9 hK9 => awp_seq fun K10 hK10 => awp_region rfl ?_))))))))
  refine o_fieldRef 1 gn f5_ rfl rfl ?_
  refine o_loadS (.sl 1 (ns .u32 (digs y.natAbs))) gn f6_ rfl rfl rfl ?_
  refine n_len (digs y.natAbs) gn f7_ rfl ?_
  refine o_mv (Nv 0) rfl (aops_end (hK10 _ ?_))
  refine awp_block ?_
  refine awp_loopR (fun κ σ => ∃ (k : Nat), ∃ (c : Nat), ∃ (o : List Nat), (o.length = (digs x.natAbs).length + (digs y.natAbs).length + 1) ∧ (Dig o) ∧ (k ≤ (digs y.natAbs).length) ∧ (c < 1000000000) ∧ (val o + 1000000000 ^ (i + k) * c = val ((digs x.natAbs).take i) * y.natAbs + 1000000000 ^ i * ((digs x.natAbs).getD i 0 * val ((digs y.natAbs).take k))) ∧ ((digs y.natAbs).length - k) = κ ∧ σ = ⟨[(2, .ref 2 0), (3, .ref 3 0), (4, .ref 4 0), (5, .row 5), (24, .sl 1 (ns .u32 (digs x.natAbs))), (25, Nv ((digs x.natAbs).length)), (26, Nv i), (6, Nv i), (7, nm .u32 ((digs x.natAbs).getD i 0)), (8, nm .u64 c), (32, .sl 1 (ns .u32 (digs y.natAbs))), (33, Nv ((digs y.natAbs).length)), (34, Nv k)], [(2, oZ 90 .u32 x), (3, oZ 90 .u32 y), (4, .var 90 [Fv, Zv]), (5, .row 145 1 (ns .u32 o))]⟩) ⟨_, _, ⟨0, 0, _, hl, hd, (by omega), (by omega), (by simp only [Nat.mul_zero, Nat.add_zero, hv, List.take_zero, val]), rfl, rfl⟩, ?wk1⟩ ?rd1
  case wk1 =>
   exact Wk.sub ⟨rfl, rfl, rfl, rfl, rfl, rfl, rfl, rfl, (by first | rfl | exact nm_int (by omega)), (by first | rfl | exact nm_int (by omega)), rfl, (by first | rfl | exact nm_int (by omega)), (by first | rfl | exact nm_int (by omega)), trivial⟩ ⟨rfl, rfl, rfl, rfl, trivial⟩
  rintro κ _ ⟨k, c, o, hl2, hd2, hk, hc, hv2, rfl, rfl⟩
  have hA := (digs_dig x.natAbs).mulb (digs_dig y.natAbs) i k
  have hA1 := (digs_dig x.natAbs).getD i
  have hB1 := (digs_dig y.natAbs).getD k
  have hO := hd2.getD (i + k)
  refine awp_seq fun K11 hK11 => awp_region rfl ?_
  refine n_lss k ((digs y.natAbs).length) gn rfl rfl ?_
  refine aops_end (hK11 _ (awp_seq fun K12 hK12 => ?_))
  refine awp_condQ (q := k < ((digs y.natAbs).length)) rfl (fun h2 => ?_) (fun h2 => ?_)
  ·refine awp_skip (hK12 _ (awp_seq fun K13 hK13 => ?_))
   refine awp_block ?_
   refine awp_seq fun K14 hK14 => awp_region rfl (o_mv (Nv k) rfl ?_)
   refine n_index (digs y.natAbs) k gn f16_ rfl rfl (by omega) ?_
   refine n_loadI (digs y.natAbs) k gn f17_ rfl (by omega) ?_
   refine o_as (Nv k) rfl (o_as (nm .u32 ((digs y.natAbs).getD k 0)) rfl (aops_end (hK14 _ (awp_seq fun K15 hK15 => awp_region rfl (o_mv (.row 5) rfl (o_mv (Nv i) rfl (o_mv (Nv k) rfl ?_)))))))
   refine n_add i k gn rfl rfl (by simp only [topOf]; omega) ?_
   refine n_indexRow o (i + k) gn f16_ rfl rfl rfl (by omega) ?_
   refine n_loadRow o (i + k) gn f17_ rfl rfl (by omega) ?_
   refine n_conv (o.getD (i + k) 0) gn rfl f28_ f42_ (by simp only [topOf]; omega) ?_
   refine o_mv (nm .u32 ((digs x.natAbs).getD i 0)) rfl ?_
   refine n_conv ((digs x.natAbs).getD i 0) gn rfl f28_ f42_ (by simp only [topOf]; omega) ?_
   refine o_mv (nm .u32 ((digs y.natAbs).getD k 0)) rfl ?_
   refine n_conv ((digs y.natAbs).getD k 0) gn rfl f28_ f42_ (by simp only [topOf]; omega) ?_
   refine n_mul ((digs x.natAbs).getD i 0) ((digs y.natAbs).getD k 0) gn rfl rfl (by simp only [topOf]; omega) ?_
   refine n_add (o.getD (i + k) 0) (((digs x.natAbs).getD i 0) * ((digs y.natAbs).getD k 0)) gn rfl rfl (by simp only [topOf]; omega) ?_
   refine o_mv (nm .u64 c) rfl ?_
   refine n_add ((o.getD (i + k) 0) + (((digs x.natAbs).getD i 0) * ((digs y.natAbs).getD k 0))) c gn rfl rfl (by simp only [topOf]; omega) ?_
   refine o_as (nm .u64 (((o.getD (i + k) 0) + (((digs x.natAbs).getD i 0) * ((digs y.natAbs).getD k 0))) + c)) rfl (aops_end (hK15 _ (awp_seq fun K16 hK16 => awp_region rfl (o_mv (.row 5) rfl (o_mv (Nv i) rfl (o_mv (Nv k) rfl ?_))))))
   refine n_add i k gn rfl rfl (by simp only [topOf]; omega) ?_
   refine o_mv (nm .u64 (((o.getD (i + k) 0) + (((digs x.natAbs).getD i 0) * ((digs y.natAbs).getD k 0))) + c)) rfl ?_
   refine n_rem (((o.getD (i + k) 0) + (((digs x.natAbs).getD i 0) * ((digs y.natAbs).getD k 0))) + c) 1000000000 gn rfl rfl (by omega) ?_
   refine n_conv ((((o.getD (i + k) 0) + (((digs x.natAbs).getD i 0) * ((digs y.natAbs).getD k 0))) + c) % 1000000000) gn rfl f42_ f28_ (by simp only [topOf]; omega) ?_
   refine n_indexRow o (i + k) gn f16_ rfl rfl rfl (by omega) ?_
   refine n_storeRow o (i + k) ((((o.getD (i + k) 0) + (((digs x.natAbs).getD i 0) * ((digs y.natAbs).getD k 0))) + c) % 1000000000) [(2, oZ 90 .u32 x), (3, oZ 90 .u32 y), (4, .var 90 [Fv, Zv]), (5, .row 145 1 (ns .u32 (o.set (i + k) ((((o.getD (i + k) 0) + (((digs x.natAbs).getD i 0) * ((digs y.natAbs).getD k 0))) + c) % 1000000000))))] gn f44_ rfl rfl rfl (by omega) rfl ?_
   refine aops_end (hK16 _ (awp_region rfl (o_mv (nm .u64 (((o.getD (i + k) 0) + (((digs x.natAbs).getD i 0) * ((digs y.natAbs).getD k 0))) + c)) rfl ?_)))
   refine n_quo (((o.getD (i + k) 0) + (((digs x.natAbs).getD i 0) * ((digs y.natAbs).getD k 0))) + c) 1000000000 gn rfl rfl (by omega) (by simp only [topOf]; omega) ?_
   refine o_as (nm .u64 ((((o.getD (i + k) 0) + (((digs x.natAbs).getD i 0) * ((digs y.natAbs).getD k 0))) + c) / 1000000000)) rfl (aops_end (hK13 _ (awp_region rfl ?_)))
   refine n_add k 1 gn rfl rfl (by simp only [topOf]; omega) ?_
   refine o_mv (Nv (k + 1)) rfl (aops_end ?_)
   refine ⟨_, _, ?lt, ⟨k + 1, (((o.getD (i + k) 0) + (((digs x.natAbs).getD i 0) * ((digs y.natAbs).getD k 0))) + c) / 1000000000, o.set (i + k) ((((o.getD (i + k) 0) + (((digs x.natAbs).getD i 0) * ((digs y.natAbs).getD k 0))) + c) % 1000000000), (by simp only [List.length_set]; exact hl2), (hd2.set (Nat.mod_lt _ (by decide))), (by omega), (by omega), (mul_step (by omega) hv2 rfl), rfl, rfl⟩, ?wk⟩
   case lt => omega
   case wk => exact Wk.sub ⟨rfl, rfl, rfl, rfl, rfl, rfl, rfl, rfl, rfl, (by first | rfl | exact nm_int (by omega)), rfl, rfl, (by first | rfl | exact nm_int (by omega)), trivial⟩ ⟨rfl, rfl, rfl, (by first | rfl | exact row_ns (by simp)), trivial⟩
  ·refine awp_exit ?_
   refine hK9 _ (awp_seq fun K17 hK17 => awp_region rfl (o_mv (Nv i) rfl ?_))
   refine o_fieldRef 1 gn f5_ rfl rfl ?_
   refine o_loadS (.sl 1 (ns .u32 (digs y.natAbs))) gn f6_ rfl rfl rfl ?_
   refine n_len (digs y.natAbs) gn f7_ rfl ?_
   refine n_add i ((digs y.natAbs).length) gn rfl rfl (by simp only [topOf]; omega) ?_
   refine o_as (Nv (i + ((digs y.natAbs).length))) rfl (aops_end (hK17 _ ?_))
   refine awp_block ?_
   refine awp_loopR (fun κ σ => ∃ (k : Nat), ∃ (c : Nat), ∃ (o : List Nat), (o.length = (digs x.natAbs).length + (digs y.natAbs).length + 1) ∧ (Dig o) ∧ ((digs y.natAbs).length ≤ k) ∧ (k ≤ (digs y.natAbs).length + 1) ∧ (c < 1000000000) ∧ (val o + 1000000000 ^ (i + k) * c = val ((digs x.natAbs).take i) * y.natAbs + 1000000000 ^ i * ((digs x.natAbs).getD i 0 * val ((digs y.natAbs).take k))) ∧ ((digs y.natAbs).length + 1 - k) = κ ∧ σ = ⟨[(2, .ref 2 0), (3, .ref 3 0), (4, .ref 4 0), (5, .row 5), (24, .sl 1 (ns .u32 (digs x.natAbs))), (25, Nv ((digs x.natAbs).length)), (26, Nv i), (6, Nv i), (8, nm .u64 c), (12, Nv (i + k))], [(2, oZ 90 .u32 x), (3, oZ 90 .u32 y), (4, .var 90 [Fv, Zv]), (5, .row 145 1 (ns .u32 o))]⟩) ⟨_, _, ⟨k, c, o, hl2, hd2, (by omega), (by omega), hc, hv2, rfl, rfl⟩, ?wk2⟩ ?rd2
   case wk2 =>
    exact Wk.sub ⟨rfl, rfl, rfl, rfl, rfl, rfl, rfl, rfl, rfl, (by first | rfl | exact nm_int (by omega)), trivial⟩ ⟨rfl, rfl, rfl, rfl, trivial⟩
   rintro κ _ ⟨k, c, o, hl3, hd3, hk3, hk4, hc3, hv3, rfl, rfl⟩
   have hO3 := hd3.getD (i + k)
   have hkc := mul_k hv3
   refine awp_seq fun K18 hK18 => awp_seq fun K19 hK19 => awp_region rfl (o_mv (nm .u64 c) rfl ?_)
   refine n_gtr c 0 gn rfl rfl ?_
   refine aops_end (hK19 _ ?_)
   refine awp_condQ (q := 0 < c) rfl (fun h3 => ?_) (fun h3 => ?_)
   ·refine awp_skip (hK18 _ (awp_seq fun K20 hK20 => ?_))
    refine awp_block ?_
    refine awp_seq fun K21 hK21 => awp_region rfl (o_mv (.row 5) rfl (o_mv (Nv (i + k)) rfl ?_))
    refine n_indexRow o (i + k) gn f16_ rfl rfl rfl (by have := hkc (by assumption); omega) ?_
    refine n_loadRow o (i + k) gn f17_ rfl rfl (by have := hkc (by assumption); omega) ?_
    refine n_conv (o.getD (i + k) 0) gn rfl f28_ f42_ (by simp only [topOf]; omega) ?_
    refine o_mv (nm .u64 c) rfl ?_
    refine n_add (o.getD (i + k) 0) c gn rfl rfl (by simp only [topOf]; omega) ?_
    refine o_as (nm .u64 ((o.getD (i + k) 0) + c)) rfl (aops_end (hK21 _ (awp_seq fun K22 hK22 => awp_region rfl (o_mv (.row 5) rfl (o_mv (Nv (i + k)) rfl (o_mv (nm .u64 ((o.getD (i + k) 0) + c)) rfl ?_))))))
    refine n_rem ((o.getD (i + k) 0) + c) 1000000000 gn rfl rfl (by omega) ?_
    refine n_conv (((o.getD (i + k) 0) + c) % 1000000000) gn rfl f42_ f28_ (by simp only [topOf]; omega) ?_
    refine n_indexRow o (i + k) gn f16_ rfl rfl rfl (by have := hkc (by assumption); omega) ?_
    refine n_storeRow o (i + k) (((o.getD (i + k) 0) + c) % 1000000000) [(2, oZ 90 .u32 x), (3, oZ 90 .u32 y), (4, .var 90 [Fv, Zv]), (5, .row 145 1 (ns .u32 (o.set (i + k) (((o.getD (i + k) 0) + c) % 1000000000))))] gn f44_ rfl rfl rfl (by have := hkc (by assumption); omega) rfl ?_
    refine aops_end (hK22 _ (awp_region rfl (o_mv (nm .u64 ((o.getD (i + k) 0) + c)) rfl ?_)))
    refine n_quo ((o.getD (i + k) 0) + c) 1000000000 gn rfl rfl (by omega) (by simp only [topOf]; omega) ?_
    refine o_as (nm .u64 (((o.getD (i + k) 0) + c) / 1000000000)) rfl (aops_end (hK20 _ (awp_region rfl (o_mv (Nv (i + k)) rfl ?_))))
    refine n_add (i + k) 1 gn rfl rfl (by simp only [topOf]; omega) ?_
    refine o_as (Nv ((i + k) + 1)) rfl (aops_end ?_)
    refine ⟨_, _, ?lt, ⟨k + 1, ((o.getD (i + k) 0) + c) / 1000000000, o.set (i + k) (((o.getD (i + k) 0) + c) % 1000000000), (by simp only [List.length_set]; exact hl3), (hd3.set (Nat.mod_lt _ (by decide))), (by omega), (by have := hkc (by assumption); omega), (by omega), (mul_step (by have := hkc (by assumption); omega) hv3 (by rw [getD_ge (xs := digs y.natAbs) hk3]; simp)), rfl, rfl⟩, ?wk⟩
    case lt => (have := hkc (by assumption); omega)
    case wk => exact Wk.sub ⟨rfl, rfl, rfl, rfl, rfl, rfl, rfl, rfl, (by first | rfl | exact nm_int (by omega)), (by first | rfl | exact nm_int (by omega)), trivial⟩ ⟨rfl, rfl, rfl, (by first | rfl | exact row_ns (by simp)), trivial⟩
   ·refine awp_exit ?_
    refine hK6 _ (awp_region rfl ?_)
    refine n_add i 1 gn rfl rfl (by simp only [topOf]; omega) ?_
    refine o_mv (Nv (i + 1)) rfl (aops_end ?_)
    refine ⟨_, _, ?lt, ⟨i + 1, o, hl3, hd3, (by omega), (mul_end (k := k) (by omega) (by rw [show c = 0 by omega] at hv3; exact hv3)), rfl, rfl⟩, ?wk⟩
    case lt => omega
    case wk => exact Wk.sub ⟨rfl, rfl, rfl, rfl, rfl, rfl, (by first | rfl | exact nm_int (by omega)), trivial⟩ ⟨rfl, rfl, rfl, rfl, trivial⟩
 ·refine awp_exit ?_
  refine hK2 _ (awp_seq fun K23 hK23 => awp_region rfl ?_)
  refine o_fieldRef 0 gn f8_ rfl rfl ?_
  refine o_loadS (bp (x < 0)) gn f4_ rfl rfl rfl ?_
  refine o_fieldRef 0 gn f8_ rfl rfl ?_
  refine o_loadS (bp (y < 0)) gn f4_ rfl rfl rfl ?_
  refine o_neqB (a := (decide (x < 0))) (c := (decide (y < 0))) gn rfl rfl f30_ ?_
  refine o_mv (.row 5) rfl ?_
  refine o_callG [(5, 1, ns .u32 o)] [bp ((decide (x < 0)) ≠ (decide (y < 0))), .sl 1 (ns .u32 o)] _ (intW (sg (decide ((decide (x < 0)) ≠ (decide (y < 0)))) (val o))) [(2, oZ 90 .u32 x), (3, oZ 90 .u32 y), (4, .var 90 [Fv, Zv])] gn f35_ rfl ⟨⟨_, rfl⟩, trivial⟩ rfl rfl (LeL.cons (AV.le_refl _) (LeL.cons (AV.le_refl _) LeL.nil)) (c_wTrim (decide ((decide (x < 0)) ≠ (decide (y < 0)))) o (by first | assumption | exact dgn_dig _ _ | exact digs_dig _ | exact Dig.snoc (by assumption) (by assumption) | exact Dig.cons (by omega) (digs_dig _))) rfl ?_
  refine o_store [(2, oZ 90 .u32 x), (3, oZ 90 .u32 y), (4, oZ 90 .u32 (sg (decide ((decide (x < 0)) ≠ (decide (y < 0)))) (val o)))] gn f19_ rfl rfl rfl rfl rfl rfl ?_
  refine aops_end (hK23 _ ?_)
  refine awp_ret ?_
  refine post_ret ⟨[intW (sg (decide ((decide (x < 0)) ≠ (decide (y < 0)))) (val o))], ⟨⟨4, oZ 90 .u32 (sg (decide ((decide (x < 0)) ≠ (decide (y < 0)))) (val o)), rfl, rfl, rfl, Or.inl ⟨f20_, AV.le_refl _⟩⟩, trivial⟩, rfl, ?_⟩
  refine congrArg (intK .u32) ?_
  rw [hv, val_take_all (by omega), val_digs]
  exact sg_mul x y

end Go.Proofs.YtdmkejloknejdaaGreatDoor

namespace Go.Proofs.YtdmkejloknejdaaGreatDoor
open Go Go.Ab Go.Mth
theorem f45_ : callable cx.P 23 = true := by kernel_rfl
theorem f46_ : callable cx.P 51 = true := by kernel_rfl
theorem f47_ : callable cx.P 93 = true := by kernel_rfl
theorem c_rQR (z : Int) (d : Nat) (hd0 : 0 < d) (hd2 : d ≤ 2147483647) (hz : (digs z.natAbs).length ≤ 1000000000) : ECalls cx 70 [intR z, Nv d] (.tup [(intR (z / (d : Int))), .lit (.int .i64 (z % (d : Int)))]) := by
 refine ecalls_of_awp Tryz.func70 (c := _) rfl (Nat.le_of_ble_eq_true rfl) ?_
 show awp cx 58 _ (postF cx Tryz.f70 _) ⟨[(0, intR z), (1, Nv d)], []⟩
 refine awp_seq fun K0 hK0 => awp_region rfl ?_
 refine o_box 2 [bp (z < 0), .sl 1 (ns .i64 (digs z.natAbs))] gn rfl rfl ?_
 refine o_alloc 3 [Fv, Zv] gn f9_ rfl rfl rfl ?_
 refine o_as (Nv 0) rfl (aops_end (hK0 _ (awp_seq fun K1 hK1 => awp_region rfl ?_)))
 refine o_fieldRef 1 gn f0_ rfl rfl ?_
 refine o_loadS (.sl 1 (ns .i64 (digs z.natAbs))) gn f1_ rfl rfl rfl ?_
 refine n_len (digs z.natAbs) gn f2_ rfl ?_
 refine n_make 4 ((digs z.natAbs).length) gn f10_ f26_ rfl rfl (by omega) rfl rfl ?_
 refine o_as (.row 4) rfl (aops_end (hK1 _ (awp_seq fun K2 hK2 => awp_region rfl (o_as (Nv 0) rfl (aops_end (hK2 _ (awp_seq fun K3 hK3 => awp_seq fun K4 hK4 => awp_region rfl ?_)))))))
 refine o_fieldRef 1 gn f0_ rfl rfl ?_
 refine o_loadS (.sl 1 (ns .i64 (digs z.natAbs))) gn f1_ rfl rfl rfl ?_
 refine n_len (digs z.natAbs) gn f2_ rfl ?_
 refine o_sub (a := (((digs z.natAbs).length : Nat) : Int)) (c := ((1 : Nat) : Int)) gn rfl rfl (by exact wrap64 (by omega) (by omega)) ?_
 refine o_as (Iv ((((digs z.natAbs).length : Nat) : Int) - ((1 : Nat) : Int))) rfl (aops_end (hK4 _ ?_))
 refine awp_block ?_
 refine awp_loopR (fun κ σ => ∃ (j : Nat), ∃ (o : List Nat), ∃ (r : Nat), (j ≤ (digs z.natAbs).length) ∧ (o.length = (digs z.natAbs).length) ∧ (Dig o) ∧ (r < d) ∧ (val ((digs z.natAbs).drop j) = d * val (o.drop j) + r) ∧ j = κ ∧ σ = ⟨[(1, Nv d), (2, .ref 2 0), (4, .ref 3 0), (6, .row 4), (7, Nv r), (8, (Iv ((j : Int) - 1)))], [(2, oZ 42 .i64 z), (3, .var 42 [Fv, Zv]), (4, .row 3 1 (ns .i64 o))]⟩) ⟨_, _, ⟨(digs z.natAbs).length, List.replicate (digs z.natAbs).length 0, 0, Nat.le_refl _, (by simp), Dig.repl _, hd0, (by rw [val_drop_all (Nat.le_refl _), val_drop_all (by simp)]; simp), rfl, rfl⟩, ?wk0⟩ ?rd0
 case wk0 =>
  exact Wk.sub ⟨rfl, rfl, rfl, rfl, (by first | rfl | exact nm_int (by omega)), (by first | rfl | exact int_eq (by omega) | exact int_nm (by omega)), trivial⟩ ⟨rfl, rfl, (by first | rfl | exact row_ns (by simp)), trivial⟩
 rintro κ _ ⟨j, o, r, hj, hl, hd, hr, hv, rfl, rfl⟩
 have hA := (digs_dig z.natAbs).getD (j - 1)
 refine awp_seq fun K5 hK5 => awp_seq fun K6 hK6 => awp_region rfl (o_mv (Iv ((j : Int) - 1)) rfl ?_)
 refine o_geq (a := ((j : Int) - 1)) (c := ((0 : Nat) : Int)) gn rfl rfl ?_
 refine aops_end (hK6 _ ?_)
 refine awp_condQ (q := ((0 : Nat) : Int) ≤ ((j : Int) - 1)) rfl (fun h1 => ?_) (fun h1 => ?_)
 ·refine awp_wk (Wk.slot (i := 8) (y := (Nv (j - 1))) (AV.le_eq (by exact nm_int (by omega)))) ?_
  refine awp_skip (hK5 _ (awp_seq fun K7 hK7 => ?_))
  refine awp_block ?_
  refine awp_seq fun K8 hK8 => awp_region rfl (o_mv (Nv r) rfl ?_)
  refine n_mul r 1000000000 gn rfl rfl (by simp only [topOf]; omega) ?_
  refine o_fieldRef 1 gn f0_ rfl rfl ?_
  refine o_loadS (.sl 1 (ns .i64 (digs z.natAbs))) gn f1_ rfl rfl rfl ?_
  refine o_mv (Nv (j - 1)) rfl ?_
  refine n_index (digs z.natAbs) (j - 1) gn f10_ rfl rfl (by omega) ?_
  refine n_loadI (digs z.natAbs) (j - 1) gn f11_ rfl (by omega) ?_
  refine n_add (r * 1000000000) ((digs z.natAbs).getD (j - 1) 0) gn rfl rfl (by simp only [topOf]; omega) ?_
  refine o_as (Nv ((r * 1000000000) + ((digs z.natAbs).getD (j - 1) 0))) rfl (aops_end (hK8 _ (awp_seq fun K9 hK9 => awp_region rfl (o_mv (.row 4) rfl (o_mv (Nv (j - 1)) rfl (o_mv (Nv ((r * 1000000000) + ((digs z.natAbs).getD (j - 1) 0))) rfl (o_mv (Nv d) rfl ?_)))))))
  refine n_quo ((r * 1000000000) + ((digs z.natAbs).getD (j - 1) 0)) d gn rfl rfl (by omega) (by simp only [topOf]; have := div_dig hr hA rfl; omega) ?_
  refine n_indexRow o (j - 1) gn f10_ rfl rfl rfl (by omega) ?_
  refine n_storeRow o (j - 1) (((r * 1000000000) + ((digs z.natAbs).getD (j - 1) 0)) / d) [(2, oZ 42 .i64 z), (3, .var 42 [Fv, Zv]), (4, .row 3 1 (ns .i64 (o.set (j - 1) (((r * 1000000000) + ((digs z.natAbs).getD (j - 1) 0)) / d))))] gn f43_ rfl rfl rfl (by omega) rfl ?_
  refine aops_end (hK9 _ (awp_region rfl (o_mv (Nv ((r * 1000000000) + ((digs z.natAbs).getD (j - 1) 0))) rfl (o_mv (Nv d) rfl ?_))))
  refine n_rem ((r * 1000000000) + ((digs z.natAbs).getD (j - 1) 0)) d gn rfl rfl (by omega) ?_
  refine o_as (Nv (((r * 1000000000) + ((digs z.natAbs).getD (j - 1) 0)) % d)) rfl (aops_end (hK7 _ (awp_region rfl (o_mv (Nv (j - 1)) rfl ?_))))
  refine o_sub (a := ((j - 1 : Nat) : Int)) (c := ((1 : Nat) : Int)) gn rfl rfl (by exact wrap64 (by omega) (by omega)) ?_
  refine o_as (Iv (((j - 1 : Nat) : Int) - ((1 : Nat) : Int))) rfl (aops_end ?_)
  refine ⟨_, _, ?lt, ⟨j - 1, o.set (j - 1) (((r * 1000000000) + ((digs z.natAbs).getD (j - 1) 0)) / d), ((r * 1000000000) + ((digs z.natAbs).getD (j - 1) 0)) % d, (by omega), (by simp only [List.length_set]; exact hl), hd.set (div_dig hr hA rfl), Nat.mod_lt _ hd0, (div_step (by omega) hl hd0 (by rw [Nat.sub_add_cancel (by omega)]; exact hv) rfl), rfl, rfl⟩, ?wk⟩
  case lt => omega
  case wk => exact Wk.sub ⟨rfl, rfl, rfl, rfl, (by first | rfl | exact nm_int (by omega)), (by first | rfl | exact int_eq (by omega) | exact int_nm (by omega)), trivial⟩ ⟨rfl, rfl, (by first | rfl | exact row_ns (by simp)), trivial⟩
 ·have hj0 : j = 0 := by omega
  have hv0 := hv
  rw [hj0] at hv0
  have hE := div_end hr hv0
  have hq := hE.1
  have hq1 := len_div hE.1 hz false
  have hq2 := len_one
  refine awp_exit ?_
  refine hK3 _ (awp_seq fun K10 hK10 => awp_region rfl (o_mv (.row 4) rfl ?_))
  refine o_callG [(4, 1, ns .i64 o)] [Fv, .sl 1 (ns .i64 o)] _ (intR (sg false (val o))) [(2, oZ 42 .i64 z), (3, .var 42 [Fv, Zv])] gn f32_ rfl ⟨⟨_, rfl⟩, trivial⟩ rfl rfl (LeL.cons (AV.le_refl _) (LeL.cons (AV.le_refl _) LeL.nil)) (c_rTrim false o (by first | assumption | exact dgn_dig _ _ | exact digs_dig _ | exact Dig.snoc (by assumption) (by assumption) | exact Dig.cons (by omega) (digs_dig _))) rfl ?_
  refine o_alloc 101 [Fv, Zv] gn f9_ rfl rfl rfl ?_
  refine o_store [(101, oZ 42 .i64 (sg false (val o))), (2, oZ 42 .i64 z), (3, .var 42 [Fv, Zv])] gn f13_ rfl rfl rfl rfl rfl rfl ?_
  refine aops_end (hK10 _ (awp_seq fun K11 hK11 => awp_seq fun K12 hK12 => awp_region rfl ?_))
  refine o_fieldRef 0 gn f3_ rfl rfl ?_
  refine o_loadS (bp (z < 0)) gn f4_ rfl rfl rfl ?_
  refine o_notP (q := z < 0) gn rfl ?_
  refine aops_end (hK12 _ ?_)
  refine awp_condQ (q := ¬ (z < 0)) rfl (fun h2 => ?_) (fun h2 => ?_)
  ·refine awp_seq fun K13 hK13 => awp_region rfl ?_
   refine o_loadA [bp ((sg false (val o)) < 0), .sl 1 (ns .i64 (digs (sg false (val o)).natAbs))] gn f14_ rfl rfl rfl rfl rfl ?_
   refine o_mv (Nv r) rfl ?_
   refine o_store [(101, oZ 42 .i64 (sg false (val o))), (2, oZ 42 .i64 z), (3, oZ 42 .i64 (sg false (val o)))] gn f13_ rfl rfl rfl rfl rfl rfl ?_
   refine o_as (Nv r) rfl (aops_end (hK13 _ ?_))
   refine awp_ret ?_
   refine post_ret ⟨[intR (sg false (val o)), Nv r], ⟨⟨3, oZ 42 .i64 (sg false (val o)), rfl, rfl, rfl, Or.inl ⟨f14_, AV.le_refl _⟩⟩, AV.le_refl _, trivial⟩, rfl, ?_⟩
   have e := part1 h2 hd0 hE.1 hE.2
   exact tup_eq2 (congrArg (intK .i64) e.1) (int_eq e.2)
  ·refine awp_skip (hK11 _ (awp_seq fun K14 hK14 => awp_seq fun K15 hK15 => awp_region rfl (o_mv (Nv r) rfl ?_)))
   refine n_eql r 0 gn rfl rfl ?_
   refine aops_end (hK15 _ ?_)
   refine awp_condQ (q := r = 0) rfl (fun h3 => ?_) (fun h3 => ?_)
   ·refine awp_seq fun K16 hK16 => awp_region rfl ?_
    refine o_loadA [bp ((sg false (val o)) < 0), .sl 1 (ns .i64 (digs (sg false (val o)).natAbs))] gn f14_ rfl rfl rfl rfl rfl ?_
    refine o_ct (c_rMinus (sg false (val o))) gn f37_ rfl ?_
    refine o_store [(101, oZ 42 .i64 (sg false (val o))), (2, oZ 42 .i64 z), (3, oZ 42 .i64 (-(sg false (val o))))] gn f13_ rfl rfl rfl rfl rfl rfl ?_
    refine o_as (Nv 0) rfl (aops_end (hK16 _ ?_))
    refine awp_ret ?_
    refine post_ret ⟨[intR (-(sg false (val o))), Nv 0], ⟨⟨3, oZ 42 .i64 (-(sg false (val o))), rfl, rfl, rfl, Or.inl ⟨f14_, AV.le_refl _⟩⟩, AV.le_refl _, trivial⟩, rfl, ?_⟩
    have e := part2 (Decidable.not_not.1 h2) hd0 hE.1 hE.2 h3
    exact tup_eq2 (congrArg (intK .i64) (e.1.trans (by simp [sg]))) (int_eq e.2)
   ·refine awp_skip (hK14 _ (awp_seq fun K17 hK17 => awp_regionD rfl ?_))
    refine o_loadA [bp ((sg false (val o)) < 0), .sl 1 (ns .i64 (digs (sg false (val o)).natAbs))] gn f14_ rfl rfl rfl rfl rfl ?_
    refine o_ct (c_rOf (1 : Int) (by first | decide | omega) (by first | decide | omega)) gn f45_ rfl ?_
    refine o_ct (c_rAdd (sg false (val o)) (1 : Int) (by first | omega | assumption | (simp only [Int.natAbs_neg]; omega)) (by first | omega | assumption | (simp only [Int.natAbs_neg]; omega))) gn f38_ rfl ?_
    refine o_ct (c_rMinus ((sg false (val o)) + (1 : Int))) gn f37_ rfl ?_
    refine o_mv (Nv d) rfl (o_mv (Nv r) rfl ?_)
    refine o_sub (a := ((d : Nat) : Int)) (c := ((r : Nat) : Int)) gn rfl rfl (by exact wrap64 (by omega) (by omega)) ?_
    refine o_store [(101, oZ 42 .i64 (sg false (val o))), (2, oZ 42 .i64 z), (3, (oZ 42 .i64 (-((sg false (val o)) + (1 : Int)))))] gn f13_ rfl rfl rfl rfl rfl rfl ?_
    refine o_as (Iv (((d : Nat) : Int) - ((r : Nat) : Int))) rfl ?_
    refine aops_end ⟨by kernel_rfl, ?_⟩
    refine hK17 _ ?_
    refine awp_ret ?_
    refine post_ret ⟨[(intR (-((sg false (val o)) + (1 : Int)))), (Iv (((d : Nat) : Int) - ((r : Nat) : Int)))], ⟨⟨3, (oZ 42 .i64 (-((sg false (val o)) + (1 : Int)))), rfl, rfl, rfl, Or.inl ⟨f14_, AV.le_refl _⟩⟩, AV.le_refl _, trivial⟩, rfl, ?_⟩
    have e := part3 (Decidable.not_not.1 h2) hd0 hE.1 hE.2 h3
    exact tup_eq2 (congrArg (intK .i64) (e.1.trans (by simp [sg]; omega))) (int_eq e.2)

theorem c_wQR (z : Int) (d : Nat) (hd0 : 0 < d) (hd2 : d ≤ 2147483647) (hz : (digs z.natAbs).length ≤ 1000000000) : ECalls cx 120 [intW z, Nv d] (.tup [(intW (z / (d : Int))), .lit (.int .i64 (z % (d : Int)))]) := by
 refine ecalls_of_awp Tryz.func120 (c := _) rfl (Nat.le_of_ble_eq_true rfl) ?_
 show awp cx 64 _ (postF cx Tryz.f120 _) ⟨[(0, intW z), (1, Nv d)], []⟩
 refine awp_seq fun K0 hK0 => awp_region rfl ?_
 refine o_box 2 [bp (z < 0), .sl 1 (ns .u32 (digs z.natAbs))] gn rfl rfl ?_
 refine o_alloc 3 [Fv, Zv] gn f15_ rfl rfl rfl ?_
 refine o_as (Nv 0) rfl (aops_end (hK0 _ (awp_seq fun K1 hK1 => awp_region rfl ?_)))
 refine o_fieldRef 1 gn f5_ rfl rfl ?_
 refine o_loadS (.sl 1 (ns .u32 (digs z.natAbs))) gn f6_ rfl rfl rfl ?_
 refine n_len (digs z.natAbs) gn f7_ rfl ?_
 refine n_make 4 ((digs z.natAbs).length) gn f16_ f27_ rfl rfl (by omega) rfl rfl ?_
 refine o_as (.row 4) rfl (aops_end (hK1 _ (awp_seq fun K2 hK2 => awp_region rfl (o_as (nm .u64 0) rfl (aops_end (hK2 _ (awp_seq fun K3 hK3 => awp_seq fun K4 hK4 => awp_region rfl ?_)))))))
 refine o_fieldRef 1 gn f5_ rfl rfl ?_
 refine o_loadS (.sl 1 (ns .u32 (digs z.natAbs))) gn f6_ rfl rfl rfl ?_
 refine n_len (digs z.natAbs) gn f7_ rfl ?_
 refine o_sub (a := (((digs z.natAbs).length : Nat) : Int)) (c := ((1 : Nat) : Int)) gn rfl rfl (by exact wrap64 (by omega) (by omega)) ?_
 refine o_as (Iv ((((digs z.natAbs).length : Nat) : Int) - ((1 : Nat) : Int))) rfl (aops_end (hK4 _ ?_))
 refine awp_block ?_
 refine awp_loopR (fun κ σ => ∃ (j : Nat), ∃ (o : List Nat), ∃ (r : Nat), (j ≤ (digs z.natAbs).length) ∧ (o.length = (digs z.natAbs).length) ∧ (Dig o) ∧ (r < d) ∧ (val ((digs z.natAbs).drop j) = d * val (o.drop j) + r) ∧ j = κ ∧ σ = ⟨[(1, Nv d), (2, .ref 2 0), (4, .ref 3 0), (6, .row 4), (7, nm .u64 r), (8, (Iv ((j : Int) - 1)))], [(2, oZ 90 .u32 z), (3, .var 90 [Fv, Zv]), (4, .row 145 1 (ns .u32 o))]⟩) ⟨_, _, ⟨(digs z.natAbs).length, List.replicate (digs z.natAbs).length 0, 0, Nat.le_refl _, (by simp), Dig.repl _, hd0, (by rw [val_drop_all (Nat.le_refl _), val_drop_all (by simp)]; simp), rfl, rfl⟩, ?wk0⟩ ?rd0
 case wk0 =>
  exact Wk.sub ⟨rfl, rfl, rfl, rfl, (by first | rfl | exact nm_int (by omega)), (by first | rfl | exact int_eq (by omega) | exact int_nm (by omega)), trivial⟩ ⟨rfl, rfl, (by first | rfl | exact row_ns (by simp)), trivial⟩
 rintro κ _ ⟨j, o, r, hj, hl, hd, hr, hv, rfl, rfl⟩
 have hA := (digs_dig z.natAbs).getD (j - 1)
 refine awp_seq fun K5 hK5 => awp_seq fun K6 hK6 => awp_region rfl (o_mv (Iv ((j : Int) - 1)) rfl ?_)
 refine o_geq (a := ((j : Int) - 1)) (c := ((0 : Nat) : Int)) gn rfl rfl ?_
 refine aops_end (hK6 _ ?_)
 refine awp_condQ (q := ((0 : Nat) : Int) ≤ ((j : Int) - 1)) rfl (fun h1 => ?_) (fun h1 => ?_)
 ·refine awp_wk (Wk.slot (i := 8) (y := (Nv (j - 1))) (AV.le_eq (by exact nm_int (by omega)))) ?_
  refine awp_skip (hK5 _ (awp_seq fun K7 hK7 => ?_))
  refine awp_block ?_
  refine awp_seq fun K8 hK8 => awp_region rfl (o_mv (nm .u64 r) rfl ?_)
  refine n_mul r 1000000000 gn rfl rfl (by simp only [topOf]; omega) ?_
  refine o_fieldRef 1 gn f5_ rfl rfl ?_
  refine o_loadS (.sl 1 (ns .u32 (digs z.natAbs))) gn f6_ rfl rfl rfl ?_
  refine o_mv (Nv (j - 1)) rfl ?_
  refine n_index (digs z.natAbs) (j - 1) gn f16_ rfl rfl (by omega) ?_
  refine n_loadI (digs z.natAbs) (j - 1) gn f17_ rfl (by omega) ?_
  refine n_conv ((digs z.natAbs).getD (j - 1) 0) gn rfl f28_ f42_ (by simp only [topOf]; omega) ?_
  refine n_add (r * 1000000000) ((digs z.natAbs).getD (j - 1) 0) gn rfl rfl (by simp only [topOf]; omega) ?_
  refine o_as (nm .u64 ((r * 1000000000) + ((digs z.natAbs).getD (j - 1) 0))) rfl (aops_end (hK8 _ (awp_seq fun K9 hK9 => awp_region rfl (o_mv (.row 4) rfl (o_mv (Nv (j - 1)) rfl (o_mv (nm .u64 ((r * 1000000000) + ((digs z.natAbs).getD (j - 1) 0))) rfl (o_mv (Nv d) rfl ?_)))))))
  refine n_conv d gn rfl f41_ f42_ (by simp only [topOf]; omega) ?_
  refine n_quo ((r * 1000000000) + ((digs z.natAbs).getD (j - 1) 0)) d gn rfl rfl (by omega) (by simp only [topOf]; have := div_dig hr hA rfl; omega) ?_
  refine n_conv (((r * 1000000000) + ((digs z.natAbs).getD (j - 1) 0)) / d) gn rfl f42_ f28_ (by simp only [topOf]; have := div_dig hr hA rfl; omega) ?_
  refine n_indexRow o (j - 1) gn f16_ rfl rfl rfl (by omega) ?_
  refine n_storeRow o (j - 1) (((r * 1000000000) + ((digs z.natAbs).getD (j - 1) 0)) / d) [(2, oZ 90 .u32 z), (3, .var 90 [Fv, Zv]), (4, .row 145 1 (ns .u32 (o.set (j - 1) (((r * 1000000000) + ((digs z.natAbs).getD (j - 1) 0)) / d))))] gn f44_ rfl rfl rfl (by omega) rfl ?_
  refine aops_end (hK9 _ (awp_region rfl (o_mv (nm .u64 ((r * 1000000000) + ((digs z.natAbs).getD (j - 1) 0))) rfl (o_mv (Nv d) rfl ?_))))
  refine n_conv d gn rfl f41_ f42_ (by simp only [topOf]; omega) ?_
  refine n_rem ((r * 1000000000) + ((digs z.natAbs).getD (j - 1) 0)) d gn rfl rfl (by omega) ?_
  refine o_as (nm .u64 (((r * 1000000000) + ((digs z.natAbs).getD (j - 1) 0)) % d)) rfl (aops_end (hK7 _ (awp_region rfl (o_mv (Nv (j - 1)) rfl ?_))))
  refine o_sub (a := ((j - 1 : Nat) : Int)) (c := ((1 : Nat) : Int)) gn rfl rfl (by exact wrap64 (by omega) (by omega)) ?_
  refine o_as (Iv (((j - 1 : Nat) : Int) - ((1 : Nat) : Int))) rfl (aops_end ?_)
  refine ⟨_, _, ?lt, ⟨j - 1, o.set (j - 1) (((r * 1000000000) + ((digs z.natAbs).getD (j - 1) 0)) / d), ((r * 1000000000) + ((digs z.natAbs).getD (j - 1) 0)) % d, (by omega), (by simp only [List.length_set]; exact hl), hd.set (div_dig hr hA rfl), Nat.mod_lt _ hd0, (div_step (by omega) hl hd0 (by rw [Nat.sub_add_cancel (by omega)]; exact hv) rfl), rfl, rfl⟩, ?wk⟩
  case lt => omega
  case wk => exact Wk.sub ⟨rfl, rfl, rfl, rfl, (by first | rfl | exact nm_int (by omega)), (by first | rfl | exact int_eq (by omega) | exact int_nm (by omega)), trivial⟩ ⟨rfl, rfl, (by first | rfl | exact row_ns (by simp)), trivial⟩
 ·have hj0 : j = 0 := by omega
  have hv0 := hv
  rw [hj0] at hv0
  have hE := div_end hr hv0
  have hq := hE.1
  have hq1 := len_div hE.1 hz (decide (z < 0))
  have hq2 := len_one
  refine awp_exit ?_
  refine hK3 _ (awp_seq fun K10 hK10 => awp_region rfl ?_)
  refine o_fieldRef 0 gn f8_ rfl rfl ?_
  refine o_loadS (bp (z < 0)) gn f4_ rfl rfl rfl ?_
  refine o_mv (.row 4) rfl ?_
  refine o_callG [(4, 1, ns .u32 o)] [bp (z < 0), .sl 1 (ns .u32 o)] _ (intW (sg (decide (z < 0)) (val o))) [(2, oZ 90 .u32 z), (3, .var 90 [Fv, Zv])] gn f35_ rfl ⟨⟨_, rfl⟩, trivial⟩ rfl rfl (LeL.cons (AV.le_refl _) (LeL.cons (AV.le_refl _) LeL.nil)) (c_wTrim (decide (z < 0)) o (by first | assumption | exact dgn_dig _ _ | exact digs_dig _ | exact Dig.snoc (by assumption) (by assumption) | exact Dig.cons (by omega) (digs_dig _))) rfl ?_
  refine o_alloc 101 [Fv, Zv] gn f15_ rfl rfl rfl ?_
  refine o_store [(101, oZ 90 .u32 (sg (decide (z < 0)) (val o))), (2, oZ 90 .u32 z), (3, .var 90 [Fv, Zv])] gn f19_ rfl rfl rfl rfl rfl rfl ?_
  refine aops_end (hK10 _ (awp_seq fun K11 hK11 => awp_seq fun K12 hK12 => awp_region rfl ?_))
  refine o_fieldRef 0 gn f8_ rfl rfl ?_
  refine o_loadS (bp (z < 0)) gn f4_ rfl rfl rfl ?_
  refine o_mv (bp (z < 0)) rfl ?_
  refine o_splitP (q := z < 0) 50 rfl (fun h2 => ?_) (fun h2 => ?_)
  ·refine o_move (nm .u64 r) (Gd.yes rfl rfl (decide_eq_true h2)) rfl ?_
   refine n_gtr r 0 (Gd.yes rfl rfl (decide_eq_true h2)) rfl rfl ?_
   refine o_pickT (bp (0 < r)) gn rfl (decide_eq_true h2) rfl ?_
   refine aops_end (hK12 _ ?_)
   refine awp_condQ (q := 0 < r) rfl (fun h3 => ?_) (fun h3 => ?_)
   ·refine awp_seq fun K13 hK13 => awp_regionD rfl ?_
    refine o_loadA [bp ((sg (decide (z < 0)) (val o)) < 0), .sl 1 (ns .u32 (digs (sg (decide (z < 0)) (val o)).natAbs))] gn f20_ rfl rfl rfl rfl rfl ?_
    refine o_ct (c_wOf (1 : Int) (by first | decide | omega) (by first | decide | omega)) gn f46_ rfl ?_
    refine o_ct (c_wSub (sg (decide (z < 0)) (val o)) (1 : Int) (by first | omega | assumption | (simp only [Int.natAbs_neg]; omega)) (by first | omega | assumption | (simp only [Int.natAbs_neg]; omega))) gn f47_ rfl ?_
    refine o_mv (Nv d) rfl (o_mv (nm .u64 r) rfl ?_)
    refine n_conv r gn rfl f42_ f41_ (by simp only [topOf]; omega) ?_
    refine o_sub (a := ((d : Nat) : Int)) (c := ((r : Nat) : Int)) gn rfl rfl (by exact wrap64 (by omega) (by omega)) ?_
    refine o_store [(101, oZ 90 .u32 (sg (decide (z < 0)) (val o))), (2, oZ 90 .u32 z), (3, (oZ 90 .u32 ((sg (decide (z < 0)) (val o)) - (1 : Int))))] gn f19_ rfl rfl rfl rfl rfl rfl ?_
    refine o_as (Iv (((d : Nat) : Int) - ((r : Nat) : Int))) rfl ?_
    refine aops_end ⟨by kernel_rfl, ?_⟩
    refine hK13 _ ?_
    refine awp_ret ?_
    refine post_ret ⟨[(intW ((sg (decide (z < 0)) (val o)) - (1 : Int))), (Iv (((d : Nat) : Int) - ((r : Nat) : Int)))], ⟨⟨3, (oZ 90 .u32 ((sg (decide (z < 0)) (val o)) - (1 : Int))), rfl, rfl, rfl, Or.inl ⟨f20_, AV.le_refl _⟩⟩, AV.le_refl _, trivial⟩, rfl, ?_⟩
    have e := part3 h2 hd0 hE.1 hE.2 (by omega)
    exact tup_eq2 (congrArg (intK .u32) (e.1.trans (by simp [sg, h2]))) (int_eq e.2)
   ·refine awp_skip (hK11 _ (awp_seq fun K14 hK14 => awp_region rfl ?_))
    refine o_loadA [bp ((sg (decide (z < 0)) (val o)) < 0), .sl 1 (ns .u32 (digs (sg (decide (z < 0)) (val o)).natAbs))] gn f20_ rfl rfl rfl rfl rfl ?_
    refine o_mv (nm .u64 r) rfl ?_
    refine n_conv r gn rfl f42_ f41_ (by simp only [topOf]; omega) ?_
    refine o_store [(101, oZ 90 .u32 (sg (decide (z < 0)) (val o))), (2, oZ 90 .u32 z), (3, oZ 90 .u32 (sg (decide (z < 0)) (val o)))] gn f19_ rfl rfl rfl rfl rfl rfl ?_
    refine o_as (Nv r) rfl (aops_end (hK14 _ ?_))
    refine awp_ret ?_
    refine post_ret ⟨[intW (sg (decide (z < 0)) (val o)), Nv r], ⟨⟨3, oZ 90 .u32 (sg (decide (z < 0)) (val o)), rfl, rfl, rfl, Or.inl ⟨f20_, AV.le_refl _⟩⟩, AV.le_refl _, trivial⟩, rfl, ?_⟩
    have e := part2 h2 hd0 hE.1 hE.2 (by omega)
    exact tup_eq2 (congrArg (intK .u32) (e.1.trans (by simp [sg, h2]))) (int_eq (e.2.trans (by omega)))
  ·refine o_skip rfl rfl (decide_eq_false h2) (o_skip rfl rfl (decide_eq_false h2) ?_)
   refine o_pickF Fv gn rfl (decide_eq_false h2) rfl ?_
   refine aops_end (hK12 _ ?_)
   refine awp_condB (b := false) rfl (fun hh => absurd (hh.symm.trans rfl) (by decide)) (fun _ => ?_)
   refine awp_skip (hK11 _ (awp_seq fun K15 hK15 => awp_region rfl ?_))
   refine o_loadA [bp ((sg (decide (z < 0)) (val o)) < 0), .sl 1 (ns .u32 (digs (sg (decide (z < 0)) (val o)).natAbs))] gn f20_ rfl rfl rfl rfl rfl ?_
   refine o_mv (nm .u64 r) rfl ?_
   refine n_conv r gn rfl f42_ f41_ (by simp only [topOf]; omega) ?_
   refine o_store [(101, oZ 90 .u32 (sg (decide (z < 0)) (val o))), (2, oZ 90 .u32 z), (3, oZ 90 .u32 (sg (decide (z < 0)) (val o)))] gn f19_ rfl rfl rfl rfl rfl rfl ?_
   refine o_as (Nv r) rfl (aops_end (hK15 _ ?_))
   refine awp_ret ?_
   refine post_ret ⟨[intW (sg (decide (z < 0)) (val o)), Nv r], ⟨⟨3, oZ 90 .u32 (sg (decide (z < 0)) (val o)), rfl, rfl, rfl, Or.inl ⟨f20_, AV.le_refl _⟩⟩, AV.le_refl _, trivial⟩, rfl, ?_⟩
   have e := part1 h2 hd0 hE.1 hE.2
   exact tup_eq2 (congrArg (intK .u32) (e.1.trans (by simp [sg, h2]))) (int_eq e.2)

theorem c_rDigits (z : Int) (hz : (digs z.natAbs).length ≤ 1000000000) : ECalls cx 76 [intR z] (Nv (ndig z.natAbs)) := by
 refine ecalls_of_awp Tryz.func76 (c := _) rfl (Nat.le_of_ble_eq_true rfl) ?_
 show awp cx 29 _ (postF cx Tryz.f76 _) ⟨[(0, intR z)], []⟩
 refine awp_seq fun K0 hK0 => awp_region rfl ?_
 refine o_box 2 [bp (z < 0), .sl 1 (ns .i64 (digs z.natAbs))] gn rfl rfl ?_
 refine o_as (Nv 0) rfl (aops_end (hK0 _ (awp_seq fun K1 hK1 => awp_seq fun K2 hK2 => awp_region rfl ?_)))
 refine o_fieldRef 1 gn f0_ rfl rfl ?_
 refine o_loadS (.sl 1 (ns .i64 (digs z.natAbs))) gn f1_ rfl rfl rfl ?_
 refine n_len (digs z.natAbs) gn f2_ rfl ?_
 refine n_eql ((digs z.natAbs).length) 0 gn rfl rfl ?_
 refine aops_end (hK2 _ ?_)
 refine awp_condQ (q := ((digs z.natAbs).length) = 0) rfl (fun h1 => ?_) (fun h1 => ?_)
 ·refine awp_seq fun K3 hK3 => awp_region rfl (o_as (Nv 1) rfl (aops_end (hK3 _ ?_)))
  refine awp_ret ?_
  refine post_ret ⟨[Nv 1], ⟨AV.le_refl _, trivial⟩, rfl, ?_⟩
  refine congrArg (nm .i64) ?_
  unfold ndig
  rw [if_pos (digs_len_zero.1 h1)]
 ·have ht := ndig_top (n := z.natAbs) (by rcases Nat.eq_zero_or_pos z.natAbs with e | e; exact absurd (digs_len_zero.2 e) h1; exact e)
  have htl := (digs_dig z.natAbs).getD ((digs z.natAbs).length - 1)
  have ht9 := decs_len_lt (n := (digs z.natAbs).getD ((digs z.natAbs).length - 1) 0) (k := 9) htl
  refine awp_skip (hK1 _ (awp_seq fun K4 hK4 => awp_region rfl ?_))
  refine o_fieldRef 1 gn f0_ rfl rfl ?_
  refine o_loadS (.sl 1 (ns .i64 (digs z.natAbs))) gn f1_ rfl rfl rfl ?_
  refine n_len (digs z.natAbs) gn f2_ rfl ?_
  refine n_sub ((digs z.natAbs).length) 1 gn rfl rfl (by omega) (by simp only [topOf]; omega) ?_
  refine n_mul 9 (((digs z.natAbs).length) - 1) gn rfl rfl (by simp only [topOf]; omega) ?_
  refine o_as (Nv (9 * (((digs z.natAbs).length) - 1))) rfl (aops_end (hK4 _ (awp_seq fun K5 hK5 => awp_seq fun K6 hK6 => awp_region rfl ?_)))
  refine o_fieldRef 1 gn f0_ rfl rfl ?_
  refine o_loadS (.sl 1 (ns .i64 (digs z.natAbs))) gn f1_ rfl rfl rfl ?_
  refine o_fieldRef 1 gn f0_ rfl rfl ?_
  refine o_loadS (.sl 1 (ns .i64 (digs z.natAbs))) gn f1_ rfl rfl rfl ?_
  refine n_len (digs z.natAbs) gn f2_ rfl ?_
  refine n_sub ((digs z.natAbs).length) 1 gn rfl rfl (by omega) (by simp only [topOf]; omega) ?_
  refine n_index (digs z.natAbs) (((digs z.natAbs).length) - 1) gn f10_ rfl rfl (by omega) ?_
  refine n_loadI (digs z.natAbs) (((digs z.natAbs).length) - 1) gn f11_ rfl (by omega) ?_
  refine o_as (Nv ((digs z.natAbs).getD (((digs z.natAbs).length) - 1) 0)) rfl (aops_end (hK6 _ ?_))
  refine awp_block ?_
  refine awp_loopR (fun κ σ => ∃ (p : Nat), ∃ (q : Nat), (q < 1000000000) ∧ (p + (decs q).length = 9 * ((digs z.natAbs).length - 1) + (decs ((digs z.natAbs).getD ((digs z.natAbs).length - 1) 0)).length) ∧ q = κ ∧ σ = ⟨[(1, .ref 2 0), (3, Nv p), (4, Nv q)], [(2, oZ 42 .i64 z)]⟩) ⟨_, _, ⟨9 * ((digs z.natAbs).length - 1), (digs z.natAbs).getD ((digs z.natAbs).length - 1) 0, htl, rfl, rfl, rfl⟩, ?wk0⟩ ?rd0
  case wk0 =>
   exact Wk.sub ⟨rfl, (by first | rfl | exact nm_int (by omega)), (by first | rfl | exact nm_int (by omega)), trivial⟩ ⟨rfl, trivial⟩
  rintro κ _ ⟨p, q, hq, hp, rfl, rfl⟩
  refine awp_seq fun K7 hK7 => awp_seq fun K8 hK8 => awp_region rfl (o_mv (Nv q) rfl ?_)
  refine n_gtr q 0 gn rfl rfl ?_
  refine aops_end (hK8 _ ?_)
  refine awp_condQ (q := 0 < q) rfl (fun h2 => ?_) (fun h2 => ?_)
  ·refine awp_skip (hK7 _ (awp_seq fun K9 hK9 => ?_))
   refine awp_block ?_
   refine awp_region rfl (o_mv (Nv p) rfl ?_)
   refine n_add p 1 gn rfl rfl (by simp only [topOf]; omega) ?_
   refine o_as (Nv (p + 1)) rfl (aops_end (hK9 _ (awp_region rfl (o_mv (Nv q) rfl ?_))))
   refine n_quo q 10 gn rfl rfl (by omega) (by simp only [topOf]; omega) ?_
   refine o_as (Nv (q / 10)) rfl (aops_end ?_)
   refine ⟨_, _, ?lt, ⟨p + 1, q / 10, (by omega), (by rw [decs_pos (by assumption)] at hp; simp only [List.length_cons] at hp; omega), rfl, rfl⟩, ?wk⟩
   case lt => omega
   case wk => exact Wk.sub ⟨rfl, (by first | rfl | exact nm_int (by omega)), (by first | rfl | exact nm_int (by omega)), trivial⟩ ⟨rfl, trivial⟩
  ·refine awp_exit ?_
   refine hK5 _ (awp_seq fun K10 hK10 => awp_region rfl (o_mv (Nv p) rfl (o_as (Nv p) rfl (aops_end (hK10 _ ?_)))))
   refine awp_ret ?_
   refine post_ret ⟨[Nv p], ⟨AV.le_refl _, trivial⟩, rfl, ?_⟩
   refine congrArg (nm .i64) ?_
   unfold ndig
   rw [if_neg (fun e => h1 (digs_len_zero.2 e)), ht, ← hp, show q = 0 by omega, decs_zero]
   rfl

end Go.Proofs.YtdmkejloknejdaaGreatDoor

namespace Go.Proofs.YtdmkejloknejdaaGreatDoor
open Go Go.Ab Go.Mth
theorem f48_ : tyInt cx.P 5 = some .u8 := by kernel_rfl
theorem f49_ : tyElem cx.P 112 = some (5, 1, 1) := by kernel_rfl
theorem f50_ : tyZero cx.P 5 = some [Go.Value.int IntKind.u8 0] := by kernel_rfl
theorem f51_ : cx.P.underlying 112 = some (.slice 5) := by kernel_rfl
theorem f52_ : tySc cx.P 5 = true := by kernel_rfl
theorem f53_ : cx.P.underlying 5 = some (.int .u8) := by kernel_rfl
theorem f54_ : cx.P.underlying 9 = some .string := by kernel_rfl
theorem c_rText (z : Int) (hz : (digs z.natAbs).length ≤ 1000000000) : ECalls cx 17 [intR z] (.lit (.string (txt z))) := by
 refine ecalls_of_awp Tryz.func17 (c := _) rfl (Nat.le_of_ble_eq_true rfl) ?_
 show awp cx 71 _ (postF cx Tryz.f17 _) ⟨[(0, intR z)], []⟩
 refine awp_seq fun K0 hK0 => awp_region rfl ?_
 refine o_box 2 [bp (z < 0), .sl 1 (ns .i64 (digs z.natAbs))] gn rfl rfl ?_
 refine o_as (Sv Ev) rfl (aops_end (hK0 _ (awp_seq fun K1 hK1 => awp_seq fun K2 hK2 => awp_region rfl ?_)))
 refine o_fieldRef 1 gn f0_ rfl rfl ?_
 refine o_loadS (.sl 1 (ns .i64 (digs z.natAbs))) gn f1_ rfl rfl rfl ?_
 refine n_len (digs z.natAbs) gn f2_ rfl ?_
 refine n_eql ((digs z.natAbs).length) 0 gn rfl rfl ?_
 refine aops_end (hK2 _ ?_)
 refine awp_condQ (q := ((digs z.natAbs).length) = 0) rfl (fun h1 => ?_) (fun h1 => ?_)
 ·refine awp_seq fun K3 hK3 => awp_region rfl (o_as (Sv ({data := #[48]} : ByteArray)) rfl (aops_end (hK3 _ ?_)))
  refine awp_ret ?_
  refine post_ret ⟨[(Sv ({data := #[48]} : ByteArray))], ⟨AV.le_refl _, trivial⟩, rfl, ?_⟩
  rw [show z = 0 by have := digs_len_zero.1 h1; omega]
  rfl
 ·have hz0 : z.natAbs ≠ 0 := fun e => h1 (digs_len_zero.2 e)
  have hdl := decs_len_le z.natAbs
  refine awp_skip (hK1 _ (awp_seq fun K4 hK4 => awp_region rfl (o_as Zv rfl (aops_end (hK4 _ (awp_seq fun K5 hK5 => awp_seq fun K6 hK6 => awp_region rfl (o_as (Nv 0) rfl (aops_end ?_))))))))
  refine hK6 _ ?_
  refine awp_block ?_
  refine awp_loopR (fun κ σ => ∃ (i : Nat), ∃ (bk : List Nat), (i ≤ (digs z.natAbs).length) ∧ (bk ++ decs (val ((digs z.natAbs).drop i)) = decs z.natAbs) ∧ ((digs z.natAbs).length - i) = κ ∧ σ = ⟨[(1, .ref 2 0), (3, .row 3), (4, Nv i)], [(2, oZ 42 .i64 z), (3, .row 5 1 (ns .u8 bk))]⟩) ⟨_, _, ⟨0, [], (by omega), (by simp [val_digs]), rfl, rfl⟩, ?wk0⟩ ?rd0
  case wk0 =>
   exact Wk.trans (Wk.newNil (i := 3) (id := 503) (e := 5) (sz := 1) rfl rfl (by decide)) (Wk.trans (Wk.sub (σ' := ⟨[(1, .ref 2 0), (3, .row 503), (4, Nv 0)], [(2, oZ 42 .i64 z), (503, .row 5 1 (ns .u8 ([])))]⟩) ⟨rfl, rfl, rfl, trivial⟩ ⟨rfl, rfl, trivial⟩) (Wk.trans (Wk.ren (id := 503) (id' := 3) rfl) (Wk.sub ⟨rfl, (by first | rfl | simp), (by first | rfl | exact nm_int (by omega)), trivial⟩ ⟨rfl, (by first | rfl | exact row_ns (by simp)), trivial⟩)))
  rintro κ _ ⟨i, bk, hi, hv, rfl, rfl⟩
  have hA := (digs_dig z.natAbs).getD i
  refine awp_seq fun K7 hK7 => awp_seq fun K8 hK8 => awp_region rfl (o_mv (Nv i) rfl ?_)
  refine o_fieldRef 1 gn f0_ rfl rfl ?_
  refine o_loadS (.sl 1 (ns .i64 (digs z.natAbs))) gn f1_ rfl rfl rfl ?_
  refine n_len (digs z.natAbs) gn f2_ rfl ?_
  refine n_lss i ((digs z.natAbs).length) gn rfl rfl ?_
  refine aops_end (hK8 _ ?_)
  refine awp_condQ (q := i < ((digs z.natAbs).length)) rfl (fun h2 => ?_) (fun h2 => ?_)
  ·refine awp_skip (hK7 _ (awp_seq fun K9 hK9 => ?_))
   refine awp_block ?_
   refine awp_seq fun K10 hK10 => awp_region rfl ?_
   refine o_fieldRef 1 gn f0_ rfl rfl ?_
   refine o_loadS (.sl 1 (ns .i64 (digs z.natAbs))) gn f1_ rfl rfl rfl ?_
   refine o_mv (Nv i) rfl ?_
   refine n_index (digs z.natAbs) i gn f10_ rfl rfl (by omega) ?_
   refine n_loadI (digs z.natAbs) i gn f11_ rfl (by omega) ?_
   refine o_as (Nv ((digs z.natAbs).getD i 0)) rfl (aops_end (hK10 _ (awp_seq fun K11 hK11 => awp_region rfl (o_as (Nv 0) rfl (aops_end (hK11 _ ?_))))))
   refine awp_block ?_
   refine awp_loopR (fun κ σ => ∃ (k : Nat), ∃ (p : Nat), ∃ (bk : List Nat), (k ≤ 9) ∧ (p < 10 ^ (9 - k)) ∧ (p < 1000000000) ∧ (bk ++ decs (p + 10 ^ (9 - k) * val ((digs z.natAbs).drop (i + 1))) = decs z.natAbs) ∧ (9 - k) = κ ∧ σ = ⟨[(1, .ref 2 0), (3, .row 3), (4, Nv i), (5, Nv p), (6, Nv k)], [(2, oZ 42 .i64 z), (3, .row 5 1 (ns .u8 bk))]⟩) ⟨_, _, ⟨0, _, bk, (by omega), (by simpa using hA), hA, (by rw [← drop_hi (by omega)]; exact hv), rfl, rfl⟩, ?wk1⟩ ?rd1
   case wk1 =>
    exact Wk.sub ⟨rfl, rfl, rfl, (by first | rfl | exact nm_int (by omega)), (by first | rfl | exact nm_int (by omega)), trivial⟩ ⟨rfl, rfl, trivial⟩
   rintro κ _ ⟨k, p, bk, hk, hp, hp2, hw, rfl, rfl⟩
   have hpos : i + 1 < (digs z.natAbs).length → 0 < 10 ^ (9 - k) * val ((digs z.natAbs).drop (i + 1)) := fun h => Nat.mul_pos (Nat.pow_pos (by decide)) (val_drop_pos h)
   refine awp_seq fun K12 hK12 => awp_seq fun K13 hK13 => awp_region rfl (o_mv (Nv k) rfl ?_)
   refine n_lss k 9 gn rfl rfl ?_
   refine o_mv (bp (k < 9)) rfl ?_
   refine o_splitP (q := k < 9) 27 rfl (fun h3 => ?_) (fun h3 => ?_)
   ·refine o_move (Nv p) (Gd.yes rfl rfl (decide_eq_true h3)) rfl ?_
    refine n_gtr p 0 (Gd.yes rfl rfl (decide_eq_true h3)) rfl rfl ?_
    refine o_move (bp (0 < p)) (Gd.yes rfl rfl (decide_eq_true h3)) rfl ?_
    refine o_splitP (q := 0 < p) 30 rfl (fun h4 => ?_) (fun h4 => ?_)
    ·refine o_skip rfl rfl (decide_eq_true h4) (o_skip rfl rfl (decide_eq_true h4) (o_skip rfl rfl (decide_eq_true h4) (o_skip rfl rfl (decide_eq_true h4) (o_skip rfl rfl (decide_eq_true h4) (o_skip rfl rfl (decide_eq_true h4) ?_)))))
     refine o_pickT Tv (Gd.yes rfl rfl (decide_eq_true h3)) rfl (decide_eq_true h4) rfl ?_
     refine o_pickT Tv gn rfl (decide_eq_true h3) rfl ?_
     refine aops_end (hK13 _ ?_)
     refine awp_condB (b := true) rfl (fun _ => ?_) (fun hh => absurd (hh.symm.trans rfl) (by decide))
     refine awp_skip (hK12 _ (awp_seq fun K14 hK14 => ?_))
     refine awp_block ?_
     refine awp_seq fun K15 hK15 => awp_region rfl (o_mv (.row 3) rfl (o_mv (Nv p) rfl ?_))
     refine n_rem p 10 gn rfl rfl (by omega) ?_
     refine n_add 48 (p % 10) gn rfl rfl (by simp only [topOf]; omega) ?_
     refine n_conv (48 + (p % 10)) gn rfl f41_ f48_ (by simp only [topOf]; omega) ?_
     refine o_buildSlice 201 (ns .u8 ([48 + (p % 10)])) [(0, [nm .u8 (48 + (p % 10))])] gn f49_ rfl f50_ rfl rfl rfl rfl rfl rfl rfl ?_
     refine n_append 202 bk ([48 + (p % 10)]) [(201, .row 5 1 (ns .u8 ([48 + (p % 10)]))), (2, oZ 42 .i64 z)] gn f49_ f50_ rfl rfl rfl rfl rfl (by simp only [List.length_append, List.length_cons, List.length_nil]; have := bk_len hw (by first | omega | (have := hpos (by omega); omega)) hz; omega) (by decide) rfl rfl ?_
     refine o_as (.row 202) rfl (aops_end (hK15 _ (awp_region rfl (o_mv (Nv p) rfl ?_))))
     refine n_quo p 10 gn rfl rfl (by omega) (by simp only [topOf]; omega) ?_
     refine o_as (Nv (p / 10)) rfl (aops_end (hK14 _ (awp_region rfl (o_mv (Nv k) rfl ?_))))
     refine n_add k 1 gn rfl rfl (by simp only [topOf]; omega) ?_
     refine o_as (Nv (k + 1)) rfl (aops_end ?_)
     refine ⟨_, _, ?lt, ⟨k + 1, p / 10, bk ++ ([48 + (p % 10)]), (by omega), (by rw [Nat.div_lt_iff_lt_mul (by decide), ← Nat.pow_succ, show Nat.succ (9 - (k + 1)) = 9 - k by omega]; exact hp), (by omega), (text_step (by omega) (by first | omega | (have := hpos (by omega); omega)) hw), rfl, rfl⟩, ?wk⟩
     case lt => omega
     case wk => exact Wk.trans (Wk.sub (σ' := ⟨[(1, .ref 2 0), (3, .row 202), (4, Nv i), (5, Nv (p / 10)), (6, Nv (k + 1))], [(2, oZ 42 .i64 z), (202, .row 5 1 (ns .u8 (bk ++ ([48 + (p % 10)]))))]⟩) ⟨rfl, rfl, rfl, rfl, rfl, trivial⟩ ⟨rfl, rfl, trivial⟩) (Wk.trans (Wk.ren (id := 202) (id' := 3) rfl) (Wk.sub ⟨rfl, (by first | rfl | simp), rfl, (by first | rfl | exact nm_int (by omega)), (by first | rfl | exact nm_int (by omega)), trivial⟩ ⟨rfl, (by first | rfl | exact row_ns (by simp)), trivial⟩))
    ·refine o_move (Nv i) (Gd.yes rfl rfl (decide_eq_false h4)) rfl ?_
     refine o_fieldRef 1 (Gd.yes rfl rfl (decide_eq_false h4)) f0_ rfl rfl ?_
     refine o_loadS (.sl 1 (ns .i64 (digs z.natAbs))) (Gd.yes rfl rfl (decide_eq_false h4)) f1_ rfl rfl rfl ?_
     refine n_len (digs z.natAbs) (Gd.yes rfl rfl (decide_eq_false h4)) f2_ rfl ?_
     refine n_sub ((digs z.natAbs).length) 1 (Gd.yes rfl rfl (decide_eq_false h4)) rfl rfl (by omega) (by simp only [topOf]; omega) ?_
     refine n_lss i (((digs z.natAbs).length) - 1) (Gd.yes rfl rfl (decide_eq_false h4)) rfl rfl ?_
     refine o_pickF (bp (i < (((digs z.natAbs).length) - 1))) (Gd.yes rfl rfl (decide_eq_true h3)) rfl (decide_eq_false h4) rfl ?_
     refine o_pickT (bp (i < (((digs z.natAbs).length) - 1))) gn rfl (decide_eq_true h3) rfl ?_
     refine aops_end (hK13 _ ?_)
     refine awp_condQ (q := i < (((digs z.natAbs).length) - 1)) rfl (fun h5 => ?_) (fun h5 => ?_)
     ·refine awp_skip (hK12 _ (awp_seq fun K16 hK16 => ?_))
      refine awp_block ?_
      refine awp_seq fun K17 hK17 => awp_region rfl (o_mv (.row 3) rfl (o_mv (Nv p) rfl ?_))
      refine n_rem p 10 gn rfl rfl (by omega) ?_
      refine n_add 48 (p % 10) gn rfl rfl (by simp only [topOf]; omega) ?_
      refine n_conv (48 + (p % 10)) gn rfl f41_ f48_ (by simp only [topOf]; omega) ?_
      refine o_buildSlice 201 (ns .u8 ([48 + (p % 10)])) [(0, [nm .u8 (48 + (p % 10))])] gn f49_ rfl f50_ rfl rfl rfl rfl rfl rfl rfl ?_
      refine n_append 202 bk ([48 + (p % 10)]) [(201, .row 5 1 (ns .u8 ([48 + (p % 10)]))), (2, oZ 42 .i64 z)] gn f49_ f50_ rfl rfl rfl rfl rfl (by simp only [List.length_append, List.length_cons, List.length_nil]; have := bk_len hw (by first | omega | (have := hpos (by omega); omega)) hz; omega) (by decide) rfl rfl ?_
      refine o_as (.row 202) rfl (aops_end (hK17 _ (awp_region rfl (o_mv (Nv p) rfl ?_))))
      refine n_quo p 10 gn rfl rfl (by omega) (by simp only [topOf]; omega) ?_
      refine o_as (Nv (p / 10)) rfl (aops_end (hK16 _ (awp_region rfl (o_mv (Nv k) rfl ?_))))
      refine n_add k 1 gn rfl rfl (by simp only [topOf]; omega) ?_
      refine o_as (Nv (k + 1)) rfl (aops_end ?_)
      refine ⟨_, _, ?lt, ⟨k + 1, p / 10, bk ++ ([48 + (p % 10)]), (by omega), (by rw [Nat.div_lt_iff_lt_mul (by decide), ← Nat.pow_succ, show Nat.succ (9 - (k + 1)) = 9 - k by omega]; exact hp), (by omega), (text_step (by omega) (by first | omega | (have := hpos (by omega); omega)) hw), rfl, rfl⟩, ?wk⟩
      case lt => omega
      case wk => exact Wk.trans (Wk.sub (σ' := ⟨[(1, .ref 2 0), (3, .row 202), (4, Nv i), (5, Nv (p / 10)), (6, Nv (k + 1))], [(2, oZ 42 .i64 z), (202, .row 5 1 (ns .u8 (bk ++ ([48 + (p % 10)]))))]⟩) ⟨rfl, rfl, rfl, rfl, rfl, trivial⟩ ⟨rfl, rfl, trivial⟩) (Wk.trans (Wk.ren (id := 202) (id' := 3) rfl) (Wk.sub ⟨rfl, (by first | rfl | simp), rfl, (by first | rfl | exact nm_int (by omega)), (by first | rfl | exact nm_int (by omega)), trivial⟩ ⟨rfl, (by first | rfl | exact row_ns (by simp)), trivial⟩))
     ·refine awp_exit ?_
      refine hK9 _ (awp_region rfl (o_mv (Nv i) rfl ?_))
      refine n_add i 1 gn rfl rfl (by simp only [topOf]; omega) ?_
      refine o_as (Nv (i + 1)) rfl (aops_end ?_)
      have h0 : val ((digs z.natAbs).drop (i + 1)) = 0 := val_drop_all (by omega)
      have hh := hw
      rw [h0, show p = 0 by omega, Nat.mul_zero] at hh
      have hend : bk ++ decs (val ((digs z.natAbs).drop (i + 1))) = decs z.natAbs := by rw [h0]; exact hh
      refine ⟨_, _, ?lt, ⟨i + 1, bk, (by omega), hend, rfl, rfl⟩, ?wk⟩
      case lt => omega
      case wk => exact Wk.sub ⟨rfl, rfl, (by first | rfl | exact nm_int (by omega)), trivial⟩ ⟨rfl, rfl, trivial⟩
   ·refine o_skip rfl rfl (decide_eq_false h3) (o_skip rfl rfl (decide_eq_false h3) (o_skip rfl rfl (decide_eq_false h3) (o_skipU rfl rfl (o_skipU rfl rfl (o_skipU rfl rfl (o_skipU rfl rfl (o_skipU rfl rfl (o_skipU rfl rfl (o_skip rfl rfl (decide_eq_false h3) ?_)))))))))
    refine o_pickF Fv gn rfl (decide_eq_false h3) rfl ?_
    refine aops_end (hK13 _ ?_)
    refine awp_condB (b := false) rfl (fun hh => absurd (hh.symm.trans rfl) (by decide)) (fun _ => ?_)
    refine awp_exit ?_
    refine hK9 _ (awp_region rfl (o_mv (Nv i) rfl ?_))
    refine n_add i 1 gn rfl rfl (by simp only [topOf]; omega) ?_
    refine o_as (Nv (i + 1)) rfl (aops_end ?_)
    have hend := hw
    rw [show k = 9 by omega, show p = 0 by (have h9 := hp; rw [show k = 9 by omega] at h9; simpa using h9)] at hend
    simp only [Nat.sub_self, Nat.pow_zero, Nat.one_mul, Nat.zero_add] at hend
    refine ⟨_, _, ?lt, ⟨i + 1, bk, (by omega), hend, rfl, rfl⟩, ?wk⟩
    case lt => omega
    case wk => exact Wk.sub ⟨rfl, rfl, (by first | rfl | exact nm_int (by omega)), trivial⟩ ⟨rfl, rfl, trivial⟩
  ·refine awp_exit ?_
   refine hK5 _ ?_
   refine awp_seqJ (J := fun σ => ∃ (b : List Nat), (b = decs z.natAbs ++ if z < 0 then [45] else []) ∧ (b.length ≤ 9000000001) ∧ True ∧ σ = ⟨[(3, .row 3)], [(3, .row 5 1 (ns .u8 b))]⟩) ?ja2 ?jb2
   case ja2 =>
    refine awp_seq fun K18 hK18 => awp_region rfl ?_
    refine o_fieldRef 0 gn f3_ rfl rfl ?_
    refine o_loadS (bp (z < 0)) gn f4_ rfl rfl rfl ?_
    refine aops_end (hK18 _ ?_)
    refine awp_condQ (q := z < 0) rfl (fun h6 => ?_) (fun h6 => ?_)
    ·refine awp_region rfl (o_mv (.row 3) rfl ?_)
     refine o_buildSlice 101 (ns .u8 ([45])) [(0, [nm .u8 45])] gn f49_ rfl f50_ rfl rfl rfl rfl rfl rfl rfl ?_
     refine n_append 102 bk ([45]) [(101, .row 5 1 (ns .u8 ([45]))), (2, oZ 42 .i64 z)] gn f49_ f50_ rfl rfl rfl rfl rfl (by simp only [List.length_append, List.length_cons, List.length_nil]; have := congrArg List.length (bk_end hv (by omega)); omega) (by decide) rfl rfl ?_
     refine o_as (.row 102) rfl (aops_end ?_)
     have hbe := bk_end hv (by omega)
     exact ⟨_, ⟨bk ++ ([45]), (by rw [hbe]; simp [*]), (by simp [hbe]; omega), trivial, rfl⟩, Wk.trans (Wk.sub (σ' := ⟨[(3, .row 102)], [(102, .row 5 1 (ns .u8 (bk ++ ([45]))))]⟩) ⟨rfl, trivial⟩ ⟨rfl, trivial⟩) (Wk.trans (Wk.ren (id := 102) (id' := 3) rfl) (Wk.sub ⟨(by first | rfl | simp), trivial⟩ ⟨(by first | rfl | exact row_ns (by simp)), trivial⟩))⟩
    ·refine awp_skip ?_
     have hbe := bk_end hv (by omega)
     exact ⟨_, ⟨bk, (by rw [hbe]; simp [*]), (by simp [hbe]; omega), trivial, rfl⟩, Wk.sub ⟨rfl, trivial⟩ ⟨(by first | rfl | exact row_ns (by simp)), trivial⟩⟩
   rintro _ ⟨b, hb, hbl, -, rfl⟩
   refine awp_seq fun K19 hK19 => awp_region rfl (o_as Zv rfl (aops_end (hK19 _ (awp_seq fun K20 hK20 => awp_seq fun K21 hK21 => awp_region rfl (o_mv (.row 3) rfl ?_)))))
   refine n_lenRow b gn f51_ rfl rfl ?_
   refine o_sub (a := ((b.length : Nat) : Int)) (c := ((1 : Nat) : Int)) gn rfl rfl (by exact wrap64 (by omega) (by omega)) ?_
   refine o_as (Iv (((b.length : Nat) : Int) - ((1 : Nat) : Int))) rfl (aops_end (hK21 _ ?_))
   refine awp_block ?_
   refine awp_loopR (fun κ σ => ∃ (j : Nat), ∃ (out : List Nat), (j ≤ b.length) ∧ (out = (b.drop j).reverse) ∧ j = κ ∧ σ = ⟨[(3, .row 3), (7, .row 4), (8, (Iv ((j : Int) - 1)))], [(3, .row 5 1 (ns .u8 b)), (4, .row 5 1 (ns .u8 out))]⟩) ⟨_, _, ⟨b.length, [], Nat.le_refl _, (by simp), rfl, rfl⟩, ?wk3⟩ ?rd3
   case wk3 =>
    exact Wk.trans (Wk.newNil (i := 7) (id := 801) (e := 5) (sz := 1) rfl rfl (by decide)) (Wk.trans (Wk.sub (σ' := ⟨[(3, .row 3), (7, .row 801), (8, (Iv (((b.length : Nat) : Int) - ((1 : Nat) : Int))))], [(3, .row 5 1 (ns .u8 b)), (801, .row 5 1 (ns .u8 ([])))]⟩) ⟨rfl, rfl, rfl, trivial⟩ ⟨rfl, rfl, trivial⟩) (Wk.trans (Wk.ren (id := 801) (id' := 4) rfl) (Wk.sub ⟨rfl, (by first | rfl | simp), (by first | rfl | exact int_eq (by omega) | exact int_nm (by omega)), trivial⟩ ⟨(by first | rfl | exact row_ns (by simp)), (by first | rfl | exact row_ns (by simp)), trivial⟩)))
   rintro κ _ ⟨j, out, hj, ho, rfl, rfl⟩
   refine awp_seq fun K22 hK22 => awp_seq fun K23 hK23 => awp_region rfl (o_mv (Iv ((j : Int) - 1)) rfl ?_)
   refine o_geq (a := ((j : Int) - 1)) (c := ((0 : Nat) : Int)) gn rfl rfl ?_
   refine aops_end (hK23 _ ?_)
   refine awp_condQ (q := ((0 : Nat) : Int) ≤ ((j : Int) - 1)) rfl (fun h7 => ?_) (fun h7 => ?_)
   ·refine awp_wk (Wk.slot (i := 8) (y := (Nv (j - 1))) (AV.le_eq (by exact nm_int (by omega)))) ?_
    refine awp_skip (hK22 _ (awp_seq fun K24 hK24 => ?_))
    refine awp_block ?_
    refine awp_region rfl (o_mv (.row 4) rfl (o_mv (.row 3) rfl (o_mv (Nv (j - 1)) rfl ?_)))
    refine n_indexRow b (j - 1) gn f49_ rfl rfl rfl (by omega) ?_
    refine n_loadRow b (j - 1) gn f52_ rfl rfl (by omega) ?_
    refine o_buildSlice 401 (ns .u8 ([b.getD (j - 1) 0])) [(0, [nm .u8 (b.getD (j - 1) 0)])] gn f49_ rfl f50_ rfl rfl rfl rfl rfl rfl rfl ?_
    refine n_append 402 out ([b.getD (j - 1) 0]) [(401, .row 5 1 (ns .u8 ([b.getD (j - 1) 0]))), (3, .row 5 1 (ns .u8 b))] gn f49_ f50_ rfl rfl rfl rfl rfl (by simp only [ho, List.length_append, List.length_cons, List.length_nil, List.length_reverse, List.length_drop]; omega) (by decide) rfl rfl ?_
    refine o_as (.row 402) rfl (aops_end (hK24 _ (awp_region rfl (o_mv (Nv (j - 1)) rfl ?_))))
    refine o_sub (a := ((j - 1 : Nat) : Int)) (c := ((1 : Nat) : Int)) gn rfl rfl (by exact wrap64 (by omega) (by omega)) ?_
    refine o_as (Iv (((j - 1 : Nat) : Int) - ((1 : Nat) : Int))) rfl (aops_end ?_)
    refine ⟨_, _, ?lt, ⟨j - 1, out ++ ([b.getD (j - 1) 0]), (by omega), (by rw [ho]; exact rev_step (by omega) hj), rfl, rfl⟩, ?wk⟩
    case lt => omega
    case wk => exact Wk.trans (Wk.sub (σ' := ⟨[(3, .row 3), (7, .row 402), (8, (Iv (((j - 1 : Nat) : Int) - ((1 : Nat) : Int))))], [(3, .row 5 1 (ns .u8 b)), (402, .row 5 1 (ns .u8 (out ++ ([b.getD (j - 1) 0]))))]⟩) ⟨rfl, rfl, rfl, trivial⟩ ⟨rfl, rfl, trivial⟩) (Wk.trans (Wk.ren (id := 402) (id' := 4) rfl) (Wk.sub ⟨rfl, (by first | rfl | simp), (by first | rfl | exact int_eq (by omega) | exact int_nm (by omega)), trivial⟩ ⟨(by first | rfl | exact row_ns (by simp)), (by first | rfl | exact row_ns (by simp)), trivial⟩))
   ·refine awp_exit ?_
    refine hK20 _ (awp_seq fun K25 hK25 => awp_region rfl (o_mv (.row 4) rfl ?_))
    refine n_strOf out gn f51_ f53_ f54_ rfl rfl ?_
    refine o_as (Sv (strN out)) rfl (aops_end (hK25 _ ?_))
    refine awp_ret ?_
    refine post_ret ⟨[Sv (strN out)], ⟨AV.le_refl _, trivial⟩, rfl, ?_⟩
    have hj0 : j = 0 := by omega
    subst hj0
    rw [ho, List.drop_zero]
    exact congrArg (fun x => AV.lit (.string x)) (txt_fin hz0 hb)

end Go.Proofs.YtdmkejloknejdaaGreatDoor

namespace Go.Proofs.YtdmkejloknejdaaGreatDoor
open Go Go.Ab Go.Mth
theorem c_rValid (a : ByteArray) (hsz : a.size ≤ 9223372036854775807) : ECalls cx 25 [Sv a] (.lit (.bool (okS a))) := by
 refine ecalls_of_awp Tryz.func25 (c := _) rfl (Nat.le_of_ble_eq_true rfl) ?_
 show awp cx 51 _ (postF cx Tryz.f25 _) ⟨[(0, Sv a)], []⟩
 refine awp_seq fun K0 hK0 => awp_region rfl (o_as Fv rfl (aops_end (hK0 _ (awp_seq fun K1 hK1 => awp_region rfl (o_mv (Sv a) rfl ?_)))))
 refine n_lenS a gn rfl f54_ ?_
 refine o_as (Nv (a.size)) rfl (aops_end (hK1 _ (awp_seq fun K2 hK2 => awp_region rfl (o_as (Nv 0) rfl (aops_end (hK2 _ ?_))))))
 refine awp_seqJ (J := fun σ => True ∧ σ = ⟨[(0, Sv a), (3, Nv (a.size - sgnAt a)), (4, Nv (sgnAt a))], []⟩) ?ja0 ?jb0
 case ja0 =>
  refine awp_seq fun K3 hK3 => awp_region rfl (o_mv (Sv a) rfl ?_)
  refine o_neqS (a := a) (c := Ev) gn rfl rfl ?_
  refine o_mv (bp (a.toList ≠ Ev.toList)) rfl ?_
  refine o_splitP (q := a.toList ≠ Ev.toList) 10 rfl (fun h1 => ?_) (fun h1 => ?_)
  ·refine o_move (Sv a) (Gd.yes rfl rfl (decide_eq_true h1)) rfl ?_
   refine n_indexS a 0 (Gd.yes rfl rfl (decide_eq_true h1)) f54_ rfl rfl (by have := mt str_nil.2 h1; omega) ?_
   refine n_eql (byt a 0) 45 (Gd.yes rfl rfl (decide_eq_true h1)) rfl rfl ?_
   refine o_pickT (bp ((byt a 0) = 45)) gn rfl (decide_eq_true h1) rfl ?_
   refine aops_end (hK3 _ ?_)
   refine awp_condQ (q := (byt a 0) = 45) rfl (fun h2 => ?_) (fun h2 => ?_)
   ·refine awp_seq fun K4 hK4 => awp_region rfl (o_mv (Nv (a.size)) rfl ?_)
    refine n_sub (a.size) 1 gn rfl rfl (by have := mt str_nil.2 h1; omega) (by simp only [topOf]; omega) ?_
    refine o_as (Nv ((a.size) - 1)) rfl (aops_end (hK4 _ (awp_region rfl (o_as (Nv 1) rfl (aops_end ?_)))))
    have hs : sgnAt a = 1 := if_pos h2
    have hne := mt str_nil.2 h1
    exact ⟨_, ⟨trivial, rfl⟩, Wk.sub ⟨rfl, (by first | rfl | exact nm_int (by omega)), (by first | rfl | exact nm_int (by omega)), trivial⟩ trivial⟩
   ·refine awp_skip ?_
    have hs : sgnAt a = 0 := if_neg h2
    exact ⟨_, ⟨trivial, rfl⟩, Wk.sub ⟨rfl, (by first | rfl | exact nm_int (by omega)), (by first | rfl | exact nm_int (by omega)), trivial⟩ trivial⟩
  ·refine o_skip rfl rfl (decide_eq_false h1) (o_skip rfl rfl (decide_eq_false h1) (o_skip rfl rfl (decide_eq_false h1) ?_))
   refine o_pickF Fv gn rfl (decide_eq_false h1) rfl ?_
   refine aops_end (hK3 _ ?_)
   refine awp_condB (b := false) rfl (fun hh => absurd (hh.symm.trans rfl) (by decide)) (fun _ => ?_)
   refine awp_skip ?_
   have hs : sgnAt a = 0 := if_neg (by rw [byt_nil (str_nil.1 (Decidable.not_not.1 h1))]; decide)
   exact ⟨_, ⟨trivial, rfl⟩, Wk.sub ⟨rfl, (by first | rfl | exact nm_int (by omega)), (by first | rfl | exact nm_int (by omega)), trivial⟩ trivial⟩
 rintro _ ⟨-, rfl⟩
 have hs1 : sgnAt a ≤ 1 := by unfold sgnAt; split <;> omega
 refine awp_seq fun K5 hK5 => awp_seq fun K6 hK6 => awp_region rfl (o_mv (Nv (a.size - sgnAt a)) rfl ?_)
 refine n_lss (a.size - sgnAt a) 1 gn rfl rfl ?_
 refine o_mv (bp ((a.size - sgnAt a) < 1)) rfl ?_
 refine o_splitP (q := (a.size - sgnAt a) < 1) 19 rfl (fun h3 => ?_) (fun h3 => ?_)
 ·refine o_skip rfl rfl (decide_eq_true h3) (o_skip rfl rfl (decide_eq_true h3) ?_)
  refine o_pickT Tv gn rfl (decide_eq_true h3) rfl ?_
  refine o_mv Tv rfl (o_skip rfl rfl rfl (o_skip rfl rfl rfl (o_skip rfl rfl rfl (o_skip rfl rfl rfl (o_skip rfl rfl rfl (o_skipU rfl rfl (o_skipU rfl rfl (o_skipU rfl rfl (o_skip rfl rfl rfl ?_)))))))))
  refine o_pickT Tv gn rfl rfl rfl ?_
  refine aops_end (hK6 _ ?_)
  refine awp_condB (b := true) rfl (fun _ => ?_) (fun hh => absurd (hh.symm.trans rfl) (by decide))
  refine awp_seq fun K7 hK7 => awp_region rfl (o_as Fv rfl (aops_end (hK7 _ ?_)))
  refine awp_ret ?_
  refine post_ret ⟨[Fv], ⟨AV.le_refl _, trivial⟩, rfl, ?_⟩
  refine bl_eq (okS_no fun h => ?_)
  obtain ⟨o1, o2, o3, o4⟩ := h
  first | omega | (have := o4 i (by omega) (by omega); omega)
 ·refine o_move (Nv (a.size - sgnAt a)) (Gd.yes rfl rfl (decide_eq_false h3)) rfl ?_
  refine n_gtr (a.size - sgnAt a) 2000 (Gd.yes rfl rfl (decide_eq_false h3)) rfl rfl ?_
  refine o_pickF (bp (2000 < (a.size - sgnAt a))) gn rfl (decide_eq_false h3) rfl ?_
  refine o_mv (bp (2000 < (a.size - sgnAt a))) rfl ?_
  refine o_splitP (q := 2000 < (a.size - sgnAt a)) 23 rfl (fun h4 => ?_) (fun h4 => ?_)
  ·refine o_skip rfl rfl (decide_eq_true h4) (o_skip rfl rfl (decide_eq_true h4) (o_skip rfl rfl (decide_eq_true h4) (o_skip rfl rfl (decide_eq_true h4) (o_skip rfl rfl (decide_eq_true h4) (o_skipU rfl rfl (o_skipU rfl rfl (o_skipU rfl rfl (o_skip rfl rfl (decide_eq_true h4) ?_))))))))
   refine o_pickT Tv gn rfl (decide_eq_true h4) rfl ?_
   refine aops_end (hK6 _ ?_)
   refine awp_condB (b := true) rfl (fun _ => ?_) (fun hh => absurd (hh.symm.trans rfl) (by decide))
   refine awp_seq fun K8 hK8 => awp_region rfl (o_as Fv rfl (aops_end (hK8 _ ?_)))
   refine awp_ret ?_
   refine post_ret ⟨[Fv], ⟨AV.le_refl _, trivial⟩, rfl, ?_⟩
   refine bl_eq (okS_no fun h => ?_)
   obtain ⟨o1, o2, o3, o4⟩ := h
   first | omega | (have := o4 i (by omega) (by omega); omega)
  ·refine o_move (Sv a) (Gd.yes rfl rfl (decide_eq_false h4)) rfl (o_move (Nv (sgnAt a)) (Gd.yes rfl rfl (decide_eq_false h4)) rfl ?_)
   refine n_indexS a (sgnAt a) (Gd.yes rfl rfl (decide_eq_false h4)) f54_ rfl rfl (by omega) ?_
   refine n_eql (byt a (sgnAt a)) 48 (Gd.yes rfl rfl (decide_eq_false h4)) rfl rfl ?_
   refine o_move (bp ((byt a (sgnAt a)) = 48)) (Gd.yes rfl rfl (decide_eq_false h4)) rfl ?_
   refine o_splitP (q := (byt a (sgnAt a)) = 48) 28 rfl (fun h5 => ?_) (fun h5 => ?_)
   ·refine o_move (Sv a) (Gd.yes rfl rfl (decide_eq_true h5)) rfl ?_
    refine n_lenS a (Gd.yes rfl rfl (decide_eq_true h5)) rfl f54_ ?_
    refine n_gtr (a.size) 1 (Gd.yes rfl rfl (decide_eq_true h5)) rfl rfl ?_
    refine o_pickT (bp (1 < (a.size))) (Gd.yes rfl rfl (decide_eq_false h4)) rfl (decide_eq_true h5) rfl ?_
    refine o_pickF (bp (1 < (a.size))) gn rfl (decide_eq_false h4) rfl ?_
    refine aops_end (hK6 _ ?_)
    refine awp_condQ (q := 1 < (a.size)) rfl (fun h6 => ?_) (fun h6 => ?_)
    ·refine awp_seq fun K9 hK9 => awp_region rfl (o_as Fv rfl (aops_end (hK9 _ ?_)))
     refine awp_ret ?_
     refine post_ret ⟨[Fv], ⟨AV.le_refl _, trivial⟩, rfl, ?_⟩
     refine bl_eq (okS_no fun h => ?_)
     obtain ⟨o1, o2, o3, o4⟩ := h
     first | omega | (have := o4 i (by omega) (by omega); omega)
    ·refine awp_skip (hK5 _ (awp_seq fun K10 hK10 => awp_seq fun K11 hK11 => awp_region rfl (o_mv (Nv (sgnAt a)) rfl (o_as (Nv (sgnAt a)) rfl (aops_end (hK11 _ ?_))))))
     refine awp_block ?_
     refine awp_loopR (fun κ σ => ∃ (i : Nat), (sgnAt a ≤ i) ∧ (i ≤ a.size) ∧ (∀ k, sgnAt a ≤ k → k < i → 48 ≤ byt a k ∧ byt a k ≤ 57) ∧ (a.size - i) = κ ∧ σ = ⟨[(0, Sv a), (5, Nv i)], []⟩) ⟨_, _, ⟨sgnAt a, (by omega), (by omega), (fun k h1 h2 => by omega), rfl, rfl⟩, ?wk1⟩ ?rd1
     case wk1 =>
      exact Wk.sub ⟨rfl, (by first | rfl | exact nm_int (by omega)), trivial⟩ trivial
     rintro κ _ ⟨i, hi, hi2, hv, rfl, rfl⟩
     refine awp_seq fun K12 hK12 => awp_seq fun K13 hK13 => awp_region rfl (o_mv (Nv i) rfl (o_mv (Sv a) rfl ?_))
     refine n_lenS a gn rfl f54_ ?_
     refine n_lss i (a.size) gn rfl rfl ?_
     refine aops_end (hK13 _ ?_)
     refine awp_condQ (q := i < (a.size)) rfl (fun h7 => ?_) (fun h7 => ?_)
     ·refine awp_skip (hK12 _ (awp_seq fun K14 hK14 => ?_))
      refine awp_block ?_
      refine awp_seq fun K15 hK15 => awp_region rfl (o_mv (Sv a) rfl (o_mv (Nv i) rfl ?_))
      refine n_indexS a i gn f54_ rfl rfl (by omega) ?_
      refine n_lss (byt a i) 48 gn rfl rfl ?_
      refine o_mv (bp ((byt a i) < 48)) rfl ?_
      refine o_splitP (q := (byt a i) < 48) 45 rfl (fun h8 => ?_) (fun h8 => ?_)
      ·refine o_skip rfl rfl (decide_eq_true h8) (o_skip rfl rfl (decide_eq_true h8) (o_skip rfl rfl (decide_eq_true h8) (o_skip rfl rfl (decide_eq_true h8) ?_)))
       refine o_pickT Tv gn rfl (decide_eq_true h8) rfl ?_
       refine aops_end (hK15 _ ?_)
       refine awp_condB (b := true) rfl (fun _ => ?_) (fun hh => absurd (hh.symm.trans rfl) (by decide))
       refine awp_seq fun K16 hK16 => awp_region rfl (o_as Fv rfl (aops_end (hK16 _ ?_)))
       refine awp_ret ?_
       refine post_ret ⟨[Fv], ⟨AV.le_refl _, trivial⟩, rfl, ?_⟩
       refine bl_eq (okS_no fun h => ?_)
       obtain ⟨o1, o2, o3, o4⟩ := h
       first | omega | (have := o4 i (by omega) (by omega); omega)
      ·refine o_move (Sv a) (Gd.yes rfl rfl (decide_eq_false h8)) rfl (o_move (Nv i) (Gd.yes rfl rfl (decide_eq_false h8)) rfl ?_)
       refine n_indexS a i (Gd.yes rfl rfl (decide_eq_false h8)) f54_ rfl rfl (by omega) ?_
       refine n_gtr (byt a i) 57 (Gd.yes rfl rfl (decide_eq_false h8)) rfl rfl ?_
       refine o_pickF (bp (57 < (byt a i))) gn rfl (decide_eq_false h8) rfl ?_
       refine aops_end (hK15 _ ?_)
       refine awp_condQ (q := 57 < (byt a i)) rfl (fun h9 => ?_) (fun h9 => ?_)
       ·refine awp_seq fun K17 hK17 => awp_region rfl (o_as Fv rfl (aops_end (hK17 _ ?_)))
        refine awp_ret ?_
        refine post_ret ⟨[Fv], ⟨AV.le_refl _, trivial⟩, rfl, ?_⟩
        refine bl_eq (okS_no fun h => ?_)
        obtain ⟨o1, o2, o3, o4⟩ := h
        first | omega | (have := o4 i (by omega) (by omega); omega)
       ·refine awp_skip (hK14 _ (awp_region rfl (o_mv (Nv i) rfl ?_)))
        refine n_add i 1 gn rfl rfl (by simp only [topOf]; omega) ?_
        refine o_as (Nv (i + 1)) rfl (aops_end ?_)
        refine ⟨_, _, ?lt, ⟨i + 1, (by omega), (by omega), (fun k hk1 hk2 => by by_cases e : k = i; subst e; omega; exact hv k hk1 (by omega)), rfl, rfl⟩, ?wk⟩
        case lt => omega
        case wk => exact Wk.sub ⟨rfl, (by first | rfl | exact nm_int (by omega)), trivial⟩ trivial
     ·refine awp_exit ?_
      refine hK10 _ (awp_seq fun K18 hK18 => awp_region rfl (o_as Tv rfl (aops_end (hK18 _ ?_))))
      refine awp_ret ?_
      refine post_ret ⟨[Tv], ⟨AV.le_refl _, trivial⟩, rfl, ?_⟩
      refine bl_eq (okS_yes ⟨by omega, by omega, by omega, fun k hk1 hk2 => hv k hk1 (by omega)⟩)
   ·refine o_skip rfl rfl (decide_eq_false h5) (o_skip rfl rfl (decide_eq_false h5) (o_skip rfl rfl (decide_eq_false h5) ?_))
    refine o_pickF Fv (Gd.yes rfl rfl (decide_eq_false h4)) rfl (decide_eq_false h5) rfl ?_
    refine o_pickF Fv gn rfl (decide_eq_false h4) rfl ?_
    refine aops_end (hK6 _ ?_)
    refine awp_condB (b := false) rfl (fun hh => absurd (hh.symm.trans rfl) (by decide)) (fun _ => ?_)
    refine awp_skip (hK5 _ (awp_seq fun K19 hK19 => awp_seq fun K20 hK20 => awp_region rfl (o_mv (Nv (sgnAt a)) rfl (o_as (Nv (sgnAt a)) rfl (aops_end (hK20 _ ?_))))))
    refine awp_block ?_
    refine awp_loopR (fun κ σ => ∃ (i : Nat), (sgnAt a ≤ i) ∧ (i ≤ a.size) ∧ (∀ k, sgnAt a ≤ k → k < i → 48 ≤ byt a k ∧ byt a k ≤ 57) ∧ (a.size - i) = κ ∧ σ = ⟨[(0, Sv a), (5, Nv i)], []⟩) ⟨_, _, ⟨sgnAt a, (by omega), (by omega), (fun k h1 h2 => by omega), rfl, rfl⟩, ?wk2⟩ ?rd2
    case wk2 =>
     exact Wk.sub ⟨rfl, (by first | rfl | exact nm_int (by omega)), trivial⟩ trivial
    rintro κ _ ⟨i, hi, hi2, hv, rfl, rfl⟩
    refine awp_seq fun K21 hK21 => awp_seq fun K22 hK22 => awp_region rfl (o_mv (Nv i) rfl (o_mv (Sv a) rfl ?_))
    refine n_lenS a gn rfl f54_ ?_
    refine n_lss i (a.size) gn rfl rfl ?_
    refine aops_end (hK22 _ ?_)
    refine awp_condQ (q := i < (a.size)) rfl (fun h10 => ?_) (fun h10 => ?_)
    ·refine awp_skip (hK21 _ (awp_seq fun K23 hK23 => ?_))
     refine awp_block ?_
     refine awp_seq fun K24 hK24 => awp_region rfl (o_mv (Sv a) rfl (o_mv (Nv i) rfl ?_))
     refine n_indexS a i gn f54_ rfl rfl (by omega) ?_
     refine n_lss (byt a i) 48 gn rfl rfl ?_
     refine o_mv (bp ((byt a i) < 48)) rfl ?_
     refine o_splitP (q := (byt a i) < 48) 45 rfl (fun h11 => ?_) (fun h11 => ?_)
     ·refine o_skip rfl rfl (decide_eq_true h11) (o_skip rfl rfl (decide_eq_true h11) (o_skip rfl rfl (decide_eq_true h11) (o_skip rfl rfl (decide_eq_true h11) ?_)))
      refine o_pickT Tv gn rfl (decide_eq_true h11) rfl ?_
      refine aops_end (hK24 _ ?_)
      refine awp_condB (b := true) rfl (fun _ => ?_) (fun hh => absurd (hh.symm.trans rfl) (by decide))
      refine awp_seq fun K25 hK25 => awp_region rfl (o_as Fv rfl (aops_end (hK25 _ ?_)))
      refine awp_ret ?_
      refine post_ret ⟨[Fv], ⟨AV.le_refl _, trivial⟩, rfl, ?_⟩
      refine bl_eq (okS_no fun h => ?_)
      obtain ⟨o1, o2, o3, o4⟩ := h
      first | omega | (have := o4 i (by omega) (by omega); omega)
     ·refine o_move (Sv a) (Gd.yes rfl rfl (decide_eq_false h11)) rfl (o_move (Nv i) (Gd.yes rfl rfl (decide_eq_false h11)) rfl ?_)
      refine n_indexS a i (Gd.yes rfl rfl (decide_eq_false h11)) f54_ rfl rfl (by omega) ?_
      refine n_gtr (byt a i) 57 (Gd.yes rfl rfl (decide_eq_false h11)) rfl rfl ?_
      refine o_pickF (bp (57 < (byt a i))) gn rfl (decide_eq_false h11) rfl ?_
      refine aops_end (hK24 _ ?_)
      refine awp_condQ (q := 57 < (byt a i)) rfl (fun h12 => ?_) (fun h12 => ?_)
      ·refine awp_seq fun K26 hK26 => awp_region rfl (o_as Fv rfl (aops_end (hK26 _ ?_)))
       refine awp_ret ?_
       refine post_ret ⟨[Fv], ⟨AV.le_refl _, trivial⟩, rfl, ?_⟩
       refine bl_eq (okS_no fun h => ?_)
       obtain ⟨o1, o2, o3, o4⟩ := h
       first | omega | (have := o4 i (by omega) (by omega); omega)
      ·refine awp_skip (hK23 _ (awp_region rfl (o_mv (Nv i) rfl ?_)))
       refine n_add i 1 gn rfl rfl (by simp only [topOf]; omega) ?_
       refine o_as (Nv (i + 1)) rfl (aops_end ?_)
       refine ⟨_, _, ?lt, ⟨i + 1, (by omega), (by omega), (fun k hk1 hk2 => by by_cases e : k = i; subst e; omega; exact hv k hk1 (by omega)), rfl, rfl⟩, ?wk⟩
       case lt => omega
       case wk => exact Wk.sub ⟨rfl, (by first | rfl | exact nm_int (by omega)), trivial⟩ trivial
    ·refine awp_exit ?_
     refine hK19 _ (awp_seq fun K27 hK27 => awp_region rfl (o_as Tv rfl (aops_end (hK27 _ ?_))))
     refine awp_ret ?_
     refine post_ret ⟨[Tv], ⟨AV.le_refl _, trivial⟩, rfl, ?_⟩
     refine bl_eq (okS_yes ⟨by omega, by omega, by omega, fun k hk1 hk2 => hv k hk1 (by omega)⟩)

theorem c_rParse (a : ByteArray) (hok : OkS a) : ECalls cx 26 [Sv a] (intR (numS a)) := by
 refine ecalls_of_awp Tryz.func26 (c := _) rfl (Nat.le_of_ble_eq_true rfl) ?_
 show awp cx 44 _ (postF cx Tryz.f26 _) ⟨[(0, Sv a)], []⟩
 obtain ⟨o1, o2, o3, o4⟩ := hok
 have hs1 : sgnAt a ≤ 1 := by unfold sgnAt; split <;> omega
 refine awp_seq fun K0 hK0 => awp_region rfl ?_
 refine o_alloc 2 [Fv, Zv] gn f9_ rfl rfl rfl ?_
 refine aops_end (hK0 _ (awp_seq fun K1 hK1 => awp_region rfl (o_mv (Sv a) rfl ?_)))
 refine n_indexS a 0 gn f54_ rfl rfl (by omega) ?_
 refine n_eql (byt a 0) 45 gn rfl rfl ?_
 refine o_as (bp ((byt a 0) = 45)) rfl (aops_end (hK1 _ (awp_seq fun K2 hK2 => awp_region rfl (o_as (Nv 0) rfl (aops_end (hK2 _ ?_))))))
 refine awp_seqJ (J := fun σ => True ∧ σ = ⟨[(0, Sv a), (2, .ref 2 0), (3, bp (byt a 0 = 45)), (4, Nv (sgnAt a))], [(2, .var 42 [Fv, Zv])]⟩) ?ja0 ?jb0
 case ja0 =>
  refine awp_seq fun K3 hK3 => awp_region rfl (o_mv (bp ((byt a 0) = 45)) rfl (aops_end (hK3 _ ?_)))
  refine awp_condQ (q := (byt a 0) = 45) rfl (fun h1 => ?_) (fun h1 => ?_)
  ·refine awp_region rfl (o_as (Nv 1) rfl (aops_end ?_))
   have hs : sgnAt a = 1 := if_pos h1
   exact ⟨_, ⟨trivial, rfl⟩, Wk.sub ⟨rfl, rfl, (by first | rfl | exact bp_congr (by first | omega | simp) | exact bl_bp (by first | omega | simp)), (by first | rfl | exact nm_int (by omega)), trivial⟩ ⟨rfl, trivial⟩⟩
  ·refine awp_skip ?_
   have hs : sgnAt a = 0 := if_neg h1
   exact ⟨_, ⟨trivial, rfl⟩, Wk.sub ⟨rfl, rfl, (by first | rfl | exact bp_congr (by first | omega | simp) | exact bl_bp (by first | omega | simp)), (by first | rfl | exact nm_int (by omega)), trivial⟩ ⟨rfl, trivial⟩⟩
 rintro _ ⟨-, rfl⟩
 refine awp_seq fun K4 hK4 => awp_region rfl (o_as Zv rfl (aops_end (hK4 _ (awp_seq fun K5 hK5 => awp_seq fun K6 hK6 => awp_region rfl (o_mv (Sv a) rfl ?_)))))
 refine n_lenS a gn rfl f54_ ?_
 refine o_as (Nv (a.size)) rfl (aops_end (hK6 _ ?_))
 refine awp_block ?_
 refine awp_loopR (fun κ σ => ∃ (E : Int), ∃ (L : List Nat), (E ≤ a.size) ∧ (Dig L) ∧ ((sgnAt a : Int) < E → L.length * 9 = a.size - E.toNat) ∧ (L.length ≤ 2000) ∧ (val L = dvk a (max (sgnAt a) E.toNat) (a.size - max (sgnAt a) E.toNat)) ∧ E.toNat = κ ∧ σ = ⟨[(0, Sv a), (2, .ref 2 0), (3, bp (byt a 0 = 45)), (4, Nv (sgnAt a)), (5, .row 3), (6, Iv E)], [(2, .var 42 [Fv, Zv]), (3, .row 3 1 (ns .i64 L))]⟩) ⟨_, _, ⟨(a.size : Int), [], (by omega), Dig.nil, (by intro _; simp), (by simp), (by rw [show max (sgnAt a) (a.size : Int).toNat = a.size by omega]; simp [val, dvk]), rfl, rfl⟩, ?wk1⟩ ?rd1
 case wk1 =>
  exact Wk.trans (Wk.newNil (i := 5) (id := 601) (e := 3) (sz := 1) rfl rfl (by decide)) (Wk.trans (Wk.sub (σ' := ⟨[(0, Sv a), (2, .ref 2 0), (3, bp (byt a 0 = 45)), (4, Nv (sgnAt a)), (5, .row 601), (6, Nv (a.size))], [(2, .var 42 [Fv, Zv]), (601, .row 3 1 (ns .i64 ([])))]⟩) ⟨rfl, rfl, rfl, rfl, rfl, rfl, trivial⟩ ⟨rfl, rfl, trivial⟩) (Wk.trans (Wk.ren (id := 601) (id' := 3) rfl) (Wk.sub ⟨rfl, rfl, rfl, rfl, (by first | rfl | simp), (by first | rfl | exact int_eq (by omega) | exact int_nm (by omega)), trivial⟩ ⟨rfl, (by first | rfl | exact row_ns (by simp)), trivial⟩)))
 rintro κ _ ⟨E, L, hE, hd, hl, hl2, hv, rfl, rfl⟩
 refine awp_seq fun K7 hK7 => awp_seq fun K8 hK8 => awp_region rfl (o_mv (Iv E) rfl (o_mv (Nv (sgnAt a)) rfl ?_))
 refine o_gtr (a := E) (c := ((sgnAt a : Nat) : Int)) gn rfl rfl ?_
 refine aops_end (hK8 _ ?_)
 refine awp_condQ (q := ((sgnAt a : Nat) : Int) < E) rfl (fun h2 => ?_) (fun h2 => ?_)
 ·refine awp_wk (Wk.slot (i := 6) (y := (Nv E.toNat)) (AV.le_eq (by exact nm_int (by omega)))) ?_
  refine awp_skip (hK7 _ (awp_seq fun K9 hK9 => ?_))
  refine awp_block ?_
  refine awp_seq fun K10 hK10 => awp_region rfl (o_as (Nv 0) rfl (aops_end (hK10 _ (awp_seq fun K11 hK11 => awp_seq fun K12 hK12 => awp_region rfl (o_mv (Nv (sgnAt a)) rfl (o_mv (Nv E.toNat) rfl ?_))))))
  refine o_sub (a := ((E.toNat : Nat) : Int)) (c := ((9 : Nat) : Int)) gn rfl rfl (by exact wrap64 (by omega) (by omega)) ?_
  refine o_max (a := ((sgnAt a : Nat) : Int)) (c := ((E.toNat : Nat) : Int) - ((9 : Nat) : Int)) gn rfl rfl (fun w => run_max _ _ w) ?_
  refine n_as (v' := (Nv (max (sgnAt a) (E.toNat - 9)))) (nm_int (by omega)) ?_
  refine o_as (Nv (max (sgnAt a) (E.toNat - 9))) rfl (aops_end (hK12 _ ?_))
  refine awp_block ?_
  refine awp_loopR (fun κ σ => ∃ (i : Nat), ∃ (q : Nat), (max (sgnAt a) (E.toNat - 9) ≤ i) ∧ (i ≤ E.toNat) ∧ (q = dvk a (max (sgnAt a) (E.toNat - 9)) (i - (max (sgnAt a) (E.toNat - 9)))) ∧ (E.toNat - i) = κ ∧ σ = ⟨[(0, Sv a), (2, .ref 2 0), (3, bp (byt a 0 = 45)), (4, Nv (sgnAt a)), (5, .row 3), (6, Nv E.toNat), (7, Nv q), (8, Nv i)], [(2, .var 42 [Fv, Zv]), (3, .row 3 1 (ns .i64 L))]⟩) ⟨_, _, ⟨max (sgnAt a) (E.toNat - 9), 0, (by omega), (by omega), (by simp [dvk]), rfl, rfl⟩, ?wk2⟩ ?rd2
  case wk2 =>
   exact Wk.sub ⟨rfl, rfl, rfl, rfl, rfl, rfl, (by first | rfl | exact nm_int (by omega)), (by first | rfl | exact nm_int (by omega)), trivial⟩ ⟨rfl, rfl, trivial⟩
  rintro κ _ ⟨i, q, hi, hi2, hq0, rfl, rfl⟩
  have hdl := dvk_lt (a := a) (s := max (sgnAt a) (E.toNat - 9)) (k := i - (max (sgnAt a) (E.toNat - 9))) fun j h1 h2 => o4 j (by omega) (by omega)
  rw [← hq0] at hdl
  have hq2 : q < 1000000000 := Nat.lt_of_lt_of_le hdl (by have := Nat.pow_le_pow_right (n := 10) (by decide) (show i - (max (sgnAt a) (E.toNat - 9)) ≤ 9 by omega); simpa using this)
  have hb := fun h => o4 i (by omega) h
  refine awp_seq fun K13 hK13 => awp_seq fun K14 hK14 => awp_region rfl (o_mv (Nv i) rfl (o_mv (Nv E.toNat) rfl ?_))
  refine n_lss i E.toNat gn rfl rfl ?_
  refine aops_end (hK14 _ ?_)
  refine awp_condQ (q := i < E.toNat) rfl (fun h3 => ?_) (fun h3 => ?_)
  ·refine awp_skip (hK13 _ (awp_seq fun K15 hK15 => ?_))
   refine awp_block ?_
   refine awp_region rfl (o_mv (Nv q) rfl ?_)
   refine n_mul 10 q gn rfl rfl (by simp only [topOf]; omega) ?_
   refine o_mv (Sv a) rfl (o_mv (Nv i) rfl ?_)
   refine n_indexS a i gn f54_ rfl rfl (by omega) ?_
   refine n_sub (byt a i) 48 gn rfl rfl (by have := hb (by omega); omega) (by have := byt_lt a i; simp only [topOf]; omega) ?_
   refine n_conv ((byt a i) - 48) gn rfl f48_ f41_ (by have := byt_lt a i; simp only [topOf]; omega) ?_
   refine n_add (10 * q) ((byt a i) - 48) gn rfl rfl (by have := byt_lt a i; simp only [topOf]; omega) ?_
   refine o_as (Nv ((10 * q) + ((byt a i) - 48))) rfl (aops_end (hK15 _ (awp_region rfl (o_mv (Nv i) rfl ?_))))
   refine n_add i 1 gn rfl rfl (by simp only [topOf]; omega) ?_
   refine o_as (Nv (i + 1)) rfl (aops_end ?_)
   refine ⟨_, _, ?lt, ⟨i + 1, (10 * q) + ((byt a i) - 48), (by omega), (by omega), (by rw [show i + 1 - (max (sgnAt a) (E.toNat - 9)) = (i - (max (sgnAt a) (E.toNat - 9))) + 1 by omega, dvk, ← hq0, show max (sgnAt a) (E.toNat - 9) + (i - (max (sgnAt a) (E.toNat - 9))) = i by omega]), rfl, rfl⟩, ?wk⟩
   case lt => omega
   case wk => exact Wk.sub ⟨rfl, rfl, rfl, rfl, rfl, rfl, (by first | rfl | exact nm_int (by omega)), (by first | rfl | exact nm_int (by omega)), trivial⟩ ⟨rfl, rfl, trivial⟩
  ·have hq : q = dvk a (max (sgnAt a) (E.toNat - 9)) (E.toNat - (max (sgnAt a) (E.toNat - 9))) := by rw [hq0, show i = E.toNat by omega]
   refine awp_exit ?_
   refine hK11 _ (awp_region rfl (o_mv (.row 3) rfl (o_mv (Nv q) rfl ?_)))
   refine o_buildSlice 301 (ns .i64 ([q])) [(0, [Nv q])] gn f10_ rfl f26_ rfl rfl rfl rfl rfl rfl rfl ?_
   refine n_append 302 L ([q]) [(301, .row 3 1 (ns .i64 ([q]))), (2, .var 42 [Fv, Zv])] gn f10_ f26_ rfl rfl rfl rfl rfl (by simp only [List.length_append, List.length_cons, List.length_nil]; omega) (by decide) rfl rfl ?_
   refine o_as (.row 302) rfl (aops_end (hK9 _ (awp_region rfl (o_mv (Nv E.toNat) rfl ?_))))
   refine o_sub (a := ((E.toNat : Nat) : Int)) (c := ((9 : Nat) : Int)) gn rfl rfl (by exact wrap64 (by omega) (by omega)) ?_
   refine o_as (Iv (((E.toNat : Nat) : Int) - ((9 : Nat) : Int))) rfl (aops_end ?_)
   refine ⟨_, _, ?lt, ⟨(E.toNat : Int) - 9, L ++ ([q]), (by omega), hd.snoc hq2, (by intro h; have := hl (by omega); simp only [List.length_append, List.length_cons, List.length_nil]; omega), (by have := hl (by omega); simp only [List.length_append, List.length_cons, List.length_nil]; omega), (by rw [hq]; rw [show max (sgnAt a) E.toNat = E.toNat by omega] at hv; have hh := parse_step (s := max (sgnAt a) (E.toNat - 9)) (by omega) (by omega) (hl (by omega)) hv; rw [show max (sgnAt a) ((E.toNat : Int) - 9).toNat = max (sgnAt a) (E.toNat - 9) by omega]; exact hh), rfl, rfl⟩, ?wk⟩
   case lt => omega
   case wk => exact Wk.trans (Wk.sub (σ' := ⟨[(0, Sv a), (2, .ref 2 0), (3, bp (byt a 0 = 45)), (4, Nv (sgnAt a)), (5, .row 302), (6, (Iv (((E.toNat : Nat) : Int) - ((9 : Nat) : Int))))], [(2, .var 42 [Fv, Zv]), (302, .row 3 1 (ns .i64 (L ++ ([q]))))]⟩) ⟨rfl, rfl, rfl, rfl, rfl, rfl, trivial⟩ ⟨rfl, rfl, trivial⟩) (Wk.trans (Wk.ren (id := 302) (id' := 3) rfl) (Wk.sub ⟨rfl, rfl, rfl, rfl, (by first | rfl | simp), (by first | rfl | exact int_eq (by omega) | exact int_nm (by omega)), trivial⟩ ⟨rfl, (by first | rfl | exact row_ns (by simp)), trivial⟩))
 ·refine awp_exit ?_
  refine hK5 _ (awp_seq fun K16 hK16 => awp_region rfl (o_mv (bp (byt a 0 = 45)) rfl (o_mv (.row 3) rfl ?_)))
  refine o_callG [(3, 1, ns .i64 L)] [bp (byt a 0 = 45), .sl 1 (ns .i64 L)] _ (intR (sg (decide (byt a 0 = 45)) (val L))) [(2, .var 42 [Fv, Zv])] gn f32_ rfl ⟨⟨_, rfl⟩, trivial⟩ rfl rfl (LeL.cons (AV.le_refl _) (LeL.cons (AV.le_refl _) LeL.nil)) (c_rTrim (decide (byt a 0 = 45)) L (by first | assumption | exact dgn_dig _ _ | exact digs_dig _ | exact Dig.snoc (by assumption) (by assumption) | exact Dig.cons (by omega) (digs_dig _))) rfl ?_
  refine o_store [(2, oZ 42 .i64 (sg (decide (byt a 0 = 45)) (val L)))] gn f13_ rfl rfl rfl rfl rfl rfl ?_
  refine aops_end (hK16 _ ?_)
  refine awp_ret ?_
  refine post_ret ⟨[intR (sg (decide (byt a 0 = 45)) (val L))], ⟨⟨2, oZ 42 .i64 (sg (decide (byt a 0 = 45)) (val L)), rfl, rfl, rfl, Or.inl ⟨f14_, AV.le_refl _⟩⟩, trivial⟩, rfl, ?_⟩
  refine congrArg (intK .i64) ?_
  rw [hv, show max (sgnAt a) E.toNat = sgnAt a by omega]
  rfl

end Go.Proofs.YtdmkejloknejdaaGreatDoor

namespace Go.Mth
open Go.Ab
theorem decDigits_decs (u : Nat) : Lib.decDigits u = (if u = 0 then [48] else (decs u).reverse).map UInt8.ofNat := by
 induction u using Nat.strongRecOn with
 | _ u ih =>
  rw [Lib.decDigits]
  split
  ·rename_i h
   by_cases h0 : u = 0
   ·subst h0; simp
   ·rw [if_neg h0, decs_pos (by omega), show u / 10 = 0 by omega, decs_zero, show u % 10 = u by omega]; simp
  ·rename_i h
   rw [ih (u / 10) (by omega), if_neg (by omega), if_neg (by omega), decs_pos (n := u) (by omega)]
   simp
theorem itoa_txt (x : Nat) : (⟨(Lib.itoa (x : Int)).toArray⟩ : ByteArray) = txt x := by
 unfold Lib.itoa txt txtL strN strOfNums
 rw [if_neg (by omega), Int.toNat_natCast, decDigits_decs]
 by_cases h : x = 0
 ·subst h; rfl
 ·rw [if_neg h, if_neg (by omega), if_neg (by omega)]
  simp
end Go.Mth
namespace Go.Proofs.YtdmkejloknejdaaGreatDoor
open Go Go.Ab Go.Mth
theorem c_itoa (x : Nat) (hx : x ≤ 9223372036854775807) : ECalls cx 100 [nm .i64 x] (.lit (.string (txt x))) := by
 intro H L vals w hG hH hr
 simp only [RepL, RepV, nm] at hr
 obtain ⟨v, r, rfl, rfl, rfl⟩ := hr
 refine (Tryz.strconv_Itoa (x : Int) (by omega) (by omega) w (tabIs hG hH)).mono ?_
 rintro e w' ⟨rfl, k, os, rfl⟩
 have hold : ∀ b, b < w.heap.size → (Sort.grow (w.drewN k) os).heap[b]? = w.heap[b]? := fun b hb => by
  simp only [Sort.grow, World.drewN]
  rw [Array.getElem?_append_left hb]
 refine ⟨H, _, rfl, by simp only [RepV]; rw [itoa_txt], Ext.refl _ _, fun b o hb => ?_, ⟨rfl, rfl, rfl, by simp [Sort.grow, World.drewN], hold, Nat.le_add_right _ _⟩⟩
 rw [hold b (Array.getElem?_eq_some_iff.1 (hH b o hb)).1]
 exact hH b o hb
end Go.Proofs.YtdmkejloknejdaaGreatDoor

namespace Go.Proofs.YtdmkejloknejdaaGreatDoor
open Go Go.Ab Go.Mth
theorem f55_ : callable cx.P 100 = true := by kernel_rfl
theorem f56_ : tyZ1 cx.P 5 = some (.int .u8 0) := by kernel_rfl
theorem f57_ : callable cx.P 83 = true := by kernel_rfl
theorem f58_ : callable cx.P 55 = true := by kernel_rfl
theorem c_wDigits (z : Int) (hz : (digs z.natAbs).length ≤ 1000000000) : ECalls cx 83 [intW z] (Nv (ndig z.natAbs)) := by
 refine ecalls_of_awp Tryz.func83 (c := _) rfl (Nat.le_of_ble_eq_true rfl) ?_
 show awp cx 24 _ (postF cx Tryz.f83 _) ⟨[(0, intW z)], []⟩
 refine awp_seq fun K0 hK0 => awp_region rfl ?_
 refine o_box 2 [bp (z < 0), .sl 1 (ns .u32 (digs z.natAbs))] gn rfl rfl ?_
 refine o_as (Nv 0) rfl (aops_end (hK0 _ (awp_seq fun K1 hK1 => awp_seq fun K2 hK2 => awp_region rfl ?_)))
 refine o_fieldRef 1 gn f5_ rfl rfl ?_
 refine o_loadS (.sl 1 (ns .u32 (digs z.natAbs))) gn f6_ rfl rfl rfl ?_
 refine n_len (digs z.natAbs) gn f7_ rfl ?_
 refine n_eql ((digs z.natAbs).length) 0 gn rfl rfl ?_
 refine aops_end (hK2 _ ?_)
 refine awp_condQ (q := ((digs z.natAbs).length) = 0) rfl (fun h1 => ?_) (fun h1 => ?_)
 ·refine awp_seq fun K3 hK3 => awp_region rfl (o_as (Nv 1) rfl (aops_end (hK3 _ ?_)))
  refine awp_ret ?_
  refine post_ret ⟨[Nv 1], ⟨AV.le_refl _, trivial⟩, rfl, ?_⟩
  refine congrArg (nm .i64) ?_
  unfold ndig
  rw [if_pos (digs_len_zero.1 h1)]
 ·have hn0 : 0 < z.natAbs := by rcases Nat.eq_zero_or_pos z.natAbs with e | e; exact absurd (digs_len_zero.2 e) h1; exact e
  have ht := ndig_top hn0
  have htl := (digs_dig z.natAbs).getD ((digs z.natAbs).length - 1)
  have hsz := txt_size ((digs z.natAbs).getD ((digs z.natAbs).length - 1) 0)
  have hsm := ndig_small htl
  refine awp_skip (hK1 _ (awp_seq fun K4 hK4 => awp_regionD rfl ?_))
  refine o_fieldRef 1 gn f5_ rfl rfl ?_
  refine o_loadS (.sl 1 (ns .u32 (digs z.natAbs))) gn f6_ rfl rfl rfl ?_
  refine n_len (digs z.natAbs) gn f7_ rfl ?_
  refine n_sub ((digs z.natAbs).length) 1 gn rfl rfl (by omega) (by simp only [topOf]; omega) ?_
  refine n_mul 9 (((digs z.natAbs).length) - 1) gn rfl rfl (by simp only [topOf]; omega) ?_
  refine o_fieldRef 1 gn f5_ rfl rfl ?_
  refine o_loadS (.sl 1 (ns .u32 (digs z.natAbs))) gn f6_ rfl rfl rfl ?_
  refine o_fieldRef 1 gn f5_ rfl rfl ?_
  refine o_loadS (.sl 1 (ns .u32 (digs z.natAbs))) gn f6_ rfl rfl rfl ?_
  refine n_len (digs z.natAbs) gn f7_ rfl ?_
  refine n_sub ((digs z.natAbs).length) 1 gn rfl rfl (by omega) (by simp only [topOf]; omega) ?_
  refine n_index (digs z.natAbs) (((digs z.natAbs).length) - 1) gn f16_ rfl rfl (by omega) ?_
  refine n_loadI (digs z.natAbs) (((digs z.natAbs).length) - 1) gn f17_ rfl (by omega) ?_
  refine n_conv ((digs z.natAbs).getD (((digs z.natAbs).length) - 1) 0) gn rfl f28_ f41_ (by simp only [topOf]; omega) ?_
  refine o_ct (c_itoa ((digs z.natAbs).getD (((digs z.natAbs).length) - 1) 0) (by omega)) gn f55_ rfl ?_
  refine n_lenS (txt (((digs z.natAbs).getD (((digs z.natAbs).length) - 1) 0 : Nat) : Int)) gn rfl f54_ ?_
  refine n_add (9 * (((digs z.natAbs).length) - 1)) ((txt (((digs z.natAbs).getD (((digs z.natAbs).length) - 1) 0 : Nat) : Int)).size) gn rfl rfl (by simp only [topOf]; omega) ?_
  refine o_as (Nv ((9 * (((digs z.natAbs).length) - 1)) + ((txt (((digs z.natAbs).getD (((digs z.natAbs).length) - 1) 0 : Nat) : Int)).size))) rfl ?_
  refine aops_end ⟨by kernel_rfl, ?_⟩
  refine hK4 _ ?_
  refine awp_ret ?_
  refine post_ret ⟨[(Nv ((9 * (((digs z.natAbs).length) - 1)) + ((txt (((digs z.natAbs).getD (((digs z.natAbs).length) - 1) 0 : Nat) : Int)).size)))], ⟨AV.le_refl _, trivial⟩, rfl, ?_⟩
  refine congrArg (nm .i64) ?_
  rw [hsz]
  have hp := val_drop_pos (n := z.natAbs) (j := (digs z.natAbs).length - 1) (by omega)
  rw [val_drop_succ (by omega), val_drop_all (xs := digs z.natAbs) (j := (digs z.natAbs).length - 1 + 1) (by omega)] at hp
  unfold ndig
  rw [if_neg (by omega), if_neg (by omega), ht]

theorem c_wText (z : Int) (hz : (digs z.natAbs).length ≤ 1000000000) : ECalls cx 55 [intW z] (.lit (.string (txt z))) := by
 refine ecalls_of_awp Tryz.func55 (c := _) rfl (Nat.le_of_ble_eq_true rfl) ?_
 show awp cx 54 _ (postF cx Tryz.f55 _) ⟨[(0, intW z)], []⟩
 refine awp_seq fun K0 hK0 => awp_region rfl ?_
 refine o_box 2 [bp (z < 0), .sl 1 (ns .u32 (digs z.natAbs))] gn rfl rfl ?_
 refine o_as (Sv Ev) rfl (aops_end (hK0 _ (awp_seq fun K1 hK1 => awp_seq fun K2 hK2 => awp_region rfl ?_)))
 refine o_fieldRef 1 gn f5_ rfl rfl ?_
 refine o_loadS (.sl 1 (ns .u32 (digs z.natAbs))) gn f6_ rfl rfl rfl ?_
 refine n_len (digs z.natAbs) gn f7_ rfl ?_
 refine n_eql ((digs z.natAbs).length) 0 gn rfl rfl ?_
 refine aops_end (hK2 _ ?_)
 refine awp_condQ (q := ((digs z.natAbs).length) = 0) rfl (fun h1 => ?_) (fun h1 => ?_)
 ·refine awp_seq fun K3 hK3 => awp_region rfl (o_as (Sv ({data := #[48]} : ByteArray)) rfl (aops_end (hK3 _ ?_)))
  refine awp_ret ?_
  refine post_ret ⟨[(Sv ({data := #[48]} : ByteArray))], ⟨AV.le_refl _, trivial⟩, rfl, ?_⟩
  rw [show z = 0 by have := digs_len_zero.1 h1; omega]
  rfl
 ·have hz0 : z.natAbs ≠ 0 := fun e => h1 (digs_len_zero.2 e)
  refine awp_skip (hK1 _ (awp_seq fun K4 hK4 => awp_region rfl ?_))
  refine o_buildSlice 3 (ns .u8 ([])) [] gn f49_ rfl f50_ rfl rfl rfl rfl rfl rfl rfl ?_
  refine o_as (.row 3) rfl (aops_end (hK4 _ ?_))
  refine awp_seqJ (J := fun σ => ∃ (o0 : List Nat), (o0 = (if z < 0 then [45] else [] : List Nat)) ∧ True ∧ σ = ⟨[(1, .ref 2 0), (3, .row 3)], [(2, oZ 90 .u32 z), (3, .row 5 1 (ns .u8 o0))]⟩) ?ja0 ?jb0
  case ja0 =>
   refine awp_seq fun K5 hK5 => awp_region rfl ?_
   refine o_fieldRef 0 gn f8_ rfl rfl ?_
   refine o_loadS (bp (z < 0)) gn f4_ rfl rfl rfl ?_
   refine aops_end (hK5 _ ?_)
   refine awp_condQ (q := z < 0) rfl (fun h2 => ?_) (fun h2 => ?_)
   ·refine awp_region rfl (o_mv (.row 3) rfl ?_)
    refine o_buildSlice 4 (ns .u8 ([45])) [(0, [nm .u8 45])] gn f49_ rfl f50_ rfl rfl rfl rfl rfl rfl rfl ?_
    refine n_append 5 ([]) ([45]) [(4, .row 5 1 (ns .u8 ([45]))), (2, oZ 90 .u32 z)] gn f49_ f50_ rfl rfl rfl rfl rfl (by simp) (by decide) rfl rfl ?_
    refine o_as (.row 5) rfl (aops_end ?_)
    exact ⟨_, ⟨([]) ++ ([45]), (by simp [*]), trivial, rfl⟩, Wk.trans (Wk.sub (σ' := ⟨[(1, .ref 2 0), (3, .row 5)], [(2, oZ 90 .u32 z), (5, .row 5 1 (ns .u8 (([]) ++ ([45]))))]⟩) ⟨rfl, rfl, trivial⟩ ⟨rfl, rfl, trivial⟩) (Wk.trans (Wk.ren (id := 5) (id' := 3) rfl) (Wk.sub ⟨rfl, (by first | rfl | simp), trivial⟩ ⟨rfl, (by first | rfl | exact row_ns (by simp)), trivial⟩))⟩
   ·refine awp_skip ?_
    exact ⟨_, ⟨[], (by simp [*]), trivial, rfl⟩, Wk.sub ⟨rfl, rfl, trivial⟩ ⟨rfl, (by first | rfl | exact row_ns (by simp)), trivial⟩⟩
  rintro _ ⟨o0, ho0, -, rfl⟩
  have hol : o0.length ≤ 1 := by rw [ho0]; split <;> simp
  refine awp_seq fun K6 hK6 => awp_seq fun K7 hK7 => awp_region rfl ?_
  refine o_fieldRef 1 gn f5_ rfl rfl ?_
  refine o_loadS (.sl 1 (ns .u32 (digs z.natAbs))) gn f6_ rfl rfl rfl ?_
  refine n_len (digs z.natAbs) gn f7_ rfl ?_
  refine o_sub (a := (((digs z.natAbs).length : Nat) : Int)) (c := ((1 : Nat) : Int)) gn rfl rfl (by exact wrap64 (by omega) (by omega)) ?_
  refine o_as (Iv ((((digs z.natAbs).length : Nat) : Int) - ((1 : Nat) : Int))) rfl (aops_end (hK7 _ ?_))
  refine awp_block ?_
  refine awp_loopR (fun κ σ => ∃ (j : Nat), ∃ (out : List Nat), ∃ (body : List Nat), (j ≤ (digs z.natAbs).length) ∧ (body = (decs (val ((digs z.natAbs).drop j))).reverse) ∧ (out = o0 ++ body) ∧ (out.length ≤ 1 + 9 * ((digs z.natAbs).length - j)) ∧ j = κ ∧ σ = ⟨[(1, .ref 2 0), (3, .row 3), (4, (Iv ((j : Int) - 1)))], [(2, oZ 90 .u32 z), (3, .row 5 1 (ns .u8 out))]⟩) ⟨_, _, ⟨(digs z.natAbs).length, o0, [], Nat.le_refl _, (by rw [val_drop_all (Nat.le_refl _), decs_zero]; rfl), (by simp), (by omega), rfl, rfl⟩, ?wk1⟩ ?rd1
  case wk1 =>
   exact Wk.sub ⟨rfl, rfl, (by first | rfl | exact int_eq (by omega) | exact int_nm (by omega)), trivial⟩ ⟨rfl, (by first | rfl | exact row_ns (by simp)), trivial⟩
  rintro κ _ ⟨j, out, body, hj, hb, ho, hol2, rfl, rfl⟩
  have hp := (digs_dig z.natAbs).getD (j - 1)
  have htsz := txt_size ((digs z.natAbs).getD (j - 1) 0)
  have hnd := ndig_small hp
  refine awp_seq fun K8 hK8 => awp_seq fun K9 hK9 => awp_region rfl (o_mv (Iv ((j : Int) - 1)) rfl ?_)
  refine o_geq (a := ((j : Int) - 1)) (c := ((0 : Nat) : Int)) gn rfl rfl ?_
  refine aops_end (hK9 _ ?_)
  refine awp_condQ (q := ((0 : Nat) : Int) ≤ ((j : Int) - 1)) rfl (fun h3 => ?_) (fun h3 => ?_)
  ·refine awp_wk (Wk.slot (i := 4) (y := (Nv (j - 1))) (AV.le_eq (by exact nm_int (by omega)))) ?_
   refine awp_skip (hK8 _ (awp_seq fun K10 hK10 => ?_))
   refine awp_block ?_
   refine awp_seq fun K11 hK11 => awp_region rfl ?_
   refine o_fieldRef 1 gn f5_ rfl rfl ?_
   refine o_loadS (.sl 1 (ns .u32 (digs z.natAbs))) gn f6_ rfl rfl rfl ?_
   refine o_mv (Nv (j - 1)) rfl ?_
   refine n_index (digs z.natAbs) (j - 1) gn f16_ rfl rfl (by omega) ?_
   refine n_loadI (digs z.natAbs) (j - 1) gn f17_ rfl (by omega) ?_
   refine n_conv ((digs z.natAbs).getD (j - 1) 0) gn rfl f28_ f41_ (by simp only [topOf]; omega) ?_
   refine o_ct (c_itoa ((digs z.natAbs).getD (j - 1) 0) (by omega)) gn f55_ rfl ?_
   refine o_as (Sv (txt (((digs z.natAbs).getD (j - 1) 0 : Nat) : Int))) rfl (aops_end (hK11 _ (awp_seq fun K12 hK12 => awp_seq fun K13 hK13 => awp_region rfl (o_mv (Sv (txt (((digs z.natAbs).getD (j - 1) 0 : Nat) : Int))) rfl ?_))))
   refine n_lenS (txt (((digs z.natAbs).getD (j - 1) 0 : Nat) : Int)) gn rfl f54_ ?_
   refine n_as (v' := (Nv (ndig ((digs z.natAbs).getD (j - 1) 0)))) (congrArg (nm _) (by exact htsz)) ?_
   refine o_as (Nv (ndig ((digs z.natAbs).getD (j - 1) 0))) rfl (aops_end (hK13 _ ?_))
   refine awp_block ?_
   refine awp_loopR (fun κ σ => ∃ (k : Nat), ∃ (out2 : List Nat), (ndig ((digs z.natAbs).getD (j - 1) 0) ≤ k) ∧ (k ≤ 9) ∧ (¬ j < (digs z.natAbs).length → k = ndig ((digs z.natAbs).getD (j - 1) 0)) ∧ (out2 = out ++ List.replicate (k - ndig ((digs z.natAbs).getD (j - 1) 0)) 48) ∧ (out2.length + ndig ((digs z.natAbs).getD (j - 1) 0) = out.length + k) ∧ (9 - k) = κ ∧ σ = ⟨[(1, .ref 2 0), (3, .row 3), (4, Nv (j - 1)), (5, (Sv (txt (((digs z.natAbs).getD (j - 1) 0 : Nat) : Int)))), (6, Nv k)], [(2, oZ 90 .u32 z), (3, .row 5 1 (ns .u8 out2))]⟩) ⟨_, _, ⟨ndig ((digs z.natAbs).getD (j - 1) 0), _, Nat.le_refl _, hnd, (fun _ => rfl), (by simp), rfl, rfl, rfl⟩, ?wk2⟩ ?rd2
   case wk2 =>
    exact Wk.sub ⟨rfl, rfl, rfl, (by first | rfl | simp), (by first | rfl | exact nm_int (by omega)), trivial⟩ ⟨rfl, (by first | rfl | exact row_ns (by simp)), trivial⟩
   rintro κ _ ⟨k, out2, hk9, hk10, hk0, hk, hk11, rfl, rfl⟩
   refine awp_seq fun K14 hK14 => awp_seq fun K15 hK15 => awp_region rfl (o_mv (Nv k) rfl ?_)
   refine n_lss k 9 gn rfl rfl ?_
   refine o_mv (bp (k < 9)) rfl ?_
   refine o_splitP (q := k < 9) 36 rfl (fun h4 => ?_) (fun h4 => ?_)
   ·refine o_move (Nv (j - 1)) (Gd.yes rfl rfl (decide_eq_true h4)) rfl ?_
    refine o_fieldRef 1 (Gd.yes rfl rfl (decide_eq_true h4)) f5_ rfl rfl ?_
    refine o_loadS (.sl 1 (ns .u32 (digs z.natAbs))) (Gd.yes rfl rfl (decide_eq_true h4)) f6_ rfl rfl rfl ?_
    refine n_len (digs z.natAbs) (Gd.yes rfl rfl (decide_eq_true h4)) f7_ rfl ?_
    refine n_sub ((digs z.natAbs).length) 1 (Gd.yes rfl rfl (decide_eq_true h4)) rfl rfl (by omega) (by simp only [topOf]; omega) ?_
    refine n_lss (j - 1) (((digs z.natAbs).length) - 1) (Gd.yes rfl rfl (decide_eq_true h4)) rfl rfl ?_
    refine o_pickT (bp ((j - 1) < (((digs z.natAbs).length) - 1))) gn rfl (decide_eq_true h4) rfl ?_
    refine aops_end (hK15 _ ?_)
    refine awp_condQ (q := (j - 1) < (((digs z.natAbs).length) - 1)) rfl (fun h5 => ?_) (fun h5 => ?_)
    ·refine awp_skip (hK14 _ (awp_seq fun K16 hK16 => ?_))
     refine awp_block ?_
     refine awp_region rfl (o_mv (.row 3) rfl ?_)
     refine o_buildSlice 301 (ns .u8 ([48])) [(0, [nm .u8 48])] gn f49_ rfl f50_ rfl rfl rfl rfl rfl rfl rfl ?_
     refine n_append 302 out2 ([48]) [(301, .row 5 1 (ns .u8 ([48]))), (2, oZ 90 .u32 z)] gn f49_ f50_ rfl rfl rfl rfl rfl (by simp only [List.length_append, List.length_cons, List.length_nil]; omega) (by decide) rfl rfl ?_
     refine o_as (.row 302) rfl (aops_end (hK16 _ (awp_region rfl (o_mv (Nv k) rfl ?_))))
     refine n_add k 1 gn rfl rfl (by simp only [topOf]; omega) ?_
     refine o_as (Nv (k + 1)) rfl (aops_end ?_)
     refine ⟨_, _, ?lt, ⟨k + 1, out2 ++ ([48]), (by omega), (by omega), (fun h => by omega), (by rw [hk, List.append_assoc, ← List.replicate_succ', show k - ndig ((digs z.natAbs).getD (j - 1) 0) + 1 = k + 1 - ndig ((digs z.natAbs).getD (j - 1) 0) by omega]), (by simp only [List.length_append, List.length_cons, List.length_nil]; omega), rfl, rfl⟩, ?wk⟩
     case lt => omega
     case wk => exact Wk.trans (Wk.sub (σ' := ⟨[(1, .ref 2 0), (3, .row 302), (4, Nv (j - 1)), (5, (Sv (txt (((digs z.natAbs).getD (j - 1) 0 : Nat) : Int)))), (6, Nv (k + 1))], [(2, oZ 90 .u32 z), (302, .row 5 1 (ns .u8 (out2 ++ ([48]))))]⟩) ⟨rfl, rfl, rfl, rfl, rfl, trivial⟩ ⟨rfl, rfl, trivial⟩) (Wk.trans (Wk.ren (id := 302) (id' := 3) rfl) (Wk.sub ⟨rfl, (by first | rfl | simp), rfl, rfl, (by first | rfl | exact nm_int (by omega)), trivial⟩ ⟨rfl, (by first | rfl | exact row_ns (by simp)), trivial⟩))
    ·refine awp_exit ?_
     refine hK12 _ (awp_region rfl (o_mv (.row 3) rfl (o_mv (Sv (txt (((digs z.natAbs).getD (j - 1) 0 : Nat) : Int))) rfl ?_)))
     refine n_appendS 301 out2 (txt (((digs z.natAbs).getD (j - 1) 0 : Nat) : Int)) [(2, oZ 90 .u32 z)] gn f49_ f54_ f56_ rfl rfl rfl (by rw [htsz]; omega) rfl rfl ?_
     refine o_as (.row 301) rfl (aops_end (hK10 _ (awp_region rfl (o_mv (Nv (j - 1)) rfl ?_))))
     refine o_sub (a := ((j - 1 : Nat) : Int)) (c := ((1 : Nat) : Int)) gn rfl rfl (by exact wrap64 (by omega) (by omega)) ?_
     refine o_as (Iv (((j - 1 : Nat) : Int) - ((1 : Nat) : Int))) rfl (aops_end ?_)
     have hk2 : out2 = if j < (digs z.natAbs).length then out ++ List.replicate (9 - ndig ((digs z.natAbs).getD (j - 1) 0)) 48 else out := by
      rw [hk]
      by_cases hj2 : j < (digs z.natAbs).length
      ·rw [if_pos hj2, show k = 9 by omega]
      ·rw [if_neg hj2, hk0 hj2]; simp
     refine ⟨_, _, ?lt, ⟨j - 1, out2 ++ byts (txt (((digs z.natAbs).getD (j - 1) 0 : Nat) : Int)), (if j < (digs z.natAbs).length then body ++ List.replicate (9 - ndig ((digs z.natAbs).getD (j - 1) 0)) 48 else body) ++ txtL ((digs z.natAbs).getD (j - 1) 0 : Nat), (by omega), (str_step (by omega) hj hb), (by rw [hk2, ho, byts_txt]; split <;> simp [*]), (by simp only [List.length_append, byts_len, htsz]; omega), rfl, rfl⟩, ?wk⟩
     case lt => omega
     case wk => exact Wk.trans (Wk.sub (σ' := ⟨[(1, .ref 2 0), (3, .row 301), (4, (Iv (((j - 1 : Nat) : Int) - ((1 : Nat) : Int))))], [(2, oZ 90 .u32 z), (301, (.row 5 1 (ns .u8 (out2 ++ byts (txt (((digs z.natAbs).getD (j - 1) 0 : Nat) : Int))))))]⟩) ⟨rfl, rfl, rfl, trivial⟩ ⟨rfl, rfl, trivial⟩) (Wk.trans (Wk.ren (id := 301) (id' := 3) rfl) (Wk.sub ⟨rfl, (by first | rfl | simp), (by first | rfl | exact int_eq (by omega) | exact int_nm (by omega)), trivial⟩ ⟨rfl, (by first | rfl | exact row_ns (by simp)), trivial⟩))
   ·refine o_skip rfl rfl (decide_eq_false h4) (o_skip rfl rfl (decide_eq_false h4) (o_skip rfl rfl (decide_eq_false h4) (o_skip rfl rfl (decide_eq_false h4) (o_skip rfl rfl (decide_eq_false h4) (o_skip rfl rfl (decide_eq_false h4) ?_)))))
    refine o_pickF Fv gn rfl (decide_eq_false h4) rfl ?_
    refine aops_end (hK15 _ ?_)
    refine awp_condB (b := false) rfl (fun hh => absurd (hh.symm.trans rfl) (by decide)) (fun _ => ?_)
    refine awp_exit ?_
    refine hK12 _ (awp_region rfl (o_mv (.row 3) rfl (o_mv (Sv (txt (((digs z.natAbs).getD (j - 1) 0 : Nat) : Int))) rfl ?_)))
    refine n_appendS 301 out2 (txt (((digs z.natAbs).getD (j - 1) 0 : Nat) : Int)) [(2, oZ 90 .u32 z)] gn f49_ f54_ f56_ rfl rfl rfl (by rw [htsz]; omega) rfl rfl ?_
    refine o_as (.row 301) rfl (aops_end (hK10 _ (awp_region rfl (o_mv (Nv (j - 1)) rfl ?_))))
    refine o_sub (a := ((j - 1 : Nat) : Int)) (c := ((1 : Nat) : Int)) gn rfl rfl (by exact wrap64 (by omega) (by omega)) ?_
    refine o_as (Iv (((j - 1 : Nat) : Int) - ((1 : Nat) : Int))) rfl (aops_end ?_)
    have hk2 : out2 = if j < (digs z.natAbs).length then out ++ List.replicate (9 - ndig ((digs z.natAbs).getD (j - 1) 0)) 48 else out := by
     rw [hk]
     by_cases hj2 : j < (digs z.natAbs).length
     ·rw [if_pos hj2, show k = 9 by omega]
     ·rw [if_neg hj2, hk0 hj2]; simp
    refine ⟨_, _, ?lt, ⟨j - 1, out2 ++ byts (txt (((digs z.natAbs).getD (j - 1) 0 : Nat) : Int)), (if j < (digs z.natAbs).length then body ++ List.replicate (9 - ndig ((digs z.natAbs).getD (j - 1) 0)) 48 else body) ++ txtL ((digs z.natAbs).getD (j - 1) 0 : Nat), (by omega), (str_step (by omega) hj hb), (by rw [hk2, ho, byts_txt]; split <;> simp [*]), (by simp only [List.length_append, byts_len, htsz]; omega), rfl, rfl⟩, ?wk⟩
    case lt => omega
    case wk => exact Wk.trans (Wk.sub (σ' := ⟨[(1, .ref 2 0), (3, .row 301), (4, (Iv (((j - 1 : Nat) : Int) - ((1 : Nat) : Int))))], [(2, oZ 90 .u32 z), (301, (.row 5 1 (ns .u8 (out2 ++ byts (txt (((digs z.natAbs).getD (j - 1) 0 : Nat) : Int))))))]⟩) ⟨rfl, rfl, rfl, trivial⟩ ⟨rfl, rfl, trivial⟩) (Wk.trans (Wk.ren (id := 301) (id' := 3) rfl) (Wk.sub ⟨rfl, (by first | rfl | simp), (by first | rfl | exact int_eq (by omega) | exact int_nm (by omega)), trivial⟩ ⟨rfl, (by first | rfl | exact row_ns (by simp)), trivial⟩))
  ·refine awp_exit ?_
   refine hK6 _ (awp_seq fun K17 hK17 => awp_region rfl (o_mv (.row 3) rfl ?_))
   refine n_strOf out gn f51_ f53_ f54_ rfl rfl ?_
   refine o_as (Sv (strN out)) rfl (aops_end (hK17 _ ?_))
   refine awp_ret ?_
   refine post_ret ⟨[Sv (strN out)], ⟨AV.le_refl _, trivial⟩, rfl, ?_⟩
   have hj0 : j = 0 := by omega
   subst hj0
   rw [List.drop_zero, val_digs] at hb
   refine congrArg (fun x => AV.lit (.string x)) ?_
   unfold txt txtL
   rw [if_neg (by omega), ho, ho0, hb]

theorem c_nTold (z : Int) (hz : (digs z.natAbs).length ≤ 1000000000) : ECalls cx 103 [intW z] (.tup [.lit (.string (toldS z)), nm .i64 (toldE z)]) := by
 refine ecalls_of_awp Tryz.func103 (c := _) rfl (Nat.le_of_ble_eq_true rfl) ?_
 show awp cx 9 _ (postF cx Tryz.f103 _) ⟨[(0, intW z)], []⟩
 refine awp_seq fun K0 hK0 => awp_region rfl ?_
 refine o_box 2 [bp (z < 0), .sl 1 (ns .u32 (digs z.natAbs))] gn rfl rfl ?_
 refine o_as (Sv Ev) rfl (o_as (Nv 0) rfl (aops_end (hK0 _ (awp_seq fun K1 hK1 => awp_seq fun K2 hK2 => awp_region rfl ?_))))
 refine o_loadA [bp (z < 0), .sl 1 (ns .u32 (digs z.natAbs))] gn f20_ rfl rfl rfl rfl rfl ?_
 refine o_ct (c_wDigits z (by first | omega | assumption | (simp only [Int.natAbs_neg]; omega))) gn f57_ rfl ?_
 refine n_gtr (ndig z.natAbs) 2000 gn rfl rfl ?_
 refine aops_end (hK2 _ ?_)
 refine awp_condQ (q := 2000 < (ndig z.natAbs)) rfl (fun h1 => ?_) (fun h1 => ?_)
 ·refine awp_seq fun K3 hK3 => awp_region rfl (o_as (Sv Ev) rfl (o_as (Nv 3) rfl (aops_end (hK3 _ ?_))))
  refine awp_ret ?_
  refine post_ret ⟨[Sv Ev, Nv 3], ⟨AV.le_refl _, AV.le_refl _, trivial⟩, rfl, ?_⟩
  have hF : ¬ Fit z := by unfold Fit; omega
  unfold toldS toldE
  rw [if_neg hF, if_neg hF]
  rfl
 ·refine awp_skip (hK1 _ (awp_seq fun K4 hK4 => awp_region rfl ?_))
  refine o_loadA [bp (z < 0), .sl 1 (ns .u32 (digs z.natAbs))] gn f20_ rfl rfl rfl rfl rfl ?_
  refine o_ct (c_wText z (by first | omega | assumption | (simp only [Int.natAbs_neg]; omega))) gn f58_ rfl ?_
  refine o_as (Sv (txt z)) rfl (o_as (Nv 0) rfl (aops_end (hK4 _ ?_)))
  refine awp_ret ?_
  refine post_ret ⟨[Sv (txt z), Nv 0], ⟨AV.le_refl _, AV.le_refl _, trivial⟩, rfl, ?_⟩
  have hF : Fit z := by unfold Fit; omega
  unfold toldS toldE
  rw [if_pos hF, if_pos hF]
  rfl

end Go.Proofs.YtdmkejloknejdaaGreatDoor

namespace Go.Proofs.YtdmkejloknejdaaGreatDoor
open Go Go.Ab Go.Mth
end Go.Proofs.YtdmkejloknejdaaGreatDoor

namespace Go.Proofs.YtdmkejloknejdaaGreatDoor
open Go Go.Ab Go.Mth
theorem f59_ : tyField cx.P 24 0 = some (0, 3) := by kernel_rfl
theorem f60_ : tyField cx.P 24 1 = some (1, 22) := by kernel_rfl
theorem f61_ : tyField cx.P 24 2 = some (2, 22) := by kernel_rfl
theorem f62_ : callable cx.P 70 = true := by kernel_rfl
theorem f63_ : tyAgg cx.P 24 = some 3 := by kernel_rfl
theorem f64_ : callable cx.P 69 = true := by kernel_rfl
theorem f65_ : callable cx.P 72 = true := by kernel_rfl
theorem c_gValid (m : MapM) : ECalls cx 12 [mapV m] (.lit (.bool (okM m))) := by
 refine ecalls_of_awp Tryz.func12 (c := _) rfl (Nat.le_of_ble_eq_true rfl) ?_
 show awp cx 83 _ (postF cx Tryz.f12 _) ⟨[(0, mapV m)], []⟩
 refine awp_seq fun K0 hK0 => awp_region rfl ?_
 refine o_box 2 [Iv m.mod, Lv m.mul, Lv m.add] gn rfl rfl ?_
 refine o_as Fv rfl (aops_end (hK0 _ (awp_seq fun K1 hK1 => awp_seq fun K2 hK2 => awp_region rfl ?_)))
 refine o_fieldRef 0 gn f59_ rfl rfl ?_
 refine o_loadS (Iv m.mod) gn f11_ rfl rfl rfl ?_
 refine o_lss (a := m.mod) (c := ((2 : Nat) : Int)) gn rfl rfl ?_
 refine o_mv (bp (m.mod < ((2 : Nat) : Int))) rfl ?_
 refine o_splitP (q := m.mod < ((2 : Nat) : Int)) 7 rfl (fun h1 => ?_) (fun h1 => ?_)
 ·refine o_skip rfl rfl (decide_eq_true h1) (o_skip rfl rfl (decide_eq_true h1) (o_skip rfl rfl (decide_eq_true h1) ?_))
  refine o_pickT Tv gn rfl (decide_eq_true h1) rfl ?_
  refine o_mv Tv rfl (o_skip rfl rfl rfl (o_skip rfl rfl rfl (o_skip rfl rfl rfl (o_skip rfl rfl rfl (o_skip rfl rfl rfl (o_skip rfl rfl rfl ?_))))))
  refine o_pickT Tv gn rfl rfl rfl ?_
  refine o_mv Tv rfl (o_skip rfl rfl rfl (o_skip rfl rfl rfl (o_skip rfl rfl rfl (o_skip rfl rfl rfl (o_skip rfl rfl rfl (o_skip rfl rfl rfl ?_))))))
  refine o_pickT Tv gn rfl rfl rfl ?_
  refine aops_end (hK2 _ ?_)
  refine awp_condB (b := true) rfl (fun _ => ?_) (fun hh => absurd (hh.symm.trans rfl) (by decide))
  refine awp_seq fun K3 hK3 => awp_region rfl (o_as Fv rfl (aops_end (hK3 _ ?_)))
  refine awp_ret ?_
  refine post_ret ⟨[Fv], ⟨AV.le_refl _, trivial⟩, rfl, ?_⟩
  refine bl_eq (okM_no fun h => ?_)
  obtain ⟨o1, o2, o3, o4, o5⟩ := h
  first | omega | (have := o5 r (by omega); omega)
 ·refine o_fieldRef 0 (Gd.yes rfl rfl (decide_eq_false h1)) f59_ rfl rfl ?_
  refine o_loadS (Iv m.mod) (Gd.yes rfl rfl (decide_eq_false h1)) f11_ rfl rfl rfl ?_
  refine o_gtr (a := m.mod) (c := ((12 : Nat) : Int)) (Gd.yes rfl rfl (decide_eq_false h1)) rfl rfl ?_
  refine o_pickF (bp (((12 : Nat) : Int) < m.mod)) gn rfl (decide_eq_false h1) rfl ?_
  refine o_mv (bp (((12 : Nat) : Int) < m.mod)) rfl ?_
  refine o_splitP (q := ((12 : Nat) : Int) < m.mod) 12 rfl (fun h2 => ?_) (fun h2 => ?_)
  ·refine o_skip rfl rfl (decide_eq_true h2) (o_skip rfl rfl (decide_eq_true h2) (o_skip rfl rfl (decide_eq_true h2) (o_skip rfl rfl (decide_eq_true h2) (o_skip rfl rfl (decide_eq_true h2) (o_skip rfl rfl (decide_eq_true h2) ?_)))))
   refine o_pickT Tv gn rfl (decide_eq_true h2) rfl ?_
   refine o_mv Tv rfl (o_skip rfl rfl rfl (o_skip rfl rfl rfl (o_skip rfl rfl rfl (o_skip rfl rfl rfl (o_skip rfl rfl rfl (o_skip rfl rfl rfl ?_))))))
   refine o_pickT Tv gn rfl rfl rfl ?_
   refine aops_end (hK2 _ ?_)
   refine awp_condB (b := true) rfl (fun _ => ?_) (fun hh => absurd (hh.symm.trans rfl) (by decide))
   refine awp_seq fun K4 hK4 => awp_region rfl (o_as Fv rfl (aops_end (hK4 _ ?_)))
   refine awp_ret ?_
   refine post_ret ⟨[Fv], ⟨AV.le_refl _, trivial⟩, rfl, ?_⟩
   refine bl_eq (okM_no fun h => ?_)
   obtain ⟨o1, o2, o3, o4, o5⟩ := h
   first | omega | (have := o5 r (by omega); omega)
  ·refine o_fieldRef 1 (Gd.yes rfl rfl (decide_eq_false h2)) f60_ rfl rfl ?_
   refine o_loadS (Lv m.mul) (Gd.yes rfl rfl (decide_eq_false h2)) f1_ rfl rfl rfl ?_
   refine i_len m.mul (Gd.yes rfl rfl (decide_eq_false h2)) f2_ rfl ?_
   refine o_fieldRef 0 (Gd.yes rfl rfl (decide_eq_false h2)) f59_ rfl rfl ?_
   refine o_loadS (Iv m.mod) (Gd.yes rfl rfl (decide_eq_false h2)) f11_ rfl rfl rfl ?_
   refine o_neq (a := (((m.mul).length : Nat) : Int)) (c := m.mod) (Gd.yes rfl rfl (decide_eq_false h2)) rfl rfl ?_
   refine o_pickF (bp ((((m.mul).length : Nat) : Int) ≠ m.mod)) gn rfl (decide_eq_false h2) rfl ?_
   refine o_mv (bp ((((m.mul).length : Nat) : Int) ≠ m.mod)) rfl ?_
   refine o_splitP (q := (((m.mul).length : Nat) : Int) ≠ m.mod) 20 rfl (fun h3 => ?_) (fun h3 => ?_)
   ·refine o_skip rfl rfl (decide_eq_true h3) (o_skip rfl rfl (decide_eq_true h3) (o_skip rfl rfl (decide_eq_true h3) (o_skip rfl rfl (decide_eq_true h3) (o_skip rfl rfl (decide_eq_true h3) (o_skip rfl rfl (decide_eq_true h3) ?_)))))
    refine o_pickT Tv gn rfl (decide_eq_true h3) rfl ?_
    refine aops_end (hK2 _ ?_)
    refine awp_condB (b := true) rfl (fun _ => ?_) (fun hh => absurd (hh.symm.trans rfl) (by decide))
    refine awp_seq fun K5 hK5 => awp_region rfl (o_as Fv rfl (aops_end (hK5 _ ?_)))
    refine awp_ret ?_
    refine post_ret ⟨[Fv], ⟨AV.le_refl _, trivial⟩, rfl, ?_⟩
    refine bl_eq (okM_no fun h => ?_)
    obtain ⟨o1, o2, o3, o4, o5⟩ := h
    first | omega | (have := o5 r (by omega); omega)
   ·refine o_fieldRef 2 (Gd.yes rfl rfl (decide_eq_false h3)) f61_ rfl rfl ?_
    refine o_loadS (Lv m.add) (Gd.yes rfl rfl (decide_eq_false h3)) f1_ rfl rfl rfl ?_
    refine i_len m.add (Gd.yes rfl rfl (decide_eq_false h3)) f2_ rfl ?_
    refine o_fieldRef 0 (Gd.yes rfl rfl (decide_eq_false h3)) f59_ rfl rfl ?_
    refine o_loadS (Iv m.mod) (Gd.yes rfl rfl (decide_eq_false h3)) f11_ rfl rfl rfl ?_
    refine o_neq (a := (((m.add).length : Nat) : Int)) (c := m.mod) (Gd.yes rfl rfl (decide_eq_false h3)) rfl rfl ?_
    refine o_pickF (bp ((((m.add).length : Nat) : Int) ≠ m.mod)) gn rfl (decide_eq_false h3) rfl ?_
    refine aops_end (hK2 _ ?_)
    refine awp_condQ (q := (((m.add).length : Nat) : Int) ≠ m.mod) rfl (fun h4 => ?_) (fun h4 => ?_)
    ·refine awp_seq fun K6 hK6 => awp_region rfl (o_as Fv rfl (aops_end (hK6 _ ?_)))
     refine awp_ret ?_
     refine post_ret ⟨[Fv], ⟨AV.le_refl _, trivial⟩, rfl, ?_⟩
     refine bl_eq (okM_no fun h => ?_)
     obtain ⟨o1, o2, o3, o4, o5⟩ := h
     first | omega | (have := o5 r (by omega); omega)
    ·refine awp_skip (hK1 _ (awp_seq fun K7 hK7 => awp_seq fun K8 hK8 => awp_region rfl (o_as (Nv 0) rfl (aops_end (hK8 _ ?_)))))
     refine awp_block ?_
     refine awp_loopR (fun κ σ => ∃ (r : Nat), ((r : Int) ≤ m.mod) ∧ (∀ i : Nat, i < r → 1 ≤ m.mul.getD i 0 ∧ m.mul.getD i 0 ≤ 999 ∧ -999999 ≤ m.add.getD i 0 ∧ m.add.getD i 0 ≤ 999999 ∧ Int.tmod (m.mul.getD i 0 * i + m.add.getD i 0) m.mod = 0) ∧ (m.mod.toNat - r) = κ ∧ σ = ⟨[(1, .ref 2 0), (3, Nv r)], [(2, oM 24 m)]⟩) ⟨_, _, ⟨0, (by omega), (fun i hi => by omega), rfl, rfl⟩, ?wk0⟩ ?rd0
     case wk0 =>
      exact Wk.sub ⟨rfl, (by first | rfl | exact nm_int (by omega)), trivial⟩ ⟨rfl, trivial⟩
     rintro κ _ ⟨r, hr, hv, rfl, rfl⟩
     refine awp_seq fun K9 hK9 => awp_seq fun K10 hK10 => awp_region rfl (o_mv (Nv r) rfl ?_)
     refine o_fieldRef 0 gn f59_ rfl rfl ?_
     refine o_loadS (Iv m.mod) gn f11_ rfl rfl rfl ?_
     refine o_lss (a := ((r : Nat) : Int)) (c := m.mod) gn rfl rfl ?_
     refine aops_end (hK10 _ ?_)
     refine awp_condQ (q := ((r : Nat) : Int) < m.mod) rfl (fun h5 => ?_) (fun h5 => ?_)
     ·refine awp_skip (hK9 _ (awp_seq fun K11 hK11 => ?_))
      refine awp_block ?_
      refine awp_seq fun K12 hK12 => awp_regionD rfl ?_
      refine o_fieldRef 1 gn f60_ rfl rfl ?_
      refine o_loadS (Lv m.mul) gn f1_ rfl rfl rfl ?_
      refine o_mv (Nv r) rfl ?_
      refine i_index m.mul r gn f10_ rfl rfl (by omega) ?_
      refine i_loadI m.mul r gn f11_ rfl (by omega) ?_
      refine o_lss (a := ((m.mul).getD r 0)) (c := ((1 : Nat) : Int)) gn rfl rfl ?_
      refine o_mv (bp (((m.mul).getD r 0) < ((1 : Nat) : Int))) rfl ?_
      refine o_splitP (q := ((m.mul).getD r 0) < ((1 : Nat) : Int)) 40 rfl (fun h6 => ?_) (fun h6 => ?_)
      ·refine o_skip rfl rfl (decide_eq_true h6) (o_skip rfl rfl (decide_eq_true h6) (o_skip rfl rfl (decide_eq_true h6) (o_skip rfl rfl (decide_eq_true h6) (o_skip rfl rfl (decide_eq_true h6) (o_skip rfl rfl (decide_eq_true h6) ?_)))))
       refine o_pickT Tv gn rfl (decide_eq_true h6) rfl ?_
       refine o_mv Tv rfl (o_skip rfl rfl rfl (o_skip rfl rfl rfl (o_skip rfl rfl rfl (o_skip rfl rfl rfl (o_skip rfl rfl rfl (o_skip rfl rfl rfl ?_))))))
       refine o_pickT Tv gn rfl rfl rfl ?_
       refine o_mv Tv rfl (o_skip rfl rfl rfl (o_skip rfl rfl rfl (o_skip rfl rfl rfl (o_skip rfl rfl rfl (o_skip rfl rfl rfl (o_skip rfl rfl rfl ?_))))))
       refine o_pickT Tv gn rfl rfl rfl ?_
       refine o_mv Tv rfl (o_skip rfl rfl rfl (o_skip rfl rfl rfl (o_skip rfl rfl rfl (o_skip rfl rfl rfl (o_skip rfl rfl rfl (o_skip rfl rfl rfl (o_skip rfl rfl rfl (o_skip rfl rfl rfl (o_skip rfl rfl rfl (o_skip rfl rfl rfl (o_skip rfl rfl rfl ?_)))))))))))
       refine o_skip rfl rfl rfl (o_skip rfl rfl rfl (o_skip rfl rfl rfl (o_skip rfl rfl rfl (o_skip rfl rfl rfl (o_skip rfl rfl rfl ?_)))))
       refine o_pickT Tv gn rfl rfl rfl ?_
       refine aops_end ⟨by kernel_rfl, ?_⟩
       refine hK12 _ ?_
       refine awp_condB (b := true) rfl (fun _ => ?_) (fun hh => absurd (hh.symm.trans rfl) (by decide))
       refine awp_seq fun K13 hK13 => awp_region rfl (o_as Fv rfl (aops_end (hK13 _ ?_)))
       refine awp_ret ?_
       refine post_ret ⟨[Fv], ⟨AV.le_refl _, trivial⟩, rfl, ?_⟩
       refine bl_eq (okM_no fun h => ?_)
       obtain ⟨o1, o2, o3, o4, o5⟩ := h
       first | omega | (have := o5 r (by omega); omega)
      ·refine o_fieldRef 1 (Gd.yes rfl rfl (decide_eq_false h6)) f60_ rfl rfl ?_
       refine o_loadS (Lv m.mul) (Gd.yes rfl rfl (decide_eq_false h6)) f1_ rfl rfl rfl ?_
       refine o_move (Nv r) (Gd.yes rfl rfl (decide_eq_false h6)) rfl ?_
       refine i_index m.mul r (Gd.yes rfl rfl (decide_eq_false h6)) f10_ rfl rfl (by omega) ?_
       refine i_loadI m.mul r (Gd.yes rfl rfl (decide_eq_false h6)) f11_ rfl (by omega) ?_
       refine o_gtr (a := ((m.mul).getD r 0)) (c := ((999 : Nat) : Int)) (Gd.yes rfl rfl (decide_eq_false h6)) rfl rfl ?_
       refine o_pickF (bp (((999 : Nat) : Int) < ((m.mul).getD r 0))) gn rfl (decide_eq_false h6) rfl ?_
       refine o_mv (bp (((999 : Nat) : Int) < ((m.mul).getD r 0))) rfl ?_
       refine o_splitP (q := ((999 : Nat) : Int) < ((m.mul).getD r 0)) 48 rfl (fun h7 => ?_) (fun h7 => ?_)
       ·refine o_skip rfl rfl (decide_eq_true h7) (o_skip rfl rfl (decide_eq_true h7) (o_skip rfl rfl (decide_eq_true h7) (o_skip rfl rfl (decide_eq_true h7) (o_skip rfl rfl (decide_eq_true h7) (o_skip rfl rfl (decide_eq_true h7) ?_)))))
        refine o_pickT Tv gn rfl (decide_eq_true h7) rfl ?_
        refine o_mv Tv rfl (o_skip rfl rfl rfl (o_skip rfl rfl rfl (o_skip rfl rfl rfl (o_skip rfl rfl rfl (o_skip rfl rfl rfl (o_skip rfl rfl rfl ?_))))))
        refine o_pickT Tv gn rfl rfl rfl ?_
        refine o_mv Tv rfl (o_skip rfl rfl rfl (o_skip rfl rfl rfl (o_skip rfl rfl rfl (o_skip rfl rfl rfl (o_skip rfl rfl rfl (o_skip rfl rfl rfl (o_skip rfl rfl rfl (o_skip rfl rfl rfl (o_skip rfl rfl rfl (o_skip rfl rfl rfl (o_skip rfl rfl rfl ?_)))))))))))
        refine o_skip rfl rfl rfl (o_skip rfl rfl rfl (o_skip rfl rfl rfl (o_skip rfl rfl rfl (o_skip rfl rfl rfl (o_skip rfl rfl rfl ?_)))))
        refine o_pickT Tv gn rfl rfl rfl ?_
        refine aops_end ⟨by kernel_rfl, ?_⟩
        refine hK12 _ ?_
        refine awp_condB (b := true) rfl (fun _ => ?_) (fun hh => absurd (hh.symm.trans rfl) (by decide))
        refine awp_seq fun K14 hK14 => awp_region rfl (o_as Fv rfl (aops_end (hK14 _ ?_)))
        refine awp_ret ?_
        refine post_ret ⟨[Fv], ⟨AV.le_refl _, trivial⟩, rfl, ?_⟩
        refine bl_eq (okM_no fun h => ?_)
        obtain ⟨o1, o2, o3, o4, o5⟩ := h
        first | omega | (have := o5 r (by omega); omega)
       ·refine o_fieldRef 2 (Gd.yes rfl rfl (decide_eq_false h7)) f61_ rfl rfl ?_
        refine o_loadS (Lv m.add) (Gd.yes rfl rfl (decide_eq_false h7)) f1_ rfl rfl rfl ?_
        refine o_move (Nv r) (Gd.yes rfl rfl (decide_eq_false h7)) rfl ?_
        refine i_index m.add r (Gd.yes rfl rfl (decide_eq_false h7)) f10_ rfl rfl (by omega) ?_
        refine i_loadI m.add r (Gd.yes rfl rfl (decide_eq_false h7)) f11_ rfl (by omega) ?_
        refine o_lss (a := ((m.add).getD r 0)) (c := (-999999)) (Gd.yes rfl rfl (decide_eq_false h7)) rfl rfl ?_
        refine o_pickF (bp (((m.add).getD r 0) < (-999999))) gn rfl (decide_eq_false h7) rfl ?_
        refine o_mv (bp (((m.add).getD r 0) < (-999999))) rfl ?_
        refine o_splitP (q := ((m.add).getD r 0) < (-999999)) 56 rfl (fun h8 => ?_) (fun h8 => ?_)
        ·refine o_skip rfl rfl (decide_eq_true h8) (o_skip rfl rfl (decide_eq_true h8) (o_skip rfl rfl (decide_eq_true h8) (o_skip rfl rfl (decide_eq_true h8) (o_skip rfl rfl (decide_eq_true h8) (o_skip rfl rfl (decide_eq_true h8) ?_)))))
         refine o_pickT Tv gn rfl (decide_eq_true h8) rfl ?_
         refine o_mv Tv rfl (o_skip rfl rfl rfl (o_skip rfl rfl rfl (o_skip rfl rfl rfl (o_skip rfl rfl rfl (o_skip rfl rfl rfl (o_skip rfl rfl rfl (o_skip rfl rfl rfl (o_skip rfl rfl rfl (o_skip rfl rfl rfl (o_skip rfl rfl rfl (o_skip rfl rfl rfl ?_)))))))))))
         refine o_skip rfl rfl rfl (o_skip rfl rfl rfl (o_skip rfl rfl rfl (o_skip rfl rfl rfl (o_skip rfl rfl rfl (o_skip rfl rfl rfl ?_)))))
         refine o_pickT Tv gn rfl rfl rfl ?_
         refine aops_end ⟨by kernel_rfl, ?_⟩
         refine hK12 _ ?_
         refine awp_condB (b := true) rfl (fun _ => ?_) (fun hh => absurd (hh.symm.trans rfl) (by decide))
         refine awp_seq fun K15 hK15 => awp_region rfl (o_as Fv rfl (aops_end (hK15 _ ?_)))
         refine awp_ret ?_
         refine post_ret ⟨[Fv], ⟨AV.le_refl _, trivial⟩, rfl, ?_⟩
         refine bl_eq (okM_no fun h => ?_)
         obtain ⟨o1, o2, o3, o4, o5⟩ := h
         first | omega | (have := o5 r (by omega); omega)
        ·refine o_fieldRef 2 (Gd.yes rfl rfl (decide_eq_false h8)) f61_ rfl rfl ?_
         refine o_loadS (Lv m.add) (Gd.yes rfl rfl (decide_eq_false h8)) f1_ rfl rfl rfl ?_
         refine o_move (Nv r) (Gd.yes rfl rfl (decide_eq_false h8)) rfl ?_
         refine i_index m.add r (Gd.yes rfl rfl (decide_eq_false h8)) f10_ rfl rfl (by omega) ?_
         refine i_loadI m.add r (Gd.yes rfl rfl (decide_eq_false h8)) f11_ rfl (by omega) ?_
         refine o_gtr (a := ((m.add).getD r 0)) (c := ((999999 : Nat) : Int)) (Gd.yes rfl rfl (decide_eq_false h8)) rfl rfl ?_
         refine o_pickF (bp (((999999 : Nat) : Int) < ((m.add).getD r 0))) gn rfl (decide_eq_false h8) rfl ?_
         refine o_mv (bp (((999999 : Nat) : Int) < ((m.add).getD r 0))) rfl ?_
         refine o_splitP (q := ((999999 : Nat) : Int) < ((m.add).getD r 0)) 64 rfl (fun h9 => ?_) (fun h9 => ?_)
         ·refine o_skip rfl rfl (decide_eq_true h9) (o_skip rfl rfl (decide_eq_true h9) (o_skip rfl rfl (decide_eq_true h9) (o_skip rfl rfl (decide_eq_true h9) (o_skip rfl rfl (decide_eq_true h9) (o_skip rfl rfl (decide_eq_true h9) (o_skip rfl rfl (decide_eq_true h9) (o_skip rfl rfl (decide_eq_true h9) (o_skip rfl rfl (decide_eq_true h9) (o_skip rfl rfl (decide_eq_true h9) (o_skip rfl rfl (decide_eq_true h9) (o_skip rfl rfl (decide_eq_true h9) ?_)))))))))))
          refine o_skip rfl rfl (decide_eq_true h9) (o_skip rfl rfl (decide_eq_true h9) (o_skip rfl rfl (decide_eq_true h9) (o_skip rfl rfl (decide_eq_true h9) (o_skip rfl rfl (decide_eq_true h9) ?_))))
          refine o_pickT Tv gn rfl (decide_eq_true h9) rfl ?_
          refine aops_end ⟨by kernel_rfl, ?_⟩
          refine hK12 _ ?_
          refine awp_condB (b := true) rfl (fun _ => ?_) (fun hh => absurd (hh.symm.trans rfl) (by decide))
          refine awp_seq fun K16 hK16 => awp_region rfl (o_as Fv rfl (aops_end (hK16 _ ?_)))
          refine awp_ret ?_
          refine post_ret ⟨[Fv], ⟨AV.le_refl _, trivial⟩, rfl, ?_⟩
          refine bl_eq (okM_no fun h => ?_)
          obtain ⟨o1, o2, o3, o4, o5⟩ := h
          first | omega | (have := o5 r (by omega); omega)
         ·refine o_fieldRef 1 (Gd.yes rfl rfl (decide_eq_false h9)) f60_ rfl rfl ?_
          refine o_loadS (Lv m.mul) (Gd.yes rfl rfl (decide_eq_false h9)) f1_ rfl rfl rfl ?_
          refine o_move (Nv r) (Gd.yes rfl rfl (decide_eq_false h9)) rfl ?_
          refine i_index m.mul r (Gd.yes rfl rfl (decide_eq_false h9)) f10_ rfl rfl (by omega) ?_
          refine i_loadI m.mul r (Gd.yes rfl rfl (decide_eq_false h9)) f11_ rfl (by omega) ?_
          refine o_move (Nv r) (Gd.yes rfl rfl (decide_eq_false h9)) rfl ?_
          refine o_mul (a := ((m.mul).getD r 0)) (c := ((r : Nat) : Int)) (Gd.yes rfl rfl (decide_eq_false h9)) rfl rfl (by have hm := mulb (a := (m.mul).getD r 0) (r := (r : Int)) (by omega) (by omega) (by omega) (by omega); exact wrap64 (by omega) (by omega)) ?_
          refine o_fieldRef 2 (Gd.yes rfl rfl (decide_eq_false h9)) f61_ rfl rfl ?_
          refine o_loadS (Lv m.add) (Gd.yes rfl rfl (decide_eq_false h9)) f1_ rfl rfl rfl ?_
          refine o_move (Nv r) (Gd.yes rfl rfl (decide_eq_false h9)) rfl ?_
          refine i_index m.add r (Gd.yes rfl rfl (decide_eq_false h9)) f10_ rfl rfl (by omega) ?_
          refine i_loadI m.add r (Gd.yes rfl rfl (decide_eq_false h9)) f11_ rfl (by omega) ?_
          refine o_add (a := (((m.mul).getD r 0) * ((r : Nat) : Int))) (c := ((m.add).getD r 0)) (Gd.yes rfl rfl (decide_eq_false h9)) rfl rfl (by have hm := mulb (a := (m.mul).getD r 0) (r := (r : Int)) (by omega) (by omega) (by omega) (by omega); exact wrap64 (by omega) (by omega)) ?_
          refine o_fieldRef 0 (Gd.yes rfl rfl (decide_eq_false h9)) f59_ rfl rfl ?_
          refine o_loadS (Iv m.mod) (Gd.yes rfl rfl (decide_eq_false h9)) f11_ rfl rfl rfl ?_
          refine o_remT (a := ((((m.mul).getD r 0) * ((r : Nat) : Int)) + ((m.add).getD r 0))) (c := m.mod) (Gd.yes rfl rfl (decide_eq_false h9)) rfl rfl (by omega) ?_
          refine o_neq (a := (Int.tmod ((((m.mul).getD r 0) * ((r : Nat) : Int)) + ((m.add).getD r 0)) m.mod)) (c := ((0 : Nat) : Int)) (Gd.yes rfl rfl (decide_eq_false h9)) rfl rfl ?_
          refine o_pickF (bp ((Int.tmod ((((m.mul).getD r 0) * ((r : Nat) : Int)) + ((m.add).getD r 0)) m.mod) ≠ ((0 : Nat) : Int))) gn rfl (decide_eq_false h9) rfl ?_
          refine aops_end ⟨by kernel_rfl, ?_⟩
          refine hK12 _ ?_
          refine awp_condQ (q := (Int.tmod ((((m.mul).getD r 0) * ((r : Nat) : Int)) + ((m.add).getD r 0)) m.mod) ≠ ((0 : Nat) : Int)) rfl (fun h10 => ?_) (fun h10 => ?_)
          ·refine awp_seq fun K17 hK17 => awp_region rfl (o_as Fv rfl (aops_end (hK17 _ ?_)))
           refine awp_ret ?_
           refine post_ret ⟨[Fv], ⟨AV.le_refl _, trivial⟩, rfl, ?_⟩
           refine bl_eq (okM_no fun h => ?_)
           obtain ⟨o1, o2, o3, o4, o5⟩ := h
           first | omega | (have := o5 r (by omega); omega)
          ·refine awp_skip (hK11 _ (awp_region rfl (o_mv (Nv r) rfl ?_)))
           refine n_add r 1 gn rfl rfl (by simp only [topOf]; omega) ?_
           refine o_as (Nv (r + 1)) rfl (aops_end ?_)
           refine ⟨_, _, ?lt, ⟨r + 1, (by omega), (fun i hi => by by_cases e : i = r; subst e; exact ⟨by omega, by omega, by omega, by omega, by omega⟩; exact hv i (by omega)), rfl, rfl⟩, ?wk⟩
           case lt => omega
           case wk => exact Wk.sub ⟨rfl, (by first | rfl | exact nm_int (by omega)), trivial⟩ ⟨rfl, trivial⟩
     ·refine awp_exit ?_
      refine hK7 _ (awp_seq fun K18 hK18 => awp_region rfl (o_as Tv rfl (aops_end (hK18 _ ?_))))
      refine awp_ret ?_
      refine post_ret ⟨[Tv], ⟨AV.le_refl _, trivial⟩, rfl, ?_⟩
      refine bl_eq (okM_yes ⟨by omega, by omega, by omega, by omega, fun i hi => hv i (by omega)⟩)

theorem c_gRest (m : MapM) (z : Int) (hm : OkM m) (hz : (digs z.natAbs).length ≤ 1000000) : ECalls cx 69 [mapV m, intR z] (.lit (.int .i64 (z % m.mod))) := by
 refine ecalls_of_awp Tryz.func69 (c := _) rfl (Nat.le_of_ble_eq_true rfl) ?_
 show awp cx 15 _ (postF cx Tryz.f69 _) ⟨[(0, mapV m), (1, intR z)], []⟩
 have hM := hm
 obtain ⟨o1, o2, o3, o4, o5⟩ := hm
 have hr0 := Int.emod_nonneg z (b := m.mod) (by omega)
 have hr1 := Int.emod_lt_of_pos z (b := m.mod) (by omega)
 have hr := o5 (z % m.mod).toNat (by omega)
 refine awp_seq fun K0 hK0 => awp_region rfl ?_
 refine o_box 2 [Iv m.mod, Lv m.mul, Lv m.add] gn rfl rfl ?_
 refine o_box 3 [bp (z < 0), .sl 1 (ns .i64 (digs z.natAbs))] gn rfl rfl ?_
 refine o_as (Nv 0) rfl (aops_end (hK0 _ (awp_seq fun K1 hK1 => awp_region rfl ?_)))
 refine o_loadA [bp (z < 0), .sl 1 (ns .i64 (digs z.natAbs))] gn f14_ rfl rfl rfl rfl rfl ?_
 refine o_fieldRef 0 gn f59_ rfl rfl ?_
 refine o_loadS (Iv m.mod) gn f11_ rfl rfl rfl ?_
 refine n_as (v' := (Nv m.mod.toNat)) (nm_int (by omega)) ?_
 refine o_ct (c_rQR z m.mod.toNat (by omega) (by omega) (by first | omega | assumption | (simp only [Int.natAbs_neg]; omega))) gn f62_ rfl ?_
 refine o_mv (.tup [(intR (z / ((m.mod.toNat : Nat) : Int))), (Iv (z % ((m.mod.toNat : Nat) : Int)))]) rfl (o_extract (intR (z / ((m.mod.toNat : Nat) : Int))) gn rfl rfl (o_extract (Iv (z % ((m.mod.toNat : Nat) : Int))) gn rfl rfl ?_))
 refine o_alloc 4 [Fv, Zv] gn f9_ rfl rfl rfl ?_
 refine o_store [(4, (oZ 42 .i64 (z / ((m.mod.toNat : Nat) : Int)))), (3, oZ 42 .i64 z), (2, oM 24 m)] gn f13_ rfl rfl rfl rfl rfl rfl ?_
 refine o_as (Iv (z % ((m.mod.toNat : Nat) : Int))) rfl (aops_end (hK1 _ (awp_seq fun K2 hK2 => awp_region rfl (o_mv (Iv (z % ((m.mod.toNat : Nat) : Int))) rfl (o_as (Iv (z % ((m.mod.toNat : Nat) : Int))) rfl (aops_end (hK2 _ ?_)))))))
 refine awp_ret ?_
 refine post_ret ⟨[(Iv (z % ((m.mod.toNat : Nat) : Int)))], ⟨AV.le_refl _, trivial⟩, rfl, ?_⟩
 exact int_eq (by rw [Int.toNat_of_nonneg (by omega)])

theorem c_gStep (m : MapM) (z : Int) (hm : OkM m) (hz : (digs z.natAbs).length ≤ 1000000) : ECalls cx 27 [mapV m, intR z] (intR (stepZ m z)) := by
 refine ecalls_of_awp Tryz.func27 (c := _) rfl (Nat.le_of_ble_eq_true rfl) ?_
 show awp cx 33 _ (postF cx Tryz.f27 _) ⟨[(0, mapV m), (1, intR z)], []⟩
 have hM := hm
 obtain ⟨o1, o2, o3, o4, o5⟩ := hm
 have hr0 := Int.emod_nonneg z (b := m.mod) (by omega)
 have hr1 := Int.emod_lt_of_pos z (b := m.mod) (by omega)
 have hr := o5 (z % m.mod).toNat (by omega)
 have hL1 := small_len (z := ((m.mul).getD ((z % m.mod).toNat) 0)) (by omega)
 have hL2 := small_len (z := ((m.add).getD ((z % m.mod).toNat) 0)) (by omega)
 have hL3 := len_mulZ ((m.mul).getD ((z % m.mod).toNat) 0) z
 have hL4 := len_addZ (((m.mul).getD ((z % m.mod).toNat) 0) * z) ((m.add).getD ((z % m.mod).toNat) 0)
 refine awp_seq fun K0 hK0 => awp_region rfl ?_
 refine o_box 2 [Iv m.mod, Lv m.mul, Lv m.add] gn rfl rfl ?_
 refine o_box 3 [bp (z < 0), .sl 1 (ns .i64 (digs z.natAbs))] gn rfl rfl ?_
 refine o_alloc 4 [Fv, Zv] gn f9_ rfl rfl rfl ?_
 refine aops_end (hK0 _ (awp_seq fun K1 hK1 => awp_region rfl ?_))
 refine o_loadA [Iv m.mod, Lv m.mul, Lv m.add] gn f63_ rfl rfl rfl rfl rfl ?_
 refine o_loadA [bp (z < 0), .sl 1 (ns .i64 (digs z.natAbs))] gn f14_ rfl rfl rfl rfl rfl ?_
 refine o_ct (c_gRest m z (by first | assumption | exact okM_iff.1 (by assumption)) (by first | omega | assumption | (simp only [Int.natAbs_neg]; omega))) gn f64_ rfl ?_
 refine o_as (Iv (z % m.mod)) rfl (aops_end (hK1 _ (awp_seq fun K2 hK2 => awp_regionD rfl ?_)))
 refine o_fieldRef 1 gn f60_ rfl rfl ?_
 refine o_loadS (Lv m.mul) gn f1_ rfl rfl rfl ?_
 refine o_mv (Iv (z % m.mod)) rfl ?_
 refine n_as (v' := (Nv ((z % m.mod).toNat))) (nm_int (by omega)) ?_
 refine i_index m.mul ((z % m.mod).toNat) gn f10_ rfl rfl (by omega) ?_
 refine i_loadI m.mul ((z % m.mod).toNat) gn f11_ rfl (by omega) ?_
 refine o_ct (c_rOf ((m.mul).getD ((z % m.mod).toNat) 0) (by first | decide | omega) (by first | decide | omega)) gn f45_ rfl ?_
 refine o_loadA [bp (z < 0), .sl 1 (ns .i64 (digs z.natAbs))] gn f14_ rfl rfl rfl rfl rfl ?_
 refine o_ct (c_rMul ((m.mul).getD ((z % m.mod).toNat) 0) z (by first | omega | assumption | (simp only [Int.natAbs_neg]; omega)) (by first | omega | assumption | (simp only [Int.natAbs_neg]; omega))) gn f65_ rfl ?_
 refine o_fieldRef 2 gn f61_ rfl rfl ?_
 refine o_loadS (Lv m.add) gn f1_ rfl rfl rfl ?_
 refine o_mv (Iv (z % m.mod)) rfl ?_
 refine n_as (v' := (Nv ((z % m.mod).toNat))) (nm_int (by omega)) ?_
 refine i_index m.add ((z % m.mod).toNat) gn f10_ rfl rfl (by omega) ?_
 refine i_loadI m.add ((z % m.mod).toNat) gn f11_ rfl (by omega) ?_
 refine o_ct (c_rOf ((m.add).getD ((z % m.mod).toNat) 0) (by first | decide | omega) (by first | decide | omega)) gn f45_ rfl ?_
 refine o_ct (c_rAdd ((m.mul).getD ((z % m.mod).toNat) 0 * z) ((m.add).getD ((z % m.mod).toNat) 0) (by first | omega | assumption | (simp only [Int.natAbs_neg]; omega)) (by first | omega | assumption | (simp only [Int.natAbs_neg]; omega))) gn f38_ rfl ?_
 refine o_fieldRef 0 gn f59_ rfl rfl ?_
 refine o_loadS (Iv m.mod) gn f11_ rfl rfl rfl ?_
 refine n_as (v' := (Nv m.mod.toNat)) (nm_int (by omega)) ?_
 refine o_ct (c_rQR (((m.mul).getD ((z % m.mod).toNat) 0 * z) + (m.add).getD ((z % m.mod).toNat) 0) m.mod.toNat (by omega) (by omega) (by first | omega | assumption | (simp only [Int.natAbs_neg]; omega))) gn f62_ rfl ?_
 refine o_mv (.tup [(intR ((((m.mul).getD ((z % m.mod).toNat) 0 * z) + (m.add).getD ((z % m.mod).toNat) 0) / ((m.mod.toNat : Nat) : Int))), (Iv ((((m.mul).getD ((z % m.mod).toNat) 0 * z) + (m.add).getD ((z % m.mod).toNat) 0) % ((m.mod.toNat : Nat) : Int)))]) rfl (o_extract (intR ((((m.mul).getD ((z % m.mod).toNat) 0 * z) + (m.add).getD ((z % m.mod).toNat) 0) / ((m.mod.toNat : Nat) : Int))) gn rfl rfl (o_extract (Iv ((((m.mul).getD ((z % m.mod).toNat) 0 * z) + (m.add).getD ((z % m.mod).toNat) 0) % ((m.mod.toNat : Nat) : Int))) gn rfl rfl ?_))
 refine o_alloc 5 [Fv, Zv] gn f9_ rfl rfl rfl ?_
 refine o_store [(5, (oZ 42 .i64 ((((m.mul).getD ((z % m.mod).toNat) 0 * z) + (m.add).getD ((z % m.mod).toNat) 0) / ((m.mod.toNat : Nat) : Int)))), (4, .var 42 [Fv, Zv]), (3, oZ 42 .i64 z), (2, oM 24 m)] gn f13_ rfl rfl rfl rfl rfl rfl ?_
 refine o_as (Iv ((((m.mul).getD ((z % m.mod).toNat) 0 * z) + (m.add).getD ((z % m.mod).toNat) 0) % ((m.mod.toNat : Nat) : Int))) rfl ?_
 refine aops_end ⟨by kernel_rfl, ?_⟩
 refine hK2 _ (awp_seq fun K3 hK3 => awp_region rfl ?_)
 refine o_loadA [(bp (((((m.mul).getD ((z % m.mod).toNat) 0 * z) + (m.add).getD ((z % m.mod).toNat) 0) / ((m.mod.toNat : Nat) : Int)) < 0)), (.sl 1 (ns .i64 (digs ((((m.mul).getD ((z % m.mod).toNat) 0 * z) + (m.add).getD ((z % m.mod).toNat) 0) / ((m.mod.toNat : Nat) : Int)).natAbs)))] gn f14_ rfl rfl rfl rfl rfl ?_
 refine o_store [(5, (oZ 42 .i64 ((((m.mul).getD ((z % m.mod).toNat) 0 * z) + (m.add).getD ((z % m.mod).toNat) 0) / ((m.mod.toNat : Nat) : Int)))), (4, (oZ 42 .i64 ((((m.mul).getD ((z % m.mod).toNat) 0 * z) + (m.add).getD ((z % m.mod).toNat) 0) / ((m.mod.toNat : Nat) : Int)))), (3, oZ 42 .i64 z), (2, oM 24 m)] gn f13_ rfl rfl rfl rfl rfl rfl ?_
 refine aops_end (hK3 _ ?_)
 refine awp_ret ?_
 refine post_ret ⟨[(intR ((((m.mul).getD ((z % m.mod).toNat) 0 * z) + (m.add).getD ((z % m.mod).toNat) 0) / ((m.mod.toNat : Nat) : Int)))], ⟨⟨4, (oZ 42 .i64 ((((m.mul).getD ((z % m.mod).toNat) 0 * z) + (m.add).getD ((z % m.mod).toNat) 0) / ((m.mod.toNat : Nat) : Int))), rfl, rfl, rfl, Or.inl ⟨f14_, AV.le_refl _⟩⟩, trivial⟩, rfl, ?_⟩
 refine congrArg (intK .i64) ?_
 unfold stepZ
 rw [Int.toNat_of_nonneg (a := m.mod) (by omega)]

end Go.Proofs.YtdmkejloknejdaaGreatDoor

namespace Go.Proofs.YtdmkejloknejdaaGreatDoor
open Go Go.Ab Go.Mth
theorem f66_ : callable cx.P 120 = true := by kernel_rfl
theorem f67_ : callable cx.P 107 = true := by kernel_rfl
theorem c_sValid (m : MapM) : ECalls cx 45 [mapV m] (.lit (.bool (okM m))) := by
 refine ecalls_of_awp Tryz.func45 (c := _) rfl (Nat.le_of_ble_eq_true rfl) ?_
 show awp cx 83 _ (postF cx Tryz.f45 _) ⟨[(0, mapV m)], []⟩
 refine awp_seq fun K0 hK0 => awp_region rfl ?_
 refine o_box 2 [Iv m.mod, Lv m.mul, Lv m.add] gn rfl rfl ?_
 refine o_as Fv rfl (aops_end (hK0 _ (awp_seq fun K1 hK1 => awp_seq fun K2 hK2 => awp_region rfl ?_)))
 refine o_fieldRef 0 gn f59_ rfl rfl ?_
 refine o_loadS (Iv m.mod) gn f11_ rfl rfl rfl ?_
 refine o_lss (a := m.mod) (c := ((2 : Nat) : Int)) gn rfl rfl ?_
 refine o_mv (bp (m.mod < ((2 : Nat) : Int))) rfl ?_
 refine o_splitP (q := m.mod < ((2 : Nat) : Int)) 7 rfl (fun h1 => ?_) (fun h1 => ?_)
 ·refine o_skip rfl rfl (decide_eq_true h1) (o_skip rfl rfl (decide_eq_true h1) (o_skip rfl rfl (decide_eq_true h1) ?_))
  refine o_pickT Tv gn rfl (decide_eq_true h1) rfl ?_
  refine o_mv Tv rfl (o_skip rfl rfl rfl (o_skip rfl rfl rfl (o_skip rfl rfl rfl (o_skip rfl rfl rfl (o_skip rfl rfl rfl (o_skip rfl rfl rfl ?_))))))
  refine o_pickT Tv gn rfl rfl rfl ?_
  refine o_mv Tv rfl (o_skip rfl rfl rfl (o_skip rfl rfl rfl (o_skip rfl rfl rfl (o_skip rfl rfl rfl (o_skip rfl rfl rfl (o_skip rfl rfl rfl ?_))))))
  refine o_pickT Tv gn rfl rfl rfl ?_
  refine aops_end (hK2 _ ?_)
  refine awp_condB (b := true) rfl (fun _ => ?_) (fun hh => absurd (hh.symm.trans rfl) (by decide))
  refine awp_seq fun K3 hK3 => awp_region rfl (o_as Fv rfl (aops_end (hK3 _ ?_)))
  refine awp_ret ?_
  refine post_ret ⟨[Fv], ⟨AV.le_refl _, trivial⟩, rfl, ?_⟩
  refine bl_eq (okM_no fun h => ?_)
  obtain ⟨o1, o2, o3, o4, o5⟩ := h
  first | omega | (have := o5 r (by omega); omega)
 ·refine o_fieldRef 0 (Gd.yes rfl rfl (decide_eq_false h1)) f59_ rfl rfl ?_
  refine o_loadS (Iv m.mod) (Gd.yes rfl rfl (decide_eq_false h1)) f11_ rfl rfl rfl ?_
  refine o_gtr (a := m.mod) (c := ((12 : Nat) : Int)) (Gd.yes rfl rfl (decide_eq_false h1)) rfl rfl ?_
  refine o_pickF (bp (((12 : Nat) : Int) < m.mod)) gn rfl (decide_eq_false h1) rfl ?_
  refine o_mv (bp (((12 : Nat) : Int) < m.mod)) rfl ?_
  refine o_splitP (q := ((12 : Nat) : Int) < m.mod) 12 rfl (fun h2 => ?_) (fun h2 => ?_)
  ·refine o_skip rfl rfl (decide_eq_true h2) (o_skip rfl rfl (decide_eq_true h2) (o_skip rfl rfl (decide_eq_true h2) (o_skip rfl rfl (decide_eq_true h2) (o_skip rfl rfl (decide_eq_true h2) (o_skip rfl rfl (decide_eq_true h2) ?_)))))
   refine o_pickT Tv gn rfl (decide_eq_true h2) rfl ?_
   refine o_mv Tv rfl (o_skip rfl rfl rfl (o_skip rfl rfl rfl (o_skip rfl rfl rfl (o_skip rfl rfl rfl (o_skip rfl rfl rfl (o_skip rfl rfl rfl ?_))))))
   refine o_pickT Tv gn rfl rfl rfl ?_
   refine aops_end (hK2 _ ?_)
   refine awp_condB (b := true) rfl (fun _ => ?_) (fun hh => absurd (hh.symm.trans rfl) (by decide))
   refine awp_seq fun K4 hK4 => awp_region rfl (o_as Fv rfl (aops_end (hK4 _ ?_)))
   refine awp_ret ?_
   refine post_ret ⟨[Fv], ⟨AV.le_refl _, trivial⟩, rfl, ?_⟩
   refine bl_eq (okM_no fun h => ?_)
   obtain ⟨o1, o2, o3, o4, o5⟩ := h
   first | omega | (have := o5 r (by omega); omega)
  ·refine o_fieldRef 1 (Gd.yes rfl rfl (decide_eq_false h2)) f60_ rfl rfl ?_
   refine o_loadS (Lv m.mul) (Gd.yes rfl rfl (decide_eq_false h2)) f1_ rfl rfl rfl ?_
   refine i_len m.mul (Gd.yes rfl rfl (decide_eq_false h2)) f2_ rfl ?_
   refine o_fieldRef 0 (Gd.yes rfl rfl (decide_eq_false h2)) f59_ rfl rfl ?_
   refine o_loadS (Iv m.mod) (Gd.yes rfl rfl (decide_eq_false h2)) f11_ rfl rfl rfl ?_
   refine o_neq (a := (((m.mul).length : Nat) : Int)) (c := m.mod) (Gd.yes rfl rfl (decide_eq_false h2)) rfl rfl ?_
   refine o_pickF (bp ((((m.mul).length : Nat) : Int) ≠ m.mod)) gn rfl (decide_eq_false h2) rfl ?_
   refine o_mv (bp ((((m.mul).length : Nat) : Int) ≠ m.mod)) rfl ?_
   refine o_splitP (q := (((m.mul).length : Nat) : Int) ≠ m.mod) 20 rfl (fun h3 => ?_) (fun h3 => ?_)
   ·refine o_skip rfl rfl (decide_eq_true h3) (o_skip rfl rfl (decide_eq_true h3) (o_skip rfl rfl (decide_eq_true h3) (o_skip rfl rfl (decide_eq_true h3) (o_skip rfl rfl (decide_eq_true h3) (o_skip rfl rfl (decide_eq_true h3) ?_)))))
    refine o_pickT Tv gn rfl (decide_eq_true h3) rfl ?_
    refine aops_end (hK2 _ ?_)
    refine awp_condB (b := true) rfl (fun _ => ?_) (fun hh => absurd (hh.symm.trans rfl) (by decide))
    refine awp_seq fun K5 hK5 => awp_region rfl (o_as Fv rfl (aops_end (hK5 _ ?_)))
    refine awp_ret ?_
    refine post_ret ⟨[Fv], ⟨AV.le_refl _, trivial⟩, rfl, ?_⟩
    refine bl_eq (okM_no fun h => ?_)
    obtain ⟨o1, o2, o3, o4, o5⟩ := h
    first | omega | (have := o5 r (by omega); omega)
   ·refine o_fieldRef 2 (Gd.yes rfl rfl (decide_eq_false h3)) f61_ rfl rfl ?_
    refine o_loadS (Lv m.add) (Gd.yes rfl rfl (decide_eq_false h3)) f1_ rfl rfl rfl ?_
    refine i_len m.add (Gd.yes rfl rfl (decide_eq_false h3)) f2_ rfl ?_
    refine o_fieldRef 0 (Gd.yes rfl rfl (decide_eq_false h3)) f59_ rfl rfl ?_
    refine o_loadS (Iv m.mod) (Gd.yes rfl rfl (decide_eq_false h3)) f11_ rfl rfl rfl ?_
    refine o_neq (a := (((m.add).length : Nat) : Int)) (c := m.mod) (Gd.yes rfl rfl (decide_eq_false h3)) rfl rfl ?_
    refine o_pickF (bp ((((m.add).length : Nat) : Int) ≠ m.mod)) gn rfl (decide_eq_false h3) rfl ?_
    refine aops_end (hK2 _ ?_)
    refine awp_condQ (q := (((m.add).length : Nat) : Int) ≠ m.mod) rfl (fun h4 => ?_) (fun h4 => ?_)
    ·refine awp_seq fun K6 hK6 => awp_region rfl (o_as Fv rfl (aops_end (hK6 _ ?_)))
     refine awp_ret ?_
     refine post_ret ⟨[Fv], ⟨AV.le_refl _, trivial⟩, rfl, ?_⟩
     refine bl_eq (okM_no fun h => ?_)
     obtain ⟨o1, o2, o3, o4, o5⟩ := h
     first | omega | (have := o5 r (by omega); omega)
    ·refine awp_skip (hK1 _ (awp_seq fun K7 hK7 => awp_seq fun K8 hK8 => awp_region rfl ?_))
     refine o_fieldRef 0 gn f59_ rfl rfl ?_
     refine o_loadS (Iv m.mod) gn f11_ rfl rfl rfl ?_
     refine o_mv (Nv 0) rfl (aops_end (hK8 _ ?_))
     refine awp_block ?_
     refine awp_loopR (fun κ σ => ∃ (r : Nat), ((r : Int) ≤ m.mod) ∧ (∀ i : Nat, i < r → 1 ≤ m.mul.getD i 0 ∧ m.mul.getD i 0 ≤ 999 ∧ -999999 ≤ m.add.getD i 0 ∧ m.add.getD i 0 ≤ 999999 ∧ Int.tmod (m.mul.getD i 0 * i + m.add.getD i 0) m.mod = 0) ∧ (m.mod.toNat - r) = κ ∧ σ = ⟨[(1, .ref 2 0), (29, Iv m.mod), (30, Nv r)], [(2, oM 24 m)]⟩) ⟨_, _, ⟨0, (by omega), (fun i hi => by omega), rfl, rfl⟩, ?wk0⟩ ?rd0
     case wk0 =>
      exact Wk.sub ⟨rfl, rfl, (by first | rfl | exact nm_int (by omega)), trivial⟩ ⟨rfl, trivial⟩
     rintro κ _ ⟨r, hr, hv, rfl, rfl⟩
     refine awp_seq fun K9 hK9 => awp_region rfl ?_
     refine o_lss (a := ((r : Nat) : Int)) (c := m.mod) gn rfl rfl ?_
     refine aops_end (hK9 _ (awp_seq fun K10 hK10 => ?_))
     refine awp_condQ (q := ((r : Nat) : Int) < m.mod) rfl (fun h5 => ?_) (fun h5 => ?_)
     ·refine awp_skip (hK10 _ (awp_seq fun K11 hK11 => ?_))
      refine awp_block ?_
      refine awp_seq fun K12 hK12 => awp_region rfl (o_mv (Nv r) rfl (o_as (Nv r) rfl (aops_end (hK12 _ (awp_seq fun K13 hK13 => awp_regionD rfl ?_)))))
      refine o_fieldRef 1 gn f60_ rfl rfl ?_
      refine o_loadS (Lv m.mul) gn f1_ rfl rfl rfl ?_
      refine o_mv (Nv r) rfl ?_
      refine i_index m.mul r gn f10_ rfl rfl (by omega) ?_
      refine i_loadI m.mul r gn f11_ rfl (by omega) ?_
      refine o_lss (a := ((m.mul).getD r 0)) (c := ((1 : Nat) : Int)) gn rfl rfl ?_
      refine o_mv (bp (((m.mul).getD r 0) < ((1 : Nat) : Int))) rfl ?_
      refine o_splitP (q := ((m.mul).getD r 0) < ((1 : Nat) : Int)) 39 rfl (fun h6 => ?_) (fun h6 => ?_)
      ·refine o_skip rfl rfl (decide_eq_true h6) (o_skip rfl rfl (decide_eq_true h6) (o_skip rfl rfl (decide_eq_true h6) (o_skip rfl rfl (decide_eq_true h6) (o_skip rfl rfl (decide_eq_true h6) (o_skip rfl rfl (decide_eq_true h6) ?_)))))
       refine o_pickT Tv gn rfl (decide_eq_true h6) rfl ?_
       refine o_mv Tv rfl (o_skip rfl rfl rfl (o_skip rfl rfl rfl (o_skip rfl rfl rfl (o_skip rfl rfl rfl (o_skip rfl rfl rfl (o_skip rfl rfl rfl ?_))))))
       refine o_pickT Tv gn rfl rfl rfl ?_
       refine o_mv Tv rfl (o_skip rfl rfl rfl (o_skip rfl rfl rfl (o_skip rfl rfl rfl (o_skip rfl rfl rfl (o_skip rfl rfl rfl (o_skip rfl rfl rfl ?_))))))
       refine o_pickT Tv gn rfl rfl rfl ?_
       refine o_mv Tv rfl (o_skip rfl rfl rfl (o_skip rfl rfl rfl (o_skip rfl rfl rfl (o_skip rfl rfl rfl (o_skip rfl rfl rfl (o_skip rfl rfl rfl (o_skip rfl rfl rfl (o_skip rfl rfl rfl (o_skip rfl rfl rfl (o_skip rfl rfl rfl (o_skip rfl rfl rfl ?_)))))))))))
       refine o_skip rfl rfl rfl (o_skip rfl rfl rfl (o_skip rfl rfl rfl (o_skip rfl rfl rfl (o_skip rfl rfl rfl (o_skip rfl rfl rfl ?_)))))
       refine o_pickT Tv gn rfl rfl rfl ?_
       refine aops_end ⟨by kernel_rfl, ?_⟩
       refine hK13 _ ?_
       refine awp_condB (b := true) rfl (fun _ => ?_) (fun hh => absurd (hh.symm.trans rfl) (by decide))
       refine awp_seq fun K14 hK14 => awp_region rfl (o_as Fv rfl (aops_end (hK14 _ ?_)))
       refine awp_ret ?_
       refine post_ret ⟨[Fv], ⟨AV.le_refl _, trivial⟩, rfl, ?_⟩
       refine bl_eq (okM_no fun h => ?_)
       obtain ⟨o1, o2, o3, o4, o5⟩ := h
       first | omega | (have := o5 r (by omega); omega)
      ·refine o_fieldRef 1 (Gd.yes rfl rfl (decide_eq_false h6)) f60_ rfl rfl ?_
       refine o_loadS (Lv m.mul) (Gd.yes rfl rfl (decide_eq_false h6)) f1_ rfl rfl rfl ?_
       refine o_move (Nv r) (Gd.yes rfl rfl (decide_eq_false h6)) rfl ?_
       refine i_index m.mul r (Gd.yes rfl rfl (decide_eq_false h6)) f10_ rfl rfl (by omega) ?_
       refine i_loadI m.mul r (Gd.yes rfl rfl (decide_eq_false h6)) f11_ rfl (by omega) ?_
       refine o_gtr (a := ((m.mul).getD r 0)) (c := ((999 : Nat) : Int)) (Gd.yes rfl rfl (decide_eq_false h6)) rfl rfl ?_
       refine o_pickF (bp (((999 : Nat) : Int) < ((m.mul).getD r 0))) gn rfl (decide_eq_false h6) rfl ?_
       refine o_mv (bp (((999 : Nat) : Int) < ((m.mul).getD r 0))) rfl ?_
       refine o_splitP (q := ((999 : Nat) : Int) < ((m.mul).getD r 0)) 47 rfl (fun h7 => ?_) (fun h7 => ?_)
       ·refine o_skip rfl rfl (decide_eq_true h7) (o_skip rfl rfl (decide_eq_true h7) (o_skip rfl rfl (decide_eq_true h7) (o_skip rfl rfl (decide_eq_true h7) (o_skip rfl rfl (decide_eq_true h7) (o_skip rfl rfl (decide_eq_true h7) ?_)))))
        refine o_pickT Tv gn rfl (decide_eq_true h7) rfl ?_
        refine o_mv Tv rfl (o_skip rfl rfl rfl (o_skip rfl rfl rfl (o_skip rfl rfl rfl (o_skip rfl rfl rfl (o_skip rfl rfl rfl (o_skip rfl rfl rfl ?_))))))
        refine o_pickT Tv gn rfl rfl rfl ?_
        refine o_mv Tv rfl (o_skip rfl rfl rfl (o_skip rfl rfl rfl (o_skip rfl rfl rfl (o_skip rfl rfl rfl (o_skip rfl rfl rfl (o_skip rfl rfl rfl (o_skip rfl rfl rfl (o_skip rfl rfl rfl (o_skip rfl rfl rfl (o_skip rfl rfl rfl (o_skip rfl rfl rfl ?_)))))))))))
        refine o_skip rfl rfl rfl (o_skip rfl rfl rfl (o_skip rfl rfl rfl (o_skip rfl rfl rfl (o_skip rfl rfl rfl (o_skip rfl rfl rfl ?_)))))
        refine o_pickT Tv gn rfl rfl rfl ?_
        refine aops_end ⟨by kernel_rfl, ?_⟩
        refine hK13 _ ?_
        refine awp_condB (b := true) rfl (fun _ => ?_) (fun hh => absurd (hh.symm.trans rfl) (by decide))
        refine awp_seq fun K15 hK15 => awp_region rfl (o_as Fv rfl (aops_end (hK15 _ ?_)))
        refine awp_ret ?_
        refine post_ret ⟨[Fv], ⟨AV.le_refl _, trivial⟩, rfl, ?_⟩
        refine bl_eq (okM_no fun h => ?_)
        obtain ⟨o1, o2, o3, o4, o5⟩ := h
        first | omega | (have := o5 r (by omega); omega)
       ·refine o_fieldRef 2 (Gd.yes rfl rfl (decide_eq_false h7)) f61_ rfl rfl ?_
        refine o_loadS (Lv m.add) (Gd.yes rfl rfl (decide_eq_false h7)) f1_ rfl rfl rfl ?_
        refine o_move (Nv r) (Gd.yes rfl rfl (decide_eq_false h7)) rfl ?_
        refine i_index m.add r (Gd.yes rfl rfl (decide_eq_false h7)) f10_ rfl rfl (by omega) ?_
        refine i_loadI m.add r (Gd.yes rfl rfl (decide_eq_false h7)) f11_ rfl (by omega) ?_
        refine o_lss (a := ((m.add).getD r 0)) (c := (-999999)) (Gd.yes rfl rfl (decide_eq_false h7)) rfl rfl ?_
        refine o_pickF (bp (((m.add).getD r 0) < (-999999))) gn rfl (decide_eq_false h7) rfl ?_
        refine o_mv (bp (((m.add).getD r 0) < (-999999))) rfl ?_
        refine o_splitP (q := ((m.add).getD r 0) < (-999999)) 55 rfl (fun h8 => ?_) (fun h8 => ?_)
        ·refine o_skip rfl rfl (decide_eq_true h8) (o_skip rfl rfl (decide_eq_true h8) (o_skip rfl rfl (decide_eq_true h8) (o_skip rfl rfl (decide_eq_true h8) (o_skip rfl rfl (decide_eq_true h8) (o_skip rfl rfl (decide_eq_true h8) ?_)))))
         refine o_pickT Tv gn rfl (decide_eq_true h8) rfl ?_
         refine o_mv Tv rfl (o_skip rfl rfl rfl (o_skip rfl rfl rfl (o_skip rfl rfl rfl (o_skip rfl rfl rfl (o_skip rfl rfl rfl (o_skip rfl rfl rfl (o_skip rfl rfl rfl (o_skip rfl rfl rfl (o_skip rfl rfl rfl (o_skip rfl rfl rfl (o_skip rfl rfl rfl ?_)))))))))))
         refine o_skip rfl rfl rfl (o_skip rfl rfl rfl (o_skip rfl rfl rfl (o_skip rfl rfl rfl (o_skip rfl rfl rfl (o_skip rfl rfl rfl ?_)))))
         refine o_pickT Tv gn rfl rfl rfl ?_
         refine aops_end ⟨by kernel_rfl, ?_⟩
         refine hK13 _ ?_
         refine awp_condB (b := true) rfl (fun _ => ?_) (fun hh => absurd (hh.symm.trans rfl) (by decide))
         refine awp_seq fun K16 hK16 => awp_region rfl (o_as Fv rfl (aops_end (hK16 _ ?_)))
         refine awp_ret ?_
         refine post_ret ⟨[Fv], ⟨AV.le_refl _, trivial⟩, rfl, ?_⟩
         refine bl_eq (okM_no fun h => ?_)
         obtain ⟨o1, o2, o3, o4, o5⟩ := h
         first | omega | (have := o5 r (by omega); omega)
        ·refine o_fieldRef 2 (Gd.yes rfl rfl (decide_eq_false h8)) f61_ rfl rfl ?_
         refine o_loadS (Lv m.add) (Gd.yes rfl rfl (decide_eq_false h8)) f1_ rfl rfl rfl ?_
         refine o_move (Nv r) (Gd.yes rfl rfl (decide_eq_false h8)) rfl ?_
         refine i_index m.add r (Gd.yes rfl rfl (decide_eq_false h8)) f10_ rfl rfl (by omega) ?_
         refine i_loadI m.add r (Gd.yes rfl rfl (decide_eq_false h8)) f11_ rfl (by omega) ?_
         refine o_gtr (a := ((m.add).getD r 0)) (c := ((999999 : Nat) : Int)) (Gd.yes rfl rfl (decide_eq_false h8)) rfl rfl ?_
         refine o_pickF (bp (((999999 : Nat) : Int) < ((m.add).getD r 0))) gn rfl (decide_eq_false h8) rfl ?_
         refine o_mv (bp (((999999 : Nat) : Int) < ((m.add).getD r 0))) rfl ?_
         refine o_splitP (q := ((999999 : Nat) : Int) < ((m.add).getD r 0)) 63 rfl (fun h9 => ?_) (fun h9 => ?_)
         ·refine o_skip rfl rfl (decide_eq_true h9) (o_skip rfl rfl (decide_eq_true h9) (o_skip rfl rfl (decide_eq_true h9) (o_skip rfl rfl (decide_eq_true h9) (o_skip rfl rfl (decide_eq_true h9) (o_skip rfl rfl (decide_eq_true h9) (o_skip rfl rfl (decide_eq_true h9) (o_skip rfl rfl (decide_eq_true h9) (o_skip rfl rfl (decide_eq_true h9) (o_skip rfl rfl (decide_eq_true h9) (o_skip rfl rfl (decide_eq_true h9) (o_skip rfl rfl (decide_eq_true h9) ?_)))))))))))
          refine o_skip rfl rfl (decide_eq_true h9) (o_skip rfl rfl (decide_eq_true h9) (o_skip rfl rfl (decide_eq_true h9) (o_skip rfl rfl (decide_eq_true h9) (o_skip rfl rfl (decide_eq_true h9) ?_))))
          refine o_pickT Tv gn rfl (decide_eq_true h9) rfl ?_
          refine aops_end ⟨by kernel_rfl, ?_⟩
          refine hK13 _ ?_
          refine awp_condB (b := true) rfl (fun _ => ?_) (fun hh => absurd (hh.symm.trans rfl) (by decide))
          refine awp_seq fun K17 hK17 => awp_region rfl (o_as Fv rfl (aops_end (hK17 _ ?_)))
          refine awp_ret ?_
          refine post_ret ⟨[Fv], ⟨AV.le_refl _, trivial⟩, rfl, ?_⟩
          refine bl_eq (okM_no fun h => ?_)
          obtain ⟨o1, o2, o3, o4, o5⟩ := h
          first | omega | (have := o5 r (by omega); omega)
         ·refine o_fieldRef 1 (Gd.yes rfl rfl (decide_eq_false h9)) f60_ rfl rfl ?_
          refine o_loadS (Lv m.mul) (Gd.yes rfl rfl (decide_eq_false h9)) f1_ rfl rfl rfl ?_
          refine o_move (Nv r) (Gd.yes rfl rfl (decide_eq_false h9)) rfl ?_
          refine i_index m.mul r (Gd.yes rfl rfl (decide_eq_false h9)) f10_ rfl rfl (by omega) ?_
          refine i_loadI m.mul r (Gd.yes rfl rfl (decide_eq_false h9)) f11_ rfl (by omega) ?_
          refine o_move (Nv r) (Gd.yes rfl rfl (decide_eq_false h9)) rfl ?_
          refine o_mul (a := ((m.mul).getD r 0)) (c := ((r : Nat) : Int)) (Gd.yes rfl rfl (decide_eq_false h9)) rfl rfl (by have hm := mulb (a := (m.mul).getD r 0) (r := (r : Int)) (by omega) (by omega) (by omega) (by omega); exact wrap64 (by omega) (by omega)) ?_
          refine o_fieldRef 2 (Gd.yes rfl rfl (decide_eq_false h9)) f61_ rfl rfl ?_
          refine o_loadS (Lv m.add) (Gd.yes rfl rfl (decide_eq_false h9)) f1_ rfl rfl rfl ?_
          refine o_move (Nv r) (Gd.yes rfl rfl (decide_eq_false h9)) rfl ?_
          refine i_index m.add r (Gd.yes rfl rfl (decide_eq_false h9)) f10_ rfl rfl (by omega) ?_
          refine i_loadI m.add r (Gd.yes rfl rfl (decide_eq_false h9)) f11_ rfl (by omega) ?_
          refine o_add (a := (((m.mul).getD r 0) * ((r : Nat) : Int))) (c := ((m.add).getD r 0)) (Gd.yes rfl rfl (decide_eq_false h9)) rfl rfl (by have hm := mulb (a := (m.mul).getD r 0) (r := (r : Int)) (by omega) (by omega) (by omega) (by omega); exact wrap64 (by omega) (by omega)) ?_
          refine o_fieldRef 0 (Gd.yes rfl rfl (decide_eq_false h9)) f59_ rfl rfl ?_
          refine o_loadS (Iv m.mod) (Gd.yes rfl rfl (decide_eq_false h9)) f11_ rfl rfl rfl ?_
          refine o_remT (a := ((((m.mul).getD r 0) * ((r : Nat) : Int)) + ((m.add).getD r 0))) (c := m.mod) (Gd.yes rfl rfl (decide_eq_false h9)) rfl rfl (by omega) ?_
          refine o_neq (a := (Int.tmod ((((m.mul).getD r 0) * ((r : Nat) : Int)) + ((m.add).getD r 0)) m.mod)) (c := ((0 : Nat) : Int)) (Gd.yes rfl rfl (decide_eq_false h9)) rfl rfl ?_
          refine o_pickF (bp ((Int.tmod ((((m.mul).getD r 0) * ((r : Nat) : Int)) + ((m.add).getD r 0)) m.mod) ≠ ((0 : Nat) : Int))) gn rfl (decide_eq_false h9) rfl ?_
          refine aops_end ⟨by kernel_rfl, ?_⟩
          refine hK13 _ ?_
          refine awp_condQ (q := (Int.tmod ((((m.mul).getD r 0) * ((r : Nat) : Int)) + ((m.add).getD r 0)) m.mod) ≠ ((0 : Nat) : Int)) rfl (fun h10 => ?_) (fun h10 => ?_)
          ·refine awp_seq fun K18 hK18 => awp_region rfl (o_as Fv rfl (aops_end (hK18 _ ?_)))
           refine awp_ret ?_
           refine post_ret ⟨[Fv], ⟨AV.le_refl _, trivial⟩, rfl, ?_⟩
           refine bl_eq (okM_no fun h => ?_)
           obtain ⟨o1, o2, o3, o4, o5⟩ := h
           first | omega | (have := o5 r (by omega); omega)
          ·refine awp_skip (hK11 _ (awp_region rfl ?_))
           refine n_add r 1 gn rfl rfl (by simp only [topOf]; omega) ?_
           refine o_mv (Nv (r + 1)) rfl (aops_end ?_)
           refine ⟨_, _, ?lt, ⟨r + 1, (by omega), (fun i hi => by by_cases e : i = r; subst e; exact ⟨by omega, by omega, by omega, by omega, by omega⟩; exact hv i (by omega)), rfl, rfl⟩, ?wk⟩
           case lt => omega
           case wk => exact Wk.sub ⟨rfl, rfl, (by first | rfl | exact nm_int (by omega)), trivial⟩ ⟨rfl, trivial⟩
     ·refine awp_exit ?_
      refine hK7 _ (awp_seq fun K19 hK19 => awp_region rfl (o_as Tv rfl (aops_end (hK19 _ ?_))))
      refine awp_ret ?_
      refine post_ret ⟨[Tv], ⟨AV.le_refl _, trivial⟩, rfl, ?_⟩
      refine bl_eq (okM_yes ⟨by omega, by omega, by omega, by omega, fun i hi => hv i (by omega)⟩)

theorem c_sNext (m : MapM) (z : Int) (hm : OkM m) (hz : (digs z.natAbs).length ≤ 1000000) : ECalls cx 96 [mapV m, intW z] (.tup [intW (stepZ m z), .lit (.int .i64 (z % m.mod))]) := by
 refine ecalls_of_awp Tryz.func96 (c := _) rfl (Nat.le_of_ble_eq_true rfl) ?_
 show awp cx 40 _ (postF cx Tryz.f96 _) ⟨[(0, mapV m), (1, intW z)], []⟩
 have hM := hm
 obtain ⟨o1, o2, o3, o4, o5⟩ := hm
 have hr0 := Int.emod_nonneg z (b := m.mod) (by omega)
 have hr1 := Int.emod_lt_of_pos z (b := m.mod) (by omega)
 have hr := o5 (z % m.mod).toNat (by omega)
 have hL1 := small_len (z := ((m.mul).getD ((z % m.mod).toNat) 0)) (by omega)
 have hL2 := small_len (z := ((m.add).getD ((z % m.mod).toNat) 0)) (by omega)
 have hL3 := len_mulZ z ((m.mul).getD ((z % m.mod).toNat) 0)
 have hL4 := len_addZ (z * ((m.mul).getD ((z % m.mod).toNat) 0)) ((m.add).getD ((z % m.mod).toNat) 0)
 have hmd : ((m.mod.toNat : Nat) : Int) = m.mod := Int.toNat_of_nonneg (by omega)
 refine awp_seq fun K0 hK0 => awp_region rfl ?_
 refine o_box 2 [Iv m.mod, Lv m.mul, Lv m.add] gn rfl rfl ?_
 refine o_box 3 [bp (z < 0), .sl 1 (ns .u32 (digs z.natAbs))] gn rfl rfl ?_
 refine o_alloc 4 [Fv, Zv] gn f15_ rfl rfl rfl ?_
 refine o_as (Nv 0) rfl (aops_end (hK0 _ (awp_seq fun K1 hK1 => awp_region rfl ?_)))
 refine o_loadA [bp (z < 0), .sl 1 (ns .u32 (digs z.natAbs))] gn f20_ rfl rfl rfl rfl rfl ?_
 refine o_fieldRef 0 gn f59_ rfl rfl ?_
 refine o_loadS (Iv m.mod) gn f11_ rfl rfl rfl ?_
 refine n_as (v' := (Nv m.mod.toNat)) (nm_int (by omega)) ?_
 refine o_ct (c_wQR z m.mod.toNat (by omega) (by omega) (by first | omega | assumption | (simp only [Int.natAbs_neg]; omega))) gn f66_ rfl ?_
 refine o_mv (.tup [(intW (z / ((m.mod.toNat : Nat) : Int))), (Iv (z % ((m.mod.toNat : Nat) : Int)))]) rfl (o_extract (intW (z / ((m.mod.toNat : Nat) : Int))) gn rfl rfl (o_extract (Iv (z % ((m.mod.toNat : Nat) : Int))) gn rfl rfl ?_))
 refine n_as (v' := (Nv ((z % m.mod).toNat))) (nm_int (by rw [hmd]; omega)) ?_
 refine o_alloc 5 [Fv, Zv] gn f15_ rfl rfl rfl ?_
 refine o_store [(5, (oZ 90 .u32 (z / ((m.mod.toNat : Nat) : Int)))), (4, .var 90 [Fv, Zv]), (3, oZ 90 .u32 z), (2, oM 24 m)] gn f19_ rfl rfl rfl rfl rfl rfl ?_
 refine o_as (Nv ((z % m.mod).toNat)) rfl (aops_end (hK1 _ (awp_seq fun K2 hK2 => awp_regionD rfl ?_)))
 refine o_loadA [bp (z < 0), .sl 1 (ns .u32 (digs z.natAbs))] gn f20_ rfl rfl rfl rfl rfl ?_
 refine o_fieldRef 1 gn f60_ rfl rfl ?_
 refine o_loadS (Lv m.mul) gn f1_ rfl rfl rfl ?_
 refine o_mv (Nv ((z % m.mod).toNat)) rfl ?_
 refine n_as (v' := (Nv ((z % m.mod).toNat))) (congrArg (nm _) (by omega)) ?_
 refine i_index m.mul ((z % m.mod).toNat) gn f10_ rfl rfl (by omega) ?_
 refine i_loadI m.mul ((z % m.mod).toNat) gn f11_ rfl (by omega) ?_
 refine o_ct (c_wOf ((m.mul).getD ((z % m.mod).toNat) 0) (by first | decide | omega) (by first | decide | omega)) gn f46_ rfl ?_
 refine o_ct (c_wMul z ((m.mul).getD ((z % m.mod).toNat) 0) (by first | omega | assumption | (simp only [Int.natAbs_neg]; omega)) (by first | omega | assumption | (simp only [Int.natAbs_neg]; omega))) gn f67_ rfl ?_
 refine o_fieldRef 2 gn f61_ rfl rfl ?_
 refine o_loadS (Lv m.add) gn f1_ rfl rfl rfl ?_
 refine o_mv (Nv ((z % m.mod).toNat)) rfl ?_
 refine n_as (v' := (Nv ((z % m.mod).toNat))) (congrArg (nm _) (by omega)) ?_
 refine i_index m.add ((z % m.mod).toNat) gn f10_ rfl rfl (by omega) ?_
 refine i_loadI m.add ((z % m.mod).toNat) gn f11_ rfl (by omega) ?_
 refine o_ct (c_wOf ((m.add).getD ((z % m.mod).toNat) 0) (by first | decide | omega) (by first | decide | omega)) gn f46_ rfl ?_
 refine o_ct (c_wAdd (z * (m.mul).getD ((z % m.mod).toNat) 0) ((m.add).getD ((z % m.mod).toNat) 0) (by first | omega | assumption | (simp only [Int.natAbs_neg]; omega)) (by first | omega | assumption | (simp only [Int.natAbs_neg]; omega))) gn f40_ rfl ?_
 refine o_fieldRef 0 gn f59_ rfl rfl ?_
 refine o_loadS (Iv m.mod) gn f11_ rfl rfl rfl ?_
 refine n_as (v' := (Nv m.mod.toNat)) (nm_int (by omega)) ?_
 refine o_ct (c_wQR ((z * (m.mul).getD ((z % m.mod).toNat) 0) + (m.add).getD ((z % m.mod).toNat) 0) m.mod.toNat (by omega) (by omega) (by first | omega | assumption | (simp only [Int.natAbs_neg]; omega))) gn f66_ rfl ?_
 refine o_mv (.tup [(intW (((z * (m.mul).getD ((z % m.mod).toNat) 0) + (m.add).getD ((z % m.mod).toNat) 0) / ((m.mod.toNat : Nat) : Int))), (Iv (((z * (m.mul).getD ((z % m.mod).toNat) 0) + (m.add).getD ((z % m.mod).toNat) 0) % ((m.mod.toNat : Nat) : Int)))]) rfl (o_extract (intW (((z * (m.mul).getD ((z % m.mod).toNat) 0) + (m.add).getD ((z % m.mod).toNat) 0) / ((m.mod.toNat : Nat) : Int))) gn rfl rfl (o_extract (Iv (((z * (m.mul).getD ((z % m.mod).toNat) 0) + (m.add).getD ((z % m.mod).toNat) 0) % ((m.mod.toNat : Nat) : Int))) gn rfl rfl ?_))
 refine o_alloc 6 [Fv, Zv] gn f15_ rfl rfl rfl ?_
 refine o_store [(6, (oZ 90 .u32 (((z * (m.mul).getD ((z % m.mod).toNat) 0) + (m.add).getD ((z % m.mod).toNat) 0) / ((m.mod.toNat : Nat) : Int)))), (5, (oZ 90 .u32 (z / ((m.mod.toNat : Nat) : Int)))), (4, .var 90 [Fv, Zv]), (3, oZ 90 .u32 z), (2, oM 24 m)] gn f19_ rfl rfl rfl rfl rfl rfl ?_
 refine o_as (Iv (((z * (m.mul).getD ((z % m.mod).toNat) 0) + (m.add).getD ((z % m.mod).toNat) 0) % ((m.mod.toNat : Nat) : Int))) rfl ?_
 refine aops_end ⟨by kernel_rfl, ?_⟩
 refine hK2 _ (awp_seq fun K3 hK3 => awp_region rfl ?_)
 refine o_loadA [(bp ((((z * (m.mul).getD ((z % m.mod).toNat) 0) + (m.add).getD ((z % m.mod).toNat) 0) / ((m.mod.toNat : Nat) : Int)) < 0)), (.sl 1 (ns .u32 (digs (((z * (m.mul).getD ((z % m.mod).toNat) 0) + (m.add).getD ((z % m.mod).toNat) 0) / ((m.mod.toNat : Nat) : Int)).natAbs)))] gn f20_ rfl rfl rfl rfl rfl ?_
 refine o_mv (Nv ((z % m.mod).toNat)) rfl ?_
 refine o_store [(6, (oZ 90 .u32 (((z * (m.mul).getD ((z % m.mod).toNat) 0) + (m.add).getD ((z % m.mod).toNat) 0) / ((m.mod.toNat : Nat) : Int)))), (5, (oZ 90 .u32 (z / ((m.mod.toNat : Nat) : Int)))), (4, (oZ 90 .u32 (((z * (m.mul).getD ((z % m.mod).toNat) 0) + (m.add).getD ((z % m.mod).toNat) 0) / ((m.mod.toNat : Nat) : Int)))), (3, oZ 90 .u32 z), (2, oM 24 m)] gn f19_ rfl rfl rfl rfl rfl rfl ?_
 refine o_as (Nv ((z % m.mod).toNat)) rfl (aops_end (hK3 _ ?_))
 refine awp_ret ?_
 refine post_ret ⟨[(intW (((z * (m.mul).getD ((z % m.mod).toNat) 0) + (m.add).getD ((z % m.mod).toNat) 0) / ((m.mod.toNat : Nat) : Int))), Nv ((z % m.mod).toNat)], ⟨⟨4, (oZ 90 .u32 (((z * (m.mul).getD ((z % m.mod).toNat) 0) + (m.add).getD ((z % m.mod).toNat) 0) / ((m.mod.toNat : Nat) : Int))), rfl, rfl, rfl, Or.inl ⟨f20_, AV.le_refl _⟩⟩, AV.le_refl _, trivial⟩, rfl, ?_⟩
 exact tup_eq2 (congrArg (intK .u32) (by unfold stepZ; rw [hmd, Int.mul_comm z])) (int_nm (by omega)).symm

end Go.Proofs.YtdmkejloknejdaaGreatDoor

namespace Go.Proofs.YtdmkejloknejdaaGreatDoor
open Go Go.Ab Go.Mth
theorem f68_ : tyZero cx.P 24 = some [Go.Value.int IntKind.i64 0, Go.Value.slice none 0 0, Go.Value.slice none 0 0] := by kernel_rfl
theorem f69_ : tyPlaces cx.P 24 = some (fun i => (#[(0, 1), (1, 1), (2, 1)] : Array (Nat × Nat))[i]?) := by kernel_rfl
theorem f70_ : tySize cx.P 24 = some 3 := by kernel_rfl
theorem f71_ : callable cx.P 79 = true := by kernel_rfl
theorem c_skin (q c : Int) : ECalls cx 79 [Iv q, Iv c] (mapV (kinM q c)) := by
 refine ecalls_of_awp Tryz.func79 (c := _) rfl (Nat.le_of_ble_eq_true rfl) ?_
 show awp cx 10 _ (postF cx Tryz.f79 _) ⟨[(0, Iv q), (1, Iv c)], []⟩
 refine awp_seq fun K0 hK0 => awp_region rfl ?_
 refine o_alloc 2 [Nv 0, Zv, Zv] gn f68_ rfl rfl rfl ?_
 refine aops_end (hK0 _ (awp_seq fun K1 hK1 => awp_region rfl (o_mv (Iv q) rfl ?_)))
 refine o_buildSlice 3 ([Nv 1, Iv q]) [(0, [Nv 1]), (1, [Iv q])] gn f10_ rfl f26_ rfl rfl rfl rfl rfl rfl rfl ?_
 refine o_mv (Iv c) rfl ?_
 refine o_buildSlice 4 ([Nv 0, Iv c]) [(0, [Nv 0]), (1, [Iv c])] gn f10_ rfl f26_ rfl rfl rfl rfl rfl rfl rfl ?_
 refine o_build [Nv 2, .row 3, .row 4] [(0, [Nv 2]), (1, [.row 3]), (2, [.row 4])] gn f69_ f68_ rfl rfl rfl ?_
 refine o_store [(4, .row 3 1 ([Nv 0, Iv c])), (3, .row 3 1 ([Nv 1, Iv q])), (2, .var 24 [Nv 2, .row 3, .row 4])] gn f70_ rfl rfl rfl rfl rfl rfl ?_
 refine aops_end (hK1 _ ?_)
 refine awp_wk (σ' := ⟨[(4, .ref 2 0)], [(2, .var 24 [Nv 2, .row 3, .row 4]), (3, .row 3 1 ([Nv 1, Iv q])), (4, .row 3 1 ([Nv 0, Iv c]))]⟩) (Wk.sub ⟨rfl, trivial⟩ ⟨rfl, rfl, rfl, trivial⟩) ?_
 refine awp_wk (σ' := ⟨[(4, .ref 2 0)], [(2, .var 24 [Nv 2, .sl 1 ([Nv 1, Iv q]), .row 4]), (4, .row 3 1 ([Nv 0, Iv c]))]⟩) (Wk.freeze (id := 3) (e := 3) (sz := 1) (cs := ([Nv 1, Iv q])) rfl) ?_
 refine awp_wk (σ' := ⟨[(4, .ref 2 0)], [(2, .var 24 [Nv 2, .sl 1 ([Nv 1, Iv q]), .sl 1 ([Nv 0, Iv c])])]⟩) (Wk.freeze (id := 4) (e := 3) (sz := 1) (cs := ([Nv 0, Iv c])) rfl) ?_
 refine awp_ret ?_
 refine post_ret ⟨[mapV (kinM q c)], ⟨⟨2, .var 24 [Nv 2, .sl 1 ([Nv 1, Iv q]), .sl 1 ([Nv 0, Iv c])], rfl, rfl, rfl, Or.inl ⟨f63_, AV.le_agg (LeL.cons (AV.le_refl _) (LeL.cons (AV.le_refl _) (LeL.cons (AV.le_refl _) LeL.nil)))⟩⟩, trivial⟩, rfl, ?_⟩
 rfl

theorem c_sCollatz  : ECalls cx 42 [] (mapV (kinM 3 1)) := by
 refine ecalls_of_awp Tryz.func42 (c := _) rfl (Nat.le_of_ble_eq_true rfl) ?_
 show awp cx 2 _ (postF cx Tryz.f42 _) ⟨[], []⟩
 refine awp_seq fun K0 hK0 => awp_region rfl ?_
 refine o_alloc 2 [Nv 0, Zv, Zv] gn f68_ rfl rfl rfl ?_
 refine aops_end (hK0 _ (awp_seq fun K1 hK1 => awp_region rfl ?_))
 refine o_ct (c_skin (3 : Int) (1 : Int)) gn f71_ rfl ?_
 refine o_store [(2, (oM 24 (kinM (3 : Int) (1 : Int))))] gn f70_ rfl rfl rfl rfl rfl rfl ?_
 refine aops_end (hK1 _ ?_)
 refine awp_ret ?_
 refine post_ret ⟨[(mapV (kinM (3 : Int) (1 : Int)))], ⟨⟨2, (oM 24 (kinM (3 : Int) (1 : Int))), rfl, rfl, rfl, Or.inl ⟨f63_, AV.le_refl _⟩⟩, trivial⟩, rfl, ?_⟩
 rfl

end Go.Proofs.YtdmkejloknejdaaGreatDoor

namespace Go.Mth
open Go.Ab
def iterZ (m : MapM) : Nat → Int → Int
 | 0, z => z
 | k + 1, z => stepZ m (iterZ m k z)
def sbs (l : List ByteArray) : List AV := l.map fun s => .lit (.string s)
def strs (zs : List Int) : List AV := sbs (zs.map txt)
section
variable {C : Ctx} {ops : Array Oper} {s : List (Nat × AV)} {m : List (Nat × AO)} {os : List Oper} {K : List Eff → St → Prop} {d : Nat} {t : TypeId} {p : String} {af : Array Edge} {g : Option (Nat × Bool)}
theorem s_len {ty e : TypeId} {x : Operand} (xs : List ByteArray) (hg : Gd ops s g) (ht : C.P.underlying ty = some (.slice e)) (hx : ev s x = .sl 1 (sbs xs)) (kk : aops C ops ⟨(d, nm .i64 xs.length) :: s, m⟩ os fun es σ' => K ({ val := nm .i64 xs.length } :: es) σ') :
  aops C ops ⟨s, m⟩ (⟨some d, .call { callee := .builtin .len, args := #[x], argTypes := #[ty] }, t, p, af, g⟩ :: os) K := o_lenSl xs.length hg ht hx (by simp [sbs]) kk
theorem s_index {ty : TypeId} {x y : Operand} {e by' : Nat} {kk' : IntKind} (xs : List ByteArray) (i : Nat) (hg : Gd ops s g) (ht : tyElem C.P ty = some (e, 1, by')) (hx : ev s x = .sl 1 (sbs xs)) (hy : ev s y = nm kk' i) (h1 : i < xs.length)
  (kk : aops C ops ⟨(d, .ip ((sbs xs).drop i)) :: s, m⟩ os fun es σ' => K ({ val := .ip ((sbs xs).drop i) } :: es) σ') : aops C ops ⟨s, m⟩ (⟨some d, .indexAddr ty x y, t, p, af, g⟩ :: os) K :=
 o_index1 (i := (i : Int)) hg ht hx hy (by omega) (by simpa [sbs] using h1) kk
theorem s_loadI {ty : TypeId} {x : Operand} (xs : List ByteArray) (i : Nat) (hg : Gd ops s g) (ht : tySc C.P ty = true) (hx : ev s x = .ip ((sbs xs).drop i)) (h1 : i < xs.length)
  (kk : aops C ops ⟨(d, .lit (.string (xs.getD i { data := #[] }))) :: s, m⟩ os fun es σ' => K ({ val := .lit (.string (xs.getD i { data := #[] })) } :: es) σ') : aops C ops ⟨s, m⟩ (⟨some d, .load ty x, t, p, af, g⟩ :: os) K :=
 o_loadIS (.lit (.string (xs.getD i { data := #[] }))) hg ht hx (dropMap0 (f := fun s => AV.lit (.string s)) { data := #[] } h1) kk
end
def orbQ (m : MapM) (a : ByteArray) (k : Int) : Prop := okM m = true ∧ okS a = true ∧ 0 ≤ k ∧ k ≤ 1000
open Classical in
noncomputable def orbS (m : MapM) (a : ByteArray) (k : Int) : List Int := if okM m = true ∧ okS a = true ∧ 0 ≤ k ∧ k ≤ 1000 ∧ Fit (runZ m k.toNat (numS a)) then orbZ m k.toNat (numS a) else []
open Classical in
noncomputable def orbE (m : MapM) (a : ByteArray) (k : Int) : Nat := if okM m = true ∧ okS a = true then if 0 ≤ k ∧ k ≤ 1000 then if Fit (runZ m k.toNat (numS a)) then 0 else 3 else 2 else 1
noncomputable def runS (m : MapM) (a : ByteArray) (k : Int) : ByteArray := if okM m = true ∧ okS a = true ∧ 0 ≤ k ∧ k ≤ 20000 then toldS (runZ m k.toNat (numS a)) else { data := #[] }
noncomputable def runE (m : MapM) (a : ByteArray) (k : Int) : Nat := if okM m = true ∧ okS a = true then if 0 ≤ k ∧ k ≤ 20000 then toldE (runZ m k.toNat (numS a)) else 2 else 1
def fallF (m : MapM) (a : ByteArray) (k : Int) : Nat × Int × Nat := fallZ m (numS a) k.toNat (numS a) 1
noncomputable def fallK (m : MapM) (a : ByteArray) (k : Int) : Nat := if okM m = true ∧ okS a = true ∧ 1 ≤ k ∧ k ≤ 20000 then (fallF m a k).1 else 0
noncomputable def fallT (m : MapM) (a : ByteArray) (k : Int) : ByteArray := if okM m = true ∧ okS a = true ∧ 1 ≤ k ∧ k ≤ 20000 ∧ (fallF m a k).2.2 = 0 then txt (fallF m a k).2.1 else { data := #[] }
noncomputable def fallE (m : MapM) (a : ByteArray) (k : Int) : Nat := if okM m = true ∧ okS a = true then if 1 ≤ k ∧ k ≤ 20000 then (fallF m a k).2.2 else 2 else 1
end Go.Mth

namespace Go.Mth
open Go.Ab
def bv : List Nat → Nat := fun l => l.foldl (fun v b => 10 * v + (b - 48)) 0
theorem bv_snoc (l : List Nat) (b : Nat) : bv (l ++ [b]) = 10 * bv l + (b - 48) := by simp [bv]
def DigB (l : List Nat) : Prop := ∀ x ∈ l, 48 ≤ x ∧ x ≤ 57
theorem decs_digB (n : Nat) : DigB (decs n) := by
 induction n using Nat.strongRecOn with
 | _ n ih =>
  by_cases h : n = 0
  ·subst h; rw [decs_zero]; intro x hx; cases hx
  ·rw [decs_pos (by omega)]
   intro x hx
   rcases List.mem_cons.1 hx with e | e
   ·omega
   ·exact ih (n / 10) (by omega) x e
theorem bv_decs (n : Nat) : bv (decs n).reverse = n := by
 induction n using Nat.strongRecOn with
 | _ n ih =>
  by_cases h : n = 0
  ·subst h; rw [decs_zero]; rfl
  ·rw [decs_pos (by omega), List.reverse_cons, bv_snoc, ih (n / 10) (by omega)]
   omega
theorem decs_last {n : Nat} (h : 0 < n) : ∃ l b, decs n = l ++ [b] ∧ b ≠ 48 := by
 induction n using Nat.strongRecOn with
 | _ n ih =>
  rw [decs_pos h]
  by_cases h10 : n / 10 = 0
  ·rw [h10, decs_zero]
   exact ⟨[], _, rfl, by omega⟩
  ·obtain ⟨l, b, e, hb⟩ := ih (n / 10) (by omega) (by omega)
   exact ⟨_ :: l, b, by rw [e]; rfl, hb⟩
theorem dvk_bv {a : ByteArray} {s : Nat} : ∀ {k : Nat}, s + k ≤ a.size → dvk a s k = bv (((byts a).drop s).take k)
 | 0, _ => by simp [dvk, bv]
 | k + 1, h => by
  have hl : s + k < (byts a).length := by rw [byts_len]; omega
  have e : ((byts a).drop s).take (k + 1) = ((byts a).drop s).take k ++ [(byts a).getD (s + k) 0] := by
   rw [List.take_add_one, List.getElem?_drop, List.getElem?_eq_getElem hl, List.getD_eq_getElem?_getD, List.getElem?_eq_getElem hl]
   rfl
  rw [dvk, dvk_bv (k := k) (by omega), e, bv_snoc, byt_byts]
theorem dvk_all {a : ByteArray} {s : Nat} (h : s ≤ a.size) : dvk a s (a.size - s) = bv ((byts a).drop s) := by
 rw [dvk_bv (by omega), List.take_of_length_le (by rw [List.length_drop, byts_len]; omega)]
theorem txt_len (z : Int) : (txt z).size = (txtL z).length := by rw [← byts_txt, byts_len]
theorem byt_txt (z : Int) (i : Nat) : byt (txt z) i = (txtL z).getD i 0 := by rw [byt_byts, byts_txt]
theorem txtL_pos {z : Int} (h : 0 < z) : txtL z = (decs z.natAbs).reverse := by unfold txtL; rw [if_neg (by omega), if_neg (by omega)]; rfl
theorem txtL_neg {z : Int} (h : z < 0) : txtL z = 45 :: (decs z.natAbs).reverse := by unfold txtL; rw [if_neg (by omega), if_pos h]; rfl
theorem decs_ne {n : Nat} (h : 0 < n) : 0 < (decs n).length := by rw [decs_pos h]; simp
theorem rev_head {n : Nat} (h : 0 < n) : 48 ≤ (decs n).reverse.getD 0 0 ∧ (decs n).reverse.getD 0 0 ≤ 57 ∧ (decs n).reverse.getD 0 0 ≠ 48 := by
 obtain ⟨l, b, e, hb⟩ := decs_last h
 have hd := decs_digB n b (by rw [e]; simp)
 rw [e]
 simp only [List.reverse_append, List.reverse_cons, List.reverse_nil, List.nil_append, List.cons_append, List.getD_cons_zero]
 exact ⟨hd.1, hd.2, hb⟩
theorem sgnAt_txt (z : Int) : sgnAt (txt z) = if z < 0 then 1 else 0 := by
 unfold sgnAt
 rw [byt_txt]
 by_cases hz : z < 0
 ·rw [txtL_neg hz, if_pos hz]; rfl
 ·rw [if_neg hz]
  by_cases h0 : z = 0
  ·subst h0; rfl
  ·rw [txtL_pos (by omega)]
   have := rev_head (n := z.natAbs) (by omega)
   rw [if_neg (by omega)]
theorem numS_txt (z : Int) : numS (txt z) = z := by
 unfold numS
 rw [sgnAt_txt]
 by_cases hz : z < 0
 ·rw [if_pos hz]
  have hb : byt (txt z) 0 = 45 := by rw [byt_txt, txtL_neg hz]; rfl
  rw [hb, dvk_all (by rw [txt_len, txtL_neg hz]; simp), byts_txt, txtL_neg hz, List.drop_succ_cons, List.drop_zero, bv_decs]
  simp only [sg, decide_true, if_true]
  omega
 ·rw [if_neg hz]
  have hb : ¬ byt (txt z) 0 = 45 := by
   intro h
   have := sgnAt_txt z
   unfold sgnAt at this
   rw [if_pos h, if_neg hz] at this
   cases this
  rw [decide_eq_false hb, dvk_all (by omega), byts_txt, List.drop_zero]
  by_cases h0 : z = 0
  ·subst h0; rfl
  ·rw [txtL_pos (by omega), bv_decs]
   simp only [sg, Bool.false_eq_true, if_false]
   omega
theorem okS_txt {z : Int} (hf : Fit z) : OkS (txt z) := by
 have hs := sgnAt_txt z
 by_cases hz : z < 0
 ·rw [if_pos hz] at hs
  have hn : ndig z.natAbs = (decs z.natAbs).length := by unfold ndig; rw [if_neg (by omega)]
  unfold Fit at hf
  have hp := decs_ne (n := z.natAbs) (by omega)
  have hh := rev_head (n := z.natAbs) (by omega)
  refine ⟨by rw [hs, txt_len, txtL_neg hz]; simp; omega, by rw [hs, txt_len, txtL_neg hz]; simp; omega, fun h => ?_, fun i h1 h2 => ?_⟩
  ·rw [hs, byt_txt, txtL_neg hz, List.getD_cons_succ] at h
   exact hh.2.2 h.1
  ·rw [hs] at h1
   rw [txt_len, txtL_neg hz] at h2
   rw [byt_txt, txtL_neg hz]
   obtain ⟨j, rfl⟩ : ∃ j, i = j + 1 := ⟨i - 1, by omega⟩
   rw [List.getD_cons_succ]
   have hj : j < (decs z.natAbs).reverse.length := by simpa using h2
   rw [List.getD_eq_getElem?_getD, List.getElem?_eq_getElem hj]
   exact decs_digB _ _ (List.mem_reverse.1 (List.getElem_mem hj))
 ·rw [if_neg hz] at hs
  by_cases h0 : z = 0
  ·subst h0
   refine ⟨by rw [hs]; decide, by rw [hs]; decide, by rw [hs]; decide, fun i h1 h2 => ?_⟩
   have : i = 0 := by rw [txt_zero] at h2; simp [ByteArray.size] at h2; omega
   subst this
   rw [txt_zero]
   decide
  ·have hn : ndig z.natAbs = (decs z.natAbs).length := by unfold ndig; rw [if_neg (by omega)]
   unfold Fit at hf
   have hp := decs_ne (n := z.natAbs) (by omega)
   have hh := rev_head (n := z.natAbs) (by omega)
   refine ⟨by rw [hs, txt_len, txtL_pos (by omega)]; simpa using hp, by rw [hs, txt_len, txtL_pos (by omega)]; simp; omega, fun h => ?_, fun i h1 h2 => ?_⟩
   ·rw [hs, byt_txt, txtL_pos (by omega)] at h
    exact hh.2.2 h.1
   ·rw [txt_len, txtL_pos (by omega)] at h2
    rw [byt_txt, txtL_pos (by omega), List.getD_eq_getElem?_getD, List.getElem?_eq_getElem h2]
    exact decs_digB _ _ (List.mem_reverse.1 (List.getElem_mem h2))
theorem txt_inj {x y : Int} (h : txt x = txt y) : x = y := by rw [← numS_txt x, ← numS_txt y, h]
end Go.Mth

namespace Go.Mth
open Go.Ab
theorem okM_ex : okM (kinM 3 1) = true := by
 refine okM_yes ⟨by decide, by decide, by decide, by decide, fun r hr => ?_⟩
 have : r = 0 ∨ r = 1 := by simp only [kinM] at hr; omega
 rcases this with rfl | rfl <;> decide
theorem str_as {a b : ByteArray} (h : a = b) : AV.lit (.string a) = AV.lit (.string b) := by rw [h]
theorem map_getD {l : List Int} {i : Nat} (h : i < l.length) : (l.map txt).getD i { data := #[] } = txt (l.getD i 0) := by simp [List.getD_eq_getElem?_getD, List.getElem?_eq_getElem h]
end Go.Mth

namespace Go.Mth
open Go.Ab
def freeM (m : MapM) : Prop := ∀ i, i < m.mul.length → Nat.gcd (m.mul.getD i 0).toNat m.mod.toNat ≤ 1
noncomputable instance (m : MapM) : Decidable (freeM m) := Classical.propDecidable _
def primeN (a b : Nat) : Prop := ∀ d, 2 ≤ d → d ≤ a → d ≤ b → ¬ (a % d = 0 ∧ b % d = 0)
noncomputable instance (a b : Nat) : Decidable (primeN a b) := Classical.propDecidable _
theorem gcd_nx {u v g : Nat} (h : Nat.gcd u v = g) : Nat.gcd v (u % v) = g := by rw [← h, Nat.gcd_comm u v, Nat.gcd_rec v u, Nat.gcd_comm]
theorem gcd_ed {u v g : Nat} (h : Nat.gcd u v = g) (hv : ¬ 0 < v) : g = u := by
 have : v = 0 := by omega
 subst this; simpa using h.symm
theorem prime_gcd {a b : Nat} (ha : 1 ≤ a) (hb : 1 ≤ b) : primeN a b ↔ Nat.gcd a b ≤ 1 := by
 constructor
 ·intro h
  rcases Nat.lt_or_ge 1 (Nat.gcd a b) with g | g
  ·exact absurd ⟨Nat.mod_eq_zero_of_dvd (Nat.gcd_dvd_left a b), Nat.mod_eq_zero_of_dvd (Nat.gcd_dvd_right a b)⟩ (h _ g (Nat.le_of_dvd (by omega) (Nat.gcd_dvd_left a b)) (Nat.le_of_dvd (by omega) (Nat.gcd_dvd_right a b)))
  ·exact g
 ·intro h d h2 _ _ ⟨h3, h4⟩
  have := Nat.le_of_dvd (Nat.gcd_pos_of_pos_left b (by omega)) (Nat.dvd_gcd (Nat.dvd_of_mod_eq_zero h3) (Nat.dvd_of_mod_eq_zero h4))
  omega
end Go.Mth

namespace Go.Proofs.YtdmkejloknejdaaGreatDoor
open Go Go.Ab Go.Mth
theorem f72_ : callable cx.P 87 = true := by kernel_rfl
theorem f73_ : callable cx.P 57 = true := by kernel_rfl
theorem c_sCommon (a b : Nat) : ECalls cx 87 [Nv a, Nv b] (Nv (Nat.gcd a b)) := by
 refine ecalls_of_awp Tryz.func87 (c := _) rfl (Nat.le_of_ble_eq_true rfl) ?_
 show awp cx 12 _ (postF cx Tryz.f87 _) ⟨[(0, Nv a), (1, Nv b)], []⟩
 refine awp_seq fun K0 hK0 => awp_region rfl (o_as (Nv 0) rfl (aops_end (hK0 _ (awp_seq fun K1 hK1 => ?_))))
 refine awp_block ?_
 refine awp_loopR (fun κ σ => ∃ (u : Nat), ∃ (v : Nat), (Nat.gcd u v = Nat.gcd a b) ∧ v = κ ∧ σ = ⟨[(0, Nv u), (1, Nv v)], []⟩) ⟨_, _, ⟨a, b, rfl, rfl, rfl⟩, ?wk0⟩ ?rd0
 case wk0 =>
  exact Wk.sub ⟨(by first | rfl | exact nm_int (by omega)), (by first | rfl | exact nm_int (by omega)), trivial⟩ trivial
 rintro κ _ ⟨u, v, hg, rfl, rfl⟩
 refine awp_seq fun K2 hK2 => awp_seq fun K3 hK3 => awp_region rfl (o_mv (Nv v) rfl ?_)
 refine n_gtr v 0 gn rfl rfl ?_
 refine aops_end (hK3 _ ?_)
 refine awp_condQ (q := 0 < v) rfl (fun h1 => ?_) (fun h1 => ?_)
 ·refine awp_skip (hK2 _ ?_)
  refine awp_block ?_
  refine awp_regionD rfl (o_mv (Nv v) rfl (o_mv (Nv u) rfl (o_mv (Nv v) rfl ?_)))
  refine n_rem u v gn rfl rfl (by omega) ?_
  refine o_as (Nv v) rfl (o_as (Nv (u % v)) rfl ?_)
  refine aops_end ⟨by kernel_rfl, ?_⟩
  refine ⟨_, _, ?lt, ⟨v, u % v, gcd_nx hg, rfl, rfl⟩, ?wk⟩
  case lt => exact Nat.mod_lt u (by assumption)
  case wk => exact Wk.sub ⟨(by first | rfl | exact nm_int (by omega)), (by first | rfl | exact nm_int (by omega)), trivial⟩ trivial
 ·refine awp_exit ?_
  refine hK1 _ (awp_seq fun K4 hK4 => awp_region rfl (o_mv (Nv u) rfl (o_as (Nv u) rfl (aops_end (hK4 _ ?_)))))
  refine awp_ret ?_
  refine post_ret ⟨[Nv u], ⟨AV.le_refl _, trivial⟩, rfl, ?_⟩
  exact congrArg (nm _) (gcd_ed hg h1)

theorem c_sFree (m : MapM) (hM : OkM m) : ECalls cx 46 [mapV m] (bp (freeM m)) := by
 refine ecalls_of_awp Tryz.func46 (c := _) rfl (Nat.le_of_ble_eq_true rfl) ?_
 show awp cx 18 _ (postF cx Tryz.f46 _) ⟨[(0, mapV m)], []⟩
 obtain ⟨o1, o2, o3, o4, o5⟩ := hM
 refine awp_seq fun K0 hK0 => awp_region rfl ?_
 refine o_box 2 [Iv m.mod, Lv m.mul, Lv m.add] gn rfl rfl ?_
 refine o_as Fv rfl (aops_end (hK0 _ (awp_seq fun K1 hK1 => awp_seq fun K2 hK2 => awp_region rfl ?_)))
 refine o_fieldRef 1 gn f60_ rfl rfl ?_
 refine o_loadS (Lv m.mul) gn f1_ rfl rfl rfl ?_
 refine i_len m.mul gn f2_ rfl ?_
 refine o_mv (Nv 0) rfl (aops_end (hK2 _ ?_))
 refine awp_block ?_
 refine awp_loopR (fun κ σ => ∃ (i : Nat), (i ≤ m.mul.length) ∧ (∀ k, k < i → Nat.gcd (m.mul.getD k 0).toNat m.mod.toNat ≤ 1) ∧ (m.mul.length - i) = κ ∧ σ = ⟨[(1, .ref 2 0), (6, Lv m.mul), (7, Nv ((m.mul).length)), (8, Nv i)], [(2, oM 24 m)]⟩) ⟨_, _, ⟨0, (by omega), (fun k hk => by omega), rfl, rfl⟩, ?wk0⟩ ?rd0
 case wk0 =>
  exact Wk.sub ⟨rfl, rfl, rfl, (by first | rfl | exact nm_int (by omega)), trivial⟩ ⟨rfl, trivial⟩
 rintro κ _ ⟨i, hi, hf, rfl, rfl⟩
 refine awp_seq fun K3 hK3 => awp_region rfl ?_
 refine n_lss i ((m.mul).length) gn rfl rfl ?_
 refine aops_end (hK3 _ (awp_seq fun K4 hK4 => ?_))
 refine awp_condQ (q := i < ((m.mul).length)) rfl (fun h1 => ?_) (fun h1 => ?_)
 ·have hoi := o5 i (by omega)
  refine awp_skip (hK4 _ (awp_seq fun K5 hK5 => ?_))
  refine awp_block ?_
  refine awp_seq fun K6 hK6 => awp_region rfl ?_
  refine i_index m.mul i gn f10_ rfl rfl (by omega) ?_
  refine i_loadI m.mul i gn f11_ rfl (by omega) ?_
  refine o_as (Iv ((m.mul).getD i 0)) rfl (aops_end (hK6 _ (awp_seq fun K7 hK7 => awp_region rfl (o_mv (Iv ((m.mul).getD i 0)) rfl ?_))))
  refine n_as (v' := (Nv (((m.mul).getD i 0).toNat))) (nm_int (by omega)) ?_
  refine o_fieldRef 0 gn f59_ rfl rfl ?_
  refine o_loadS (Iv m.mod) gn f11_ rfl rfl rfl ?_
  refine n_as (v' := (Nv m.mod.toNat)) (nm_int (by omega)) ?_
  refine o_ct (c_sCommon (((m.mul).getD i 0).toNat) m.mod.toNat) gn f72_ rfl ?_
  refine n_gtr (Nat.gcd (((m.mul).getD i 0).toNat) m.mod.toNat) 1 gn rfl rfl ?_
  refine aops_end (hK7 _ ?_)
  refine awp_condQ (q := 1 < (Nat.gcd (((m.mul).getD i 0).toNat) m.mod.toNat)) rfl (fun h2 => ?_) (fun h2 => ?_)
  ·refine awp_seq fun K8 hK8 => awp_region rfl (o_as Fv rfl (aops_end (hK8 _ ?_)))
   refine awp_ret ?_
   refine post_ret ⟨[Fv], ⟨AV.le_refl _, trivial⟩, rfl, ?_⟩
   exact (bl_bp (b := false) ⟨fun h => (by cases h), fun h => absurd h (fun hh => absurd (hh i h1) (by omega))⟩).symm
  ·refine awp_skip (hK5 _ (awp_region rfl ?_))
   refine n_add i 1 gn rfl rfl (by simp only [topOf]; omega) ?_
   refine o_mv (Nv (i + 1)) rfl (aops_end ?_)
   refine ⟨_, _, ?lt, ⟨i + 1, (by omega), (fun k hk => by rcases Nat.lt_or_ge k i with e | e; exact hf k e; rw [show k = i by omega]; omega), rfl, rfl⟩, ?wk⟩
   case lt => omega
   case wk => exact Wk.sub ⟨rfl, rfl, rfl, (by first | rfl | exact nm_int (by omega)), trivial⟩ ⟨rfl, trivial⟩
 ·refine awp_exit ?_
  refine hK1 _ (awp_seq fun K9 hK9 => awp_region rfl (o_as Tv rfl (aops_end (hK9 _ ?_))))
  refine awp_ret ?_
  refine post_ret ⟨[Tv], ⟨AV.le_refl _, trivial⟩, rfl, ?_⟩
  exact (bl_bp (b := true) ⟨fun _ => (show freeM m from fun k hk => hf k (by omega)), fun _ => rfl⟩).symm

theorem c_gPrime (a b : Nat) (ha : a ≤ 1000000000) (hb : b ≤ 1000000000) : ECalls cx 57 [Nv a, Nv b] (bp (primeN a b)) := by
 refine ecalls_of_awp Tryz.func57 (c := _) rfl (Nat.le_of_ble_eq_true rfl) ?_
 show awp cx 26 _ (postF cx Tryz.f57 _) ⟨[(0, Nv a), (1, Nv b)], []⟩
 refine awp_seq fun K0 hK0 => awp_region rfl (o_as Fv rfl (aops_end (hK0 _ (awp_seq fun K1 hK1 => awp_seq fun K2 hK2 => awp_region rfl (o_as (Nv 2) rfl (aops_end (hK2 _ ?_)))))))
 refine awp_block ?_
 refine awp_loopR (fun κ σ => ∃ (d : Nat), (2 ≤ d) ∧ (d ≤ max a 1 + 1) ∧ (∀ e, 2 ≤ e → e < d → ¬ (a % e = 0 ∧ b % e = 0)) ∧ (max a 1 + 1 - d) = κ ∧ σ = ⟨[(0, Nv a), (1, Nv b), (5, Nv d)], []⟩) ⟨_, _, ⟨2, (by omega), (by omega), (fun e h1 h2 => by omega), rfl, rfl⟩, ?wk0⟩ ?rd0
 case wk0 =>
  exact Wk.sub ⟨rfl, rfl, (by first | rfl | exact nm_int (by omega)), trivial⟩ trivial
 rintro κ _ ⟨d, hd, hd2, hf, rfl, rfl⟩
 refine awp_seq fun K3 hK3 => awp_seq fun K4 hK4 => awp_region rfl (o_mv (Nv d) rfl (o_mv (Nv a) rfl ?_))
 refine n_leq d a gn rfl rfl ?_
 refine o_mv (bp (d ≤ a)) rfl ?_
 refine o_splitP (q := d ≤ a) 9 rfl (fun h1 => ?_) (fun h1 => ?_)
 ·refine o_move (Nv d) (Gd.yes rfl rfl (decide_eq_true h1)) rfl (o_move (Nv b) (Gd.yes rfl rfl (decide_eq_true h1)) rfl ?_)
  refine n_leq d b (Gd.yes rfl rfl (decide_eq_true h1)) rfl rfl ?_
  refine o_pickT (bp (d ≤ b)) gn rfl (decide_eq_true h1) rfl ?_
  refine aops_end (hK4 _ ?_)
  refine awp_condQ (q := d ≤ b) rfl (fun h2 => ?_) (fun h2 => ?_)
  ·refine awp_skip (hK3 _ (awp_seq fun K5 hK5 => ?_))
   refine awp_block ?_
   refine awp_seq fun K6 hK6 => awp_region rfl (o_mv (Nv a) rfl (o_mv (Nv d) rfl ?_))
   refine n_rem a d gn rfl rfl (by omega) ?_
   refine n_eql (a % d) 0 gn rfl rfl ?_
   refine o_mv (bp ((a % d) = 0)) rfl ?_
   refine o_splitP (q := (a % d) = 0) 20 rfl (fun h3 => ?_) (fun h3 => ?_)
   ·refine o_move (Nv b) (Gd.yes rfl rfl (decide_eq_true h3)) rfl (o_move (Nv d) (Gd.yes rfl rfl (decide_eq_true h3)) rfl ?_)
    refine n_rem b d (Gd.yes rfl rfl (decide_eq_true h3)) rfl rfl (by omega) ?_
    refine n_eql (b % d) 0 (Gd.yes rfl rfl (decide_eq_true h3)) rfl rfl ?_
    refine o_pickT (bp ((b % d) = 0)) gn rfl (decide_eq_true h3) rfl ?_
    refine aops_end (hK6 _ ?_)
    refine awp_condQ (q := (b % d) = 0) rfl (fun h4 => ?_) (fun h4 => ?_)
    ·refine awp_seq fun K7 hK7 => awp_region rfl (o_as Fv rfl (aops_end (hK7 _ ?_)))
     refine awp_ret ?_
     refine post_ret ⟨[Fv], ⟨AV.le_refl _, trivial⟩, rfl, ?_⟩
     exact (bl_bp (b := false) ⟨fun h => (by cases h), fun h => absurd h (fun hh => hh d hd h1 h2 ⟨h3, h4⟩)⟩).symm
    ·refine awp_skip (hK5 _ (awp_region rfl (o_mv (Nv d) rfl ?_)))
     refine n_add d 1 gn rfl rfl (by simp only [topOf]; omega) ?_
     refine o_as (Nv (d + 1)) rfl (aops_end ?_)
     refine ⟨_, _, ?lt, ⟨d + 1, (by omega), (by omega), (fun e h1' h2' => by rcases Nat.lt_or_ge e d with hh | hh; exact hf e h1' hh; rw [show e = d by omega]; exact fun hc => h4 hc.2), rfl, rfl⟩, ?wk⟩
     case lt => omega
     case wk => exact Wk.sub ⟨rfl, rfl, (by first | rfl | exact nm_int (by omega)), trivial⟩ trivial
   ·refine o_skip rfl rfl (decide_eq_false h3) (o_skip rfl rfl (decide_eq_false h3) (o_skip rfl rfl (decide_eq_false h3) (o_skip rfl rfl (decide_eq_false h3) ?_)))
    refine o_pickF Fv gn rfl (decide_eq_false h3) rfl ?_
    refine aops_end (hK6 _ ?_)
    refine awp_condB (b := false) rfl (fun hh => absurd (hh.symm.trans rfl) (by decide)) (fun _ => ?_)
    refine awp_skip (hK5 _ (awp_region rfl (o_mv (Nv d) rfl ?_)))
    refine n_add d 1 gn rfl rfl (by simp only [topOf]; omega) ?_
    refine o_as (Nv (d + 1)) rfl (aops_end ?_)
    refine ⟨_, _, ?lt, ⟨d + 1, (by omega), (by omega), (fun e h1' h2' => by rcases Nat.lt_or_ge e d with hh | hh; exact hf e h1' hh; rw [show e = d by omega]; exact fun hc => h3 hc.1), rfl, rfl⟩, ?wk⟩
    case lt => omega
    case wk => exact Wk.sub ⟨rfl, rfl, (by first | rfl | exact nm_int (by omega)), trivial⟩ trivial
  ·refine awp_exit ?_
   refine hK1 _ (awp_seq fun K8 hK8 => awp_region rfl (o_as Tv rfl (aops_end (hK8 _ ?_))))
   refine awp_ret ?_
   refine post_ret ⟨[Tv], ⟨AV.le_refl _, trivial⟩, rfl, ?_⟩
   exact (bl_bp (b := true) ⟨fun _ => (show primeN a b from fun e h1' ha' hb' => hf e h1' (by omega)), fun _ => rfl⟩).symm
 ·refine o_skip rfl rfl (decide_eq_false h1) (o_skip rfl rfl (decide_eq_false h1) (o_skip rfl rfl (decide_eq_false h1) ?_))
  refine o_pickF Fv gn rfl (decide_eq_false h1) rfl ?_
  refine aops_end (hK4 _ ?_)
  refine awp_condB (b := false) rfl (fun hh => absurd (hh.symm.trans rfl) (by decide)) (fun _ => ?_)
  refine awp_exit ?_
  refine hK1 _ (awp_seq fun K9 hK9 => awp_region rfl (o_as Tv rfl (aops_end (hK9 _ ?_))))
  refine awp_ret ?_
  refine post_ret ⟨[Tv], ⟨AV.le_refl _, trivial⟩, rfl, ?_⟩
  exact (bl_bp (b := true) ⟨fun _ => (show primeN a b from fun e h1' ha' hb' => hf e h1' (by omega)), fun _ => rfl⟩).symm

theorem c_gRegular (m : MapM) (hM : OkM m) : ECalls cx 14 [mapV m] (bp (freeM m)) := by
 refine ecalls_of_awp Tryz.func14 (c := _) rfl (Nat.le_of_ble_eq_true rfl) ?_
 show awp cx 19 _ (postF cx Tryz.f14 _) ⟨[(0, mapV m)], []⟩
 obtain ⟨o1, o2, o3, o4, o5⟩ := hM
 refine awp_seq fun K0 hK0 => awp_region rfl ?_
 refine o_box 2 [Iv m.mod, Lv m.mul, Lv m.add] gn rfl rfl ?_
 refine o_as Fv rfl (aops_end (hK0 _ (awp_seq fun K1 hK1 => awp_seq fun K2 hK2 => awp_region rfl (o_as (Nv 0) rfl (aops_end (hK2 _ ?_))))))
 refine awp_block ?_
 refine awp_loopR (fun κ σ => ∃ (i : Nat), ((i : Int) ≤ m.mod) ∧ (∀ k, k < i → Nat.gcd (m.mul.getD k 0).toNat m.mod.toNat ≤ 1) ∧ (m.mod.toNat - i) = κ ∧ σ = ⟨[(1, .ref 2 0), (3, Nv i)], [(2, oM 24 m)]⟩) ⟨_, _, ⟨0, (by omega), (fun k hk => by omega), rfl, rfl⟩, ?wk0⟩ ?rd0
 case wk0 =>
  exact Wk.sub ⟨rfl, (by first | rfl | exact nm_int (by omega)), trivial⟩ ⟨rfl, trivial⟩
 rintro κ _ ⟨i, hi, hf, rfl, rfl⟩
 refine awp_seq fun K3 hK3 => awp_seq fun K4 hK4 => awp_region rfl (o_mv (Nv i) rfl ?_)
 refine o_fieldRef 0 gn f59_ rfl rfl ?_
 refine o_loadS (Iv m.mod) gn f11_ rfl rfl rfl ?_
 refine o_lss (a := ((i : Nat) : Int)) (c := m.mod) gn rfl rfl ?_
 refine aops_end (hK4 _ ?_)
 refine awp_condQ (q := ((i : Nat) : Int) < m.mod) rfl (fun h1 => ?_) (fun h1 => ?_)
 ·have hoi := o5 i (by omega)
  have hpg := prime_gcd (a := ((m.mul).getD i 0).toNat) (b := m.mod.toNat) (by omega) (by omega)
  refine awp_skip (hK3 _ (awp_seq fun K5 hK5 => ?_))
  refine awp_block ?_
  refine awp_seq fun K6 hK6 => awp_regionD rfl ?_
  refine o_fieldRef 1 gn f60_ rfl rfl ?_
  refine o_loadS (Lv m.mul) gn f1_ rfl rfl rfl ?_
  refine o_mv (Nv i) rfl ?_
  refine i_index m.mul i gn f10_ rfl rfl (by omega) ?_
  refine i_loadI m.mul i gn f11_ rfl (by omega) ?_
  refine n_as (v' := (Nv (((m.mul).getD i 0).toNat))) (nm_int (by omega)) ?_
  refine o_fieldRef 0 gn f59_ rfl rfl ?_
  refine o_loadS (Iv m.mod) gn f11_ rfl rfl rfl ?_
  refine n_as (v' := (Nv m.mod.toNat)) (nm_int (by omega)) ?_
  refine o_ct (c_gPrime (((m.mul).getD i 0).toNat) m.mod.toNat (by omega) (by omega)) gn f73_ rfl ?_
  refine o_notP (q := primeN (((m.mul).getD i 0).toNat) m.mod.toNat) gn rfl ?_
  refine aops_end ⟨by kernel_rfl, ?_⟩
  refine hK6 _ ?_
  refine awp_condQ (q := ¬ (primeN (((m.mul).getD i 0).toNat) m.mod.toNat)) rfl (fun h2 => ?_) (fun h2 => ?_)
  ·refine awp_seq fun K7 hK7 => awp_region rfl (o_as Fv rfl (aops_end (hK7 _ ?_)))
   refine awp_ret ?_
   refine post_ret ⟨[Fv], ⟨AV.le_refl _, trivial⟩, rfl, ?_⟩
   exact (bl_bp (b := false) ⟨fun h => (by cases h), fun h => absurd h (fun hh => h2 (hpg.2 (hh i (by omega))))⟩).symm
  ·refine awp_skip (hK5 _ (awp_region rfl (o_mv (Nv i) rfl ?_)))
   refine n_add i 1 gn rfl rfl (by simp only [topOf]; omega) ?_
   refine o_as (Nv (i + 1)) rfl (aops_end ?_)
   refine ⟨_, _, ?lt, ⟨i + 1, (by omega), (fun k hk => by rcases Nat.lt_or_ge k i with e | e; exact hf k e; rw [show k = i by omega]; exact hpg.1 (Decidable.not_not.1 h2)), rfl, rfl⟩, ?wk⟩
   case lt => omega
   case wk => exact Wk.sub ⟨rfl, (by first | rfl | exact nm_int (by omega)), trivial⟩ ⟨rfl, trivial⟩
 ·refine awp_exit ?_
  refine hK1 _ (awp_seq fun K8 hK8 => awp_region rfl (o_as Tv rfl (aops_end (hK8 _ ?_))))
  refine awp_ret ?_
  refine post_ret ⟨[Tv], ⟨AV.le_refl _, trivial⟩, rfl, ?_⟩
  exact (bl_bp (b := true) ⟨fun _ => (show freeM m from fun k hk => hf k (by omega)), fun _ => rfl⟩).symm

end Go.Proofs.YtdmkejloknejdaaGreatDoor

namespace Go.Mth
open Go.Ab
def prodZ (m : MapM) (z : Int) : Nat → Int
 | 0 => 1
 | i + 1 => prodZ m z i * m.mul.getD (iterZ m i z % m.mod).toNat 0
theorem stepZ_add {m : MapM} (hm : OkM m) (z c : Int) : stepZ m (z + m.mod * c) = stepZ m z + m.mul.getD (z % m.mod).toNat 0 * c := by
 have h2 : 2 ≤ m.mod := hm.1
 unfold stepZ
 rw [Int.add_mul_emod_self_left]
 have e : m.mul.getD (z % m.mod).toNat 0 * (z + m.mod * c) + m.add.getD (z % m.mod).toNat 0 = (m.mul.getD (z % m.mod).toNat 0 * z + m.add.getD (z % m.mod).toNat 0) + (m.mul.getD (z % m.mod).toNat 0 * c) * m.mod := by
  rw [Int.mul_add, Int.mul_assoc, Int.mul_comm c m.mod]
  omega
 rw [e, Int.add_mul_ediv_right _ _ (by omega)]
theorem alike {m : MapM} (hm : OkM m) (x d : Int) (k : Nat) : ∀ i, i ≤ k → iterZ m i (x + d * m.mod ^ k) = iterZ m i x + d * prodZ m x i * m.mod ^ (k - i)
 | 0, _ => by simp [iterZ, prodZ]
 | i + 1, h => by
  rw [iterZ, alike hm x d k i (by omega), show k - i = (k - (i + 1)) + 1 by omega, Int.pow_succ]
  rw [show d * prodZ m x i * (m.mod ^ (k - (i + 1)) * m.mod) = m.mod * (d * prodZ m x i * m.mod ^ (k - (i + 1))) by ac_rfl]
  rw [stepZ_add hm, iterZ, prodZ]
  congr 1
  ac_rfl
theorem alike_end {m : MapM} (hm : OkM m) (x d : Int) (k : Nat) : iterZ m k (x + d * m.mod ^ k) - iterZ m k x = d * prodZ m x k := by
 rw [alike hm x d k k (Nat.le_refl _), Nat.sub_self, Int.pow_zero, Int.mul_one]; omega
end Go.Mth

namespace Go.Mth
open Go.Ab
def wordZ (m : MapM) (z : Int) : Nat → List Int
 | 0 => []
 | k + 1 => wordZ m z k ++ [iterZ m k z % m.mod]
structure LinZ where
 mul : Int
 add : Int
 div : Int
def oneZ : LinZ := ⟨1, 0, 1⟩
def mulM (m : MapM) (r : Int) : Int := m.mul.getD r.toNat 0
def addM (m : MapM) (r : Int) : Int := m.add.getD r.toNat 0
def thenZ (m : MapM) (l : LinZ) (r : Int) : LinZ := ⟨mulM m r * l.mul, mulM m r * l.add + addM m r * l.div, l.div * m.mod⟩
def lineZ (m : MapM) (w : List Int) : LinZ := w.foldl (thenZ m) oneZ
theorem lineZ_snoc (m : MapM) (w : List Int) (r : Int) : lineZ m (w ++ [r]) = thenZ m (lineZ m w) r := by unfold lineZ; rw [List.foldl_append]; rfl
theorem wordZ_len (m : MapM) (z : Int) : ∀ k, (wordZ m z k).length = k
 | 0 => rfl
 | k + 1 => by rw [wordZ, List.length_append, wordZ_len m z k]; rfl
theorem snoc_ind {P : List Int → Prop} (h0 : P []) (hs : ∀ w r, P w → P (w ++ [r])) : ∀ w, P w := by
 intro w
 have h : ∀ l : List Int, P l.reverse := by
  intro l
  induction l with
  | nil => exact h0
  | cons x l ih => rw [List.reverse_cons]; exact hs _ _ ih
 have := h w.reverse
 rwa [List.reverse_reverse] at this
theorem lineZ_div (m : MapM) : ∀ w : List Int, (lineZ m w).div = m.mod ^ w.length := by
 refine snoc_ind (P := fun w => (lineZ m w).div = m.mod ^ w.length) (by simp [lineZ, oneZ]) fun w r ih => ?_
 show (lineZ m (w ++ [r])).div = m.mod ^ (w ++ [r]).length
 rw [lineZ_snoc, thenZ, ih, List.length_append, List.length_cons, List.length_nil, Int.pow_add]; simp [Int.pow_succ]
theorem lineZ_app (m : MapM) (u v : List Int) : (lineZ m (u ++ v)).mul = (lineZ m v).mul * (lineZ m u).mul ∧ (lineZ m (u ++ v)).add = (lineZ m v).mul * (lineZ m u).add + (lineZ m v).add * (lineZ m u).div ∧ (lineZ m (u ++ v)).div = (lineZ m u).div * (lineZ m v).div := by
 refine snoc_ind (P := fun v => (lineZ m (u ++ v)).mul = (lineZ m v).mul * (lineZ m u).mul ∧ (lineZ m (u ++ v)).add = (lineZ m v).mul * (lineZ m u).add + (lineZ m v).add * (lineZ m u).div ∧ (lineZ m (u ++ v)).div = (lineZ m u).div * (lineZ m v).div) ?_ (fun v r ih => ?_) v
 ·show (lineZ m (u ++ [])).mul = _ ∧ _
  rw [List.append_nil]; refine ⟨?_, ?_, ?_⟩ <;> simp [lineZ, oneZ]
 ·rw [← List.append_assoc, lineZ_snoc, lineZ_snoc, thenZ, thenZ]
  obtain ⟨h1, h2, h3⟩ := ih
  refine ⟨?_, ?_, ?_⟩
  ·show mulM m r * (lineZ m (u ++ v)).mul = mulM m r * (lineZ m v).mul * (lineZ m u).mul
   rw [h1, Int.mul_assoc]
  ·show mulM m r * (lineZ m (u ++ v)).add + addM m r * (lineZ m (u ++ v)).div = mulM m r * (lineZ m v).mul * (lineZ m u).add + (mulM m r * (lineZ m v).add + addM m r * (lineZ m v).div) * (lineZ m u).div
   rw [h2, h3, Int.mul_add, Int.add_mul, Int.mul_assoc, Int.mul_assoc (mulM m r), Int.mul_assoc (addM m r), Int.mul_comm (lineZ m u).div]
   omega
  ·show (lineZ m (u ++ v)).div * m.mod = (lineZ m u).div * ((lineZ m v).div * m.mod)
   rw [h3, Int.mul_assoc]
theorem getD_toNat {m : MapM} (hm : OkM m) (z : Int) : (stepZ m z) * m.mod = mulM m (z % m.mod) * z + addM m (z % m.mod) := by
 obtain ⟨o1, o2, o3, o4, o5⟩ := hm
 have hr0 := Int.emod_nonneg z (show m.mod ≠ 0 by omega)
 have hr1 := Int.emod_lt_of_pos z (show 0 < m.mod by omega)
 obtain ⟨_, _, _, _, h⟩ := o5 (z % m.mod).toNat (by omega)
 have hd := Int.dvd_of_tmod_eq_zero h
 unfold stepZ mulM addM
 refine Int.ediv_mul_cancel ?_
 have he := Int.mul_ediv_add_emod z m.mod
 have hz : m.mul.getD (z % m.mod).toNat 0 * z + m.add.getD (z % m.mod).toNat 0 = (m.mul.getD (z % m.mod).toNat 0 * ((z % m.mod).toNat : Int) + m.add.getD (z % m.mod).toNat 0) + m.mod * (m.mul.getD (z % m.mod).toNat 0 * (z / m.mod)) := by
  rw [show (((z % m.mod).toNat : Nat) : Int) = z % m.mod from Int.toNat_of_nonneg hr0, Int.mul_left_comm m.mod]
  have : m.mul.getD (z % m.mod).toNat 0 * z = m.mul.getD (z % m.mod).toNat 0 * (m.mod * (z / m.mod) + z % m.mod) := by rw [he]
  rw [this, Int.mul_add]
  omega
 rw [hz]
 exact Int.dvd_add hd (Int.dvd_mul_right _ _)
theorem line_iter {m : MapM} (hm : OkM m) (z : Int) : ∀ k, iterZ m k z * (lineZ m (wordZ m z k)).div = (lineZ m (wordZ m z k)).mul * z + (lineZ m (wordZ m z k)).add
 | 0 => by simp [wordZ, lineZ, oneZ, iterZ]
 | k + 1 => by
  have ih := line_iter hm z k
  have hs := getD_toNat hm (iterZ m k z)
  rw [wordZ, lineZ_snoc, iterZ]
  show stepZ m (iterZ m k z) * ((lineZ m (wordZ m z k)).div * m.mod) = mulM m (iterZ m k z % m.mod) * (lineZ m (wordZ m z k)).mul * z + (mulM m (iterZ m k z % m.mod) * (lineZ m (wordZ m z k)).add + addM m (iterZ m k z % m.mod) * (lineZ m (wordZ m z k)).div)
  rw [Int.mul_comm (lineZ m (wordZ m z k)).div, ← Int.mul_assoc, hs, Int.add_mul, Int.mul_assoc, ih, Int.mul_add, Int.mul_assoc]
  omega
theorem prod_free {m : MapM} (hm : OkM m) (hf : freeM m) (x : Int) : ∀ k, Nat.Coprime (prodZ m x k).natAbs m.mod.toNat
 | 0 => by simp [prodZ]
 | k + 1 => by
  have hm2 := hm
  obtain ⟨o1, o2, o3, o4, o5⟩ := hm2
  have hr0 := Int.emod_nonneg (iterZ m k x) (show m.mod ≠ 0 by omega)
  have hr1 := Int.emod_lt_of_pos (iterZ m k x) (show 0 < m.mod by omega)
  have h1 := hf (iterZ m k x % m.mod).toNat (by omega)
  obtain ⟨hq, _, _, _, _⟩ := o5 (iterZ m k x % m.mod).toNat (by omega)
  rw [prodZ, Int.natAbs_mul]
  refine Nat.Coprime.mul_left (prod_free hm hf x k) ?_
  have : (m.mul.getD (iterZ m k x % m.mod).toNat 0).natAbs = (m.mul.getD (iterZ m k x % m.mod).toNat 0).toNat := by omega
  rw [this]
  have hp := Nat.gcd_pos_of_pos_right (m.mul.getD (iterZ m k x % m.mod).toNat 0).toNat (show 0 < m.mod.toNat by omega)
  show Nat.gcd _ _ = 1
  omega
theorem word_rest {m : MapM} (hm : OkM m) (hf : freeM m) (x y : Int) : ∀ k, wordZ m x k = wordZ m y k ↔ ∃ e, y = x + e * m.mod ^ k
 | 0 => by
  constructor
  ·intro _; exact ⟨y - x, by rw [Int.pow_zero]; omega⟩
  ·intro _; rfl
 | k + 1 => by
  have hm2 := hm
  obtain ⟨o1, o2, o3, o4, o5⟩ := hm2
  have ih := word_rest hm hf x y k
  have hstep : ∀ e, y = x + e * m.mod ^ k → iterZ m k y = iterZ m k x + e * prodZ m x k := fun e he => by
   have := alike_end hm x e k
   rw [he]; omega
  rw [wordZ, wordZ]
  constructor
  ·intro h
   have hl := List.append_inj h (by rw [wordZ_len, wordZ_len])
   obtain ⟨e, he⟩ := ih.1 hl.1
   have hr : iterZ m k x % m.mod = iterZ m k y % m.mod := by simpa using hl.2
   rw [hstep e he] at hr
   have hd : m.mod ∣ e * prodZ m x k := by
    have := Int.emod_emod_of_dvd (iterZ m k x) (Int.dvd_refl m.mod)
    have h2 := Int.emod_eq_emod_iff_emod_sub_eq_zero.1 hr.symm
    rw [show iterZ m k x + e * prodZ m x k - iterZ m k x = e * prodZ m x k by omega] at h2
    exact Int.dvd_of_emod_eq_zero h2
   have hn := Int.natAbs_dvd_natAbs.2 hd
   rw [Int.natAbs_mul] at hn
   have hmn : m.mod.natAbs = m.mod.toNat := by omega
   rw [hmn] at hn
   have he2 : m.mod.toNat ∣ e.natAbs := Nat.Coprime.dvd_of_dvd_mul_right ((prod_free hm hf x k).symm) hn
   rw [← hmn] at he2
   obtain ⟨d, hd2⟩ := Int.natAbs_dvd_natAbs.1 he2
   exact ⟨d, by rw [he, hd2, Int.pow_succ, Int.mul_comm (m.mod ^ k), ← Int.mul_assoc, Int.mul_comm d]⟩
  ·rintro ⟨e, he⟩
   have he' : y = x + (e * m.mod) * m.mod ^ k := by rw [he, Int.pow_succ, Int.mul_comm (m.mod ^ k), Int.mul_assoc]
   rw [ih.2 ⟨_, he'⟩, hstep _ he', Int.mul_assoc, Int.mul_left_comm, Int.add_mul_emod_self_left]
theorem solve : ∀ n, n < 13 → ∀ p, p < n → Nat.gcd p n = 1 → ∀ a, a < n → ∀ r, r < n → ∃ t, t < n ∧ (a + t * p) % n = r := by decide +kernel
theorem prod_line (m : MapM) (z : Int) : ∀ k, prodZ m z k = (lineZ m (wordZ m z k)).mul
 | 0 => rfl
 | k + 1 => by
  rw [prodZ, wordZ, lineZ_snoc, prod_line m z k, Int.mul_comm]
  rfl
def lookT (p n a r : Int) : Nat := ((List.range n.toNat).find? fun (t : Nat) => decide ((a + (t : Int) * p) % n = r)).getD 0
theorem lookT_ok {p n a r : Int} (hn : 0 < n) (hn2 : n ≤ 12) (hp : Nat.gcd p.natAbs n.toNat = 1) (hr : 0 ≤ r) (hr2 : r < n) : (lookT p n a r : Int) < n ∧ (a + (lookT p n a r : Int) * p) % n = r := by
 have hp0 := Int.emod_nonneg p (show n ≠ 0 by omega)
 have hp1 := Int.emod_lt_of_pos p hn
 have ha0 := Int.emod_nonneg a (show n ≠ 0 by omega)
 have ha1 := Int.emod_lt_of_pos a hn
 have hg : Nat.gcd (p % n).toNat n.toNat = 1 := by
  have h1 : Int.gcd (p % n) n = Int.gcd p n := by
   rw [Int.gcd_comm, Int.gcd_comm p]
   have := Int.gcd_add_mul_left_right n (p % n) (p / n)
   rw [← this, Int.add_comm, Int.mul_ediv_add_emod]
  unfold Int.gcd at h1
  rw [show (p % n).natAbs = (p % n).toNat by omega, show n.natAbs = n.toNat by omega] at h1
  rw [h1]; exact hp
 obtain ⟨t, ht, he⟩ := solve n.toNat (by omega) (p % n).toNat (by omega) hg (a % n).toNat (by omega) r.toNat (by omega)
 have hz : (a + (t : Int) * p) % n = r := by
  have h2 : (((a % n).toNat + t * (p % n).toNat : Nat) : Int) % (n.toNat : Int) = (r.toNat : Int) := by rw [← Int.natCast_emod, he]
  rw [Int.toNat_of_nonneg (by omega), Int.toNat_of_nonneg hr, Int.natCast_add, Int.natCast_mul, Int.toNat_of_nonneg ha0, Int.toNat_of_nonneg hp0] at h2
  rw [← h2]
  simp [Int.add_emod, Int.mul_emod]
 have hs : ((List.range n.toNat).find? fun (t : Nat) => decide ((a + (t : Int) * p) % n = r)).isSome = true := by
  rw [List.find?_isSome]
  exact ⟨t, by simpa using ht, by simpa using hz⟩
 obtain ⟨u, hu⟩ := Option.isSome_iff_exists.1 hs
 unfold lookT
 rw [hu]
 have h1 := List.find?_some hu
 have h2 := List.mem_of_find?_eq_some hu
 simp at h1 h2
 exact ⟨by show (u : Int) < n; omega, h1⟩
def nextR (m : MapM) (s : Int × LinZ) (r : Int) : Int × LinZ := (s.1 + (lookT s.2.mul m.mod ((s.2.mul * s.1 + s.2.add) / s.2.div) r : Int) * s.2.div, thenZ m s.2 r)
def restZ (m : MapM) (w : List Int) : Int × LinZ := w.foldl (nextR m) (0, oneZ)
theorem restZ_snoc (m : MapM) (w : List Int) (r : Int) : restZ m (w ++ [r]) = nextR m (restZ m w) r := by unfold restZ; rw [List.foldl_append]; rfl
def IsW (m : MapM) (w : List Int) : Prop := ∀ r ∈ w, 0 ≤ r ∧ r < m.mod
theorem restZ_ok {m : MapM} (hm : OkM m) (hf : freeM m) : ∀ w : List Int, IsW m w → (restZ m w).2 = lineZ m w ∧ 0 ≤ (restZ m w).1 ∧ (restZ m w).1 < m.mod ^ w.length ∧ wordZ m (restZ m w).1 w.length = w := by
 refine snoc_ind (P := fun w => IsW m w → (restZ m w).2 = lineZ m w ∧ 0 ≤ (restZ m w).1 ∧ (restZ m w).1 < m.mod ^ w.length ∧ wordZ m (restZ m w).1 w.length = w) (fun _ => ⟨rfl, Int.le_refl 0, by simp [restZ], rfl⟩) fun w r ih hw => ?_
 have hw1 : IsW m w := fun x hx => hw x (by simp [hx])
 obtain ⟨hr0, hr1⟩ := hw r (by simp)
 obtain ⟨h1, h2, h3, h4⟩ := ih hw1
 have hm2 := hm
 obtain ⟨o1, o2, o3, o4, o5⟩ := hm2
 obtain ⟨R, hR⟩ : ∃ R, R = (restZ m w).1 := ⟨_, rfl⟩
 rw [← hR] at h2 h3 h4
 have hdiv := lineZ_div m w
 have hpos : 0 < m.mod ^ w.length := Int.pow_pos (by omega)
 have hli := line_iter hm R w.length
 rw [h4] at hli
 have hpl := prod_line m R w.length
 rw [h4] at hpl
 have ha : ((lineZ m w).mul * R + (lineZ m w).add) / (lineZ m w).div = iterZ m w.length R := by
  rw [← hli]
  exact Int.mul_ediv_cancel _ (by rw [hdiv]; omega)
 have hcop : Nat.gcd (lineZ m w).mul.natAbs m.mod.toNat = 1 := by rw [← hpl]; exact prod_free hm hf R w.length
 obtain ⟨ht1, ht2⟩ := lookT_ok (p := (lineZ m w).mul) (a := iterZ m w.length R) (by omega) o2 hcop hr0 hr1
 obtain ⟨t, ht⟩ : ∃ t : Nat, t = lookT (lineZ m w).mul m.mod (iterZ m w.length R) r := ⟨_, rfl⟩
 rw [← ht] at ht1 ht2
 have hs : restZ m (w ++ [r]) = (R + (t : Int) * m.mod ^ w.length, thenZ m (lineZ m w) r) := by
  rw [restZ_snoc]
  unfold nextR
  rw [h1, ← hR, ha, hdiv, ← ht]
 rw [hs, lineZ_snoc]
 have hlen : (w ++ [r]).length = w.length + 1 := by simp
 refine ⟨rfl, ?_, ?_, ?_⟩
 ·show 0 ≤ R + (t : Int) * m.mod ^ w.length
  have := Int.mul_nonneg (show (0 : Int) ≤ (t : Int) by omega) (show 0 ≤ m.mod ^ w.length by omega)
  omega
 ·show R + (t : Int) * m.mod ^ w.length < m.mod ^ (w ++ [r]).length
  rw [hlen, Int.pow_succ]
  have := Int.mul_le_mul_of_nonneg_left (show (t : Int) + 1 ≤ m.mod by omega) (show 0 ≤ m.mod ^ w.length by omega)
  rw [Int.mul_add, Int.mul_one, Int.mul_comm _ (t : Int)] at this
  omega
 ·show wordZ m (R + (t : Int) * m.mod ^ w.length) (w ++ [r]).length = w ++ [r]
  rw [hlen, wordZ]
  have e1 : wordZ m (R + (t : Int) * m.mod ^ w.length) w.length = w := by
   rw [← (word_rest hm hf R (R + (t : Int) * m.mod ^ w.length) w.length).2 ⟨t, rfl⟩, h4]
  have e2 := alike_end hm R (t : Int) w.length
  have e3 : iterZ m w.length (R + (t : Int) * m.mod ^ w.length) = iterZ m w.length R + (t : Int) * (lineZ m w).mul := by rw [← hpl]; omega
  rw [e1, e3, ht2]
end Go.Mth

namespace Go.Proofs.YtdmkejloknejdaaGreatDoor
open Go Go.Shelf Go.RowKit Go.Lib Go.Ab Go.Mth
theorem i122 : (Tryz.prog.info? 145).map (fun i => (i.zero, i.size, i.bytes)) = some (some (Value.int IntKind.u32 0), 1, 4) := by kernel_rfl
set_option maxHeartbeats 4000000 in
set_option maxRecDepth 100000 in
theorem insert_front (b off n vb voff vc : Nat) (cs : List Value) (x : Value) (w : World) (hn : 0 < n) (hbig : (n + 1) * 4 ≤ 140737488355328) (hcl : cs.length = n)
  (hcs : ∀ j v, cs[j]? = some v → w.cell? ⟨b, off + j, none⟩ = some v) (hx : w.cell? ⟨vb, voff, none⟩ = some x) (h1c : ∀ v ∈ cs, v.oneCell' = true) (h1x : x.oneCell' = true) :
  Calls Tryz.prog 160 #[.slice (some ⟨b, off, none⟩) n n, .int .i64 0, .slice (some ⟨vb, voff, none⟩) 1 vc] w fun e w' =>
   e = .returned (.slice (some ⟨w.heap.size, 0, none⟩) (n + 1) (grownCap w (n + 1) n 145)) ∧
   w' = (((w.alloc (.cells (Builtin.zeroCells (Value.int .u32 0).cells (n + 1) ++ Builtin.zeroCells (Value.int .u32 0).cells (grownCap w (n + 1) n 145 - (n + 1))) 145)).drew.setCells w.heap.size 0 [x]).drew).setCells w.heap.size 1 cs := by
 have t3 := Tryz.underlying3; have a3 := Tryz.isAgg3; have z3 := Tryz.sizeOf3; have v3 := Tryz.zeroValue3; have t4 := Tryz.underlying4; have a4 := Tryz.isAgg4; have z4 := Tryz.sizeOf4; have v4 := Tryz.zeroValue4
 have t87 := Tryz.underlying88; have a87 := Tryz.isAgg88; have z87 := Tryz.sizeOf88; have v87 := Tryz.zeroValue88; have t122 := Tryz.underlying145; have a122 := Tryz.isAgg145; have z122 := Tryz.sizeOf145; have v122 := Tryz.zeroValue145
 have u3 := run_underlying Tryz.underlying3; have u4 := run_underlying Tryz.underlying4; have u87 := run_underlying Tryz.underlying88; have u122 := run_underlying Tryz.underlying145
 have mixed := mixedT
 obtain ⟨i0, hi0, hz0, hzs, hzb⟩ := info_parts i122
 have hz2 : ¬ ((0 : Int) = (n : Int)) := by omega
 have hz3 : (n : Int) < (n : Int) + 1 := by omega
 have hsz : (Tryz.prog.info? 145).map (·.size) = some 1 := by rw [hi0]; simp [hzs]
 have hbw : b < w.heap.size := block_lt_of_cell (hcs 0 _ (List.getElem?_eq_getElem (by omega)))
 have hvw : vb < w.heap.size := block_lt_of_cell hx
 have hold : (Builtin.firstCells i0.size 0 (.slice (some ⟨b, off, none⟩) 0 n)).run Tryz.prog w.drew = .ok ([] : List Value).toArray w.drew := by
  rw [hzs]
  exact run_firstCells_some w.drew 1 0 ⟨b, off, none⟩ 0 n [] rfl (fun j v hj => by cases hj)
 have hrz : ∀ ty, (Builtin.append_ #[88, 3] ty #[.slice (some ⟨b, off, none⟩) 0 n, .int .i64 ((n : Int) + 1 - 0)]).run Tryz.prog w =
   .ok (.slice (some ⟨w.heap.size, 0, none⟩) (n + 1) (grownCap w (n + 1) n 145)) (w.drew.alloc (.cells (Builtin.zeroCells (Value.int .u32 0).cells (n + 1) ++ Builtin.zeroCells (Value.int .u32 0).cells (grownCap w (n + 1) n 145 - (n + 1))) 145)) := fun ty => by
  have h := Lib.run_append_grow_zeros w 88 3 ty 145 i0 _ .i64 .i64 Tryz.underlying88 Tryz.underlying3 hi0 hz0 (some ⟨b, off, none⟩) 0 n [] hold (n + 1) (by omega) (by omega) (by omega) (by omega) (by rw [hzb]; omega) (by rw [hzb, Nat.zero_add]; exact growslice_fits (by omega) hbig)
  rw [Nat.zero_add] at h
  simpa using h
 obtain ⟨G, hG⟩ : ∃ G, G = grownCap w (n + 1) n 145 := ⟨_, rfl⟩
 obtain ⟨ROW, hROW⟩ : ∃ ROW : Array Value, ROW = Builtin.zeroCells (Value.int .u32 0).cells (n + 1) ++ Builtin.zeroCells (Value.int .u32 0).cells (G - (n + 1)) := ⟨_, rfl⟩
 rw [← hG] at hrz ⊢
 rw [← hROW] at hrz ⊢
 have hRl : n + 1 ≤ ROW.size := by
  rw [hROW]
  simp [Builtin.zeroCells, Value.cells]
 obtain ⟨W1, hW1⟩ : ∃ W1, W1 = w.drew.alloc (.cells ROW 145) := ⟨_, rfl⟩
 rw [← hW1] at hrz
 have hN : ∀ j, j < n + 1 → (W1.cell? ⟨w.heap.size, j, none⟩).isSome = true := fun j hj => by
  rw [hW1, World.cell?_alloc_at (w := w.drew) ROW _ w.heap.size j rfl, Array.getElem?_eq_getElem (by omega)]; rfl
 have hNf : ∀ j, W1.frozen? ⟨w.heap.size, j, none⟩ = false := fun j => by rw [hW1]; exact World.frozen?_alloc_at (w := w.drew) ROW _ w.heap.size j rfl
 have hOb : ∀ j v, w.cell? ⟨b, j, none⟩ = some v → W1.cell? ⟨b, j, none⟩ = some v := fun j v h => by rw [hW1, World.cell?_alloc_past (w := w.drew) _ b j hbw]; exact h
 have hOv : ∀ j v, w.cell? ⟨vb, j, none⟩ = some v → W1.cell? ⟨vb, j, none⟩ = some v := fun j v h => by rw [hW1, World.cell?_alloc_past (w := w.drew) _ vb j hvw]; exact h
 have hcpA : ∀ (W : World), (∀ x, W.cell? x = W1.cell? x) → (∀ x, W.frozen? x = W1.frozen? x) → ∀ ty dc, (Builtin.copy_ #[88, 88] ty #[.slice (some ⟨w.heap.size, 0, none⟩) (n + 1) dc, .slice (some ⟨vb, voff, none⟩) 1 vc]).run Tryz.prog W = .ok (goInt [x].length) (W.setCells w.heap.size 0 [x]) := fun W hWc hWf ty dc =>
  run_copy_cells W _ _ ty 145 w.heap.size 0 (n + 1) dc ⟨vb, voff, none⟩ 1 vc [x] Tryz.underlying88 hsz (by simp only [List.length_cons, List.length_nil, Nat.min_def]; split <;> omega)
   (fun j v hj => by
    cases j with
    | zero => simp at hj; subst hj; rw [Addr.add_lit, hWc]; exact hOv _ _ hx
    | succ j => simp at hj)
   (fun j hj => by rw [hWc]; simp at hj; subst hj; exact hN _ (by omega)) (fun j hj => by rw [hWf]; exact hNf _) (fun v hv => by simp at hv; subst hv; exact h1x)
 have hGn : n + 1 ≤ G := by rw [hG]; exact grownCap_ge w _ _ _
 have hG63 : G ≤ 9223372036854775807 := by
  have := grownCap_le_maxLen w (n + 1) n 145 (by unfold maxLen; omega)
  rw [← hG] at this
  unfold maxLen at this
  omega
 have hbN : b ≠ w.heap.size := by omega
 have hcpB : ∀ (W : World), (∀ a, W.cell? a = (W1.setCells w.heap.size 0 [x]).cell? a) → (∀ a, W.frozen? a = (W1.setCells w.heap.size 0 [x]).frozen? a) → ∀ ty dc sc, (Builtin.copy_ #[88, 88] ty #[.slice (some ⟨w.heap.size, 1, none⟩) n dc, .slice (some ⟨b, off, none⟩) n sc]).run Tryz.prog W = .ok (goInt cs.length) (W.setCells w.heap.size 1 cs) := fun W hWc hWf ty dc sc =>
  run_copy_cells W _ _ ty 145 w.heap.size 1 n dc ⟨b, off, none⟩ n sc cs Tryz.underlying88 hsz (by rw [hcl]; simp only [Nat.min_def]; split <;> omega)
   (fun j v hj => by
    rw [Addr.add_lit, hWc, World.cell?_setCells_out _ _ _ _ _ (fun h _ => absurd h hbN)]
    exact hOb _ v (hcs j v hj))
   (fun j hj => by rw [hWc]; exact isSome_setCells _ _ _ _ (fun t ht => hN _ (by simp at ht; omega)) _ (hN _ (by omega)))
   (fun j hj => by rw [hWf, World.frozen?_setCells]; exact hNf _) (fun v hv => h1c v hv)
 subst hW1
 have hE1 : ∀ x, ((w.alloc (.cells ROW 145)).drew).cell? x = (w.drew.alloc (.cells ROW 145)).cell? x := fun x => rfl
 have hE2 : ∀ x, ((w.alloc (.cells ROW 145)).drew).frozen? x = (w.drew.alloc (.cells ROW 145)).frozen? x := fun x => rfl
 have hF1 : ∀ a, (((w.alloc (.cells ROW 145)).drew.setCells w.heap.size 0 [x]).drew).cell? a = ((w.drew.alloc (.cells ROW 145)).setCells w.heap.size 0 [x]).cell? a := fun x => rfl
 have hF2 : ∀ a, (((w.alloc (.cells ROW 145)).drew.setCells w.heap.size 0 [x]).drew).frozen? a = ((w.drew.alloc (.cells ROW 145)).setCells w.heap.size 0 [x]).frozen? a := fun x => rfl
 have hw1 : IntKind.i64.wrap ((n : Int) + 1) = (n : Int) + 1 := by rw [IntKind.wrap_i64]; omega
 have hw2 : IntKind.i64.wrap 1 = 1 := by decide
 have hG1 : ¬ (G = 1) := by omega
 have hb2 : (1 : Int) ≤ (n : Int) + 1 := by omega
 have hn0 : ¬ (n = 0) := by omega
 have hb1 : (0 : Int) ≤ (n : Int) := by omega
 clear hold hROW hG hRl
 go_enter Tryz.func160, Tryz.ntmps160
 go_wp2_with (first
  | (at_builtin; refine Lib.wpList_append_run _ rfl _ _ _ _ rfl _ _ rfl rfl _ _ (hrz _) ?_)
  | (at_builtin; refine wpList_copy_runI _ rfl _ _ 88 88 rfl _ _ rfl rfl (hcpA _ hE1 hE2 _ _) ?_)
  | (at_builtin; refine wpList_copy_runI _ rfl _ _ 88 88 rfl _ _ rfl rfl (hcpB _ (fun _ => rfl) (fun _ => rfl) _ _ _) ?_))
 go_region_law_o (refine step_copy_runI rfl _ _ 88 88 rfl (.slice (some ⟨w.heap.size, 1, none⟩) n (G - 1)) (.slice (some ⟨b, off, none⟩) n n) (by simp [Act.eval, Act.put]) (by simp [Act.eval, Act.put]) (hcpB _ hF1 hF2 3 (G - 1) n) ?_)
 go_wp2
 go_ret
 exact ⟨rfl, rfl⟩
set_option maxHeartbeats 4000000 in
set_option maxRecDepth 100000 in
theorem insert_empty (base : Option Addr) (vb voff vc : Nat) (x : Value) (w : World) (hx : w.cell? ⟨vb, voff, none⟩ = some x) (h1x : x.oneCell' = true) :
  Calls Tryz.prog 160 #[.slice base 0 0, .int .i64 0, .slice (some ⟨vb, voff, none⟩) 1 vc] w fun e w' =>
   e = .returned (.slice (some ⟨w.heap.size, 0, none⟩) 1 (grownCap w 1 0 145)) ∧ w' = w.drew.alloc (.cells ([x].toArray ++ Builtin.zeroCells (Value.int .u32 0).cells (grownCap w 1 0 145 - 1)) 145) := by
 have t3 := Tryz.underlying3; have a3 := Tryz.isAgg3; have z3 := Tryz.sizeOf3; have v3 := Tryz.zeroValue3; have t4 := Tryz.underlying4; have a4 := Tryz.isAgg4; have z4 := Tryz.sizeOf4; have v4 := Tryz.zeroValue4
 have t87 := Tryz.underlying88; have a87 := Tryz.isAgg88; have z87 := Tryz.sizeOf88; have v87 := Tryz.zeroValue88; have t122 := Tryz.underlying145; have a122 := Tryz.isAgg145; have z122 := Tryz.sizeOf145; have v122 := Tryz.zeroValue145
 have u3 := run_underlying Tryz.underlying3; have u4 := run_underlying Tryz.underlying4; have u87 := run_underlying Tryz.underlying88; have u122 := run_underlying Tryz.underlying145
 have mixed := mixedT
 obtain ⟨i0, hi0, hz0, hzs, hzb⟩ := info_parts i122
 have hsrc : Src Tryz.prog i0.size 88 (.slice (some ⟨vb, voff, none⟩) 1 vc) 1 [x] w := by
  rw [hzs]
  exact Src.ofSlice w Tryz.underlying88 ⟨vb, voff, none⟩ 1 vc [x] rfl (fun j u hj => by
   cases j with
   | zero => simp at hj; subst hj; rw [Addr.add_lit]; exact hx
   | succ j => simp at hj) (fun v hv => by simp at hv; subst hv; exact h1x)
 have hold : (Builtin.firstCells i0.size 0 (.slice base 0 0)).run Tryz.prog w.drew = .ok ([] : List Value).toArray w.drew := by
  rw [hzs]
  cases base with
  | none => exact run_firstCells_none w.drew 1 0 0 0
  | some a => exact run_firstCells_some w.drew 1 0 a 0 0 [] rfl (fun j v hj => by cases hj)
 have hrun : ∀ ty, (Builtin.append_ #[88, 88] ty #[.slice base 0 0, .slice (some ⟨vb, voff, none⟩) 1 vc]).run Tryz.prog w = _ := fun ty =>
  run_append_grow_src w 88 88 ty 145 i0 _ Tryz.underlying88 hi0 hz0 base 0 0 [] hold _ 1 [x] hsrc (by omega) (by omega) (by rw [hzb]; exact growslice_fits (by omega) (by omega))
 go_enter Tryz.func160, Tryz.ntmps160
 cases base with
 | none =>
  go_wp2_with (at_builtin; refine Lib.wpList_append_run _ rfl _ _ _ _ rfl _ _ rfl rfl _ _ (hrun _) ?_)
  go_ret
  exact ⟨rfl, rfl⟩
 | some a =>
  obtain ⟨ab, ao, asp⟩ := a
  go_wp2_with (at_builtin; refine Lib.wpList_append_run _ rfl _ _ _ _ rfl _ _ rfl rfl _ _ (hrun _) ?_)
  all_goals (go_ret; exact ⟨rfl, rfl⟩)
theorem setCells_below {B b : Nat} (hb : B ≤ b) {a : World} : ∀ (vs : List Value) (o : Nat) (w : World), Bel B a w → Bel B a (w.setCells b o vs)
 | [], _, _, h => h
 | v :: r, o, w, h => setCells_below hb r (o + 1) _ (h.setCell hb v)
theorem ret_row {H : Heap} {w w' : World} {xs : List Nat} {k : IntKind} {cap : Nat} (hH : ∀ b o, H b = some o → w.heap[b]? = some o) (hb : Bel w.heap.size w w') (hl : 0 < xs.length) (hle : xs.length ≤ cap) (hcap : cap ≤ maxLen) (hbd : xs.length ≤ 140737488355328)
  (hc : ∀ (j x : Nat), xs[j]? = some x → w'.cell? ⟨w.heap.size, j, none⟩ = some (.int k x)) :
  ∃ H' v, (Ending.returned (.slice (some ⟨w.heap.size, 0, none⟩) xs.length cap)) = .returned v ∧ RepV H' (.sl 1 (ns k xs)) noLoc v ∧ Ext w.heap.size H H' ∧ (∀ b o, H' b = some o → w'.heap[b]? = some o) ∧ Bel w.heap.size w w' := by
 obtain ⟨ob, hob, hcl⟩ := cells_of_cell (hc 0 _ (List.getElem?_eq_getElem hl))
 cases ob with
 | cells o t fr =>
  have hsm : ∀ b x, H b = some x → b < w.heap.size := fun b x h => (Array.getElem?_eq_some_iff.1 (hH b x h)).1
  have hcell : ∀ (j x : Nat), xs[j]? = some x → o[j]? = some (.int k x) := fun j x hj => by
   have := hc j x hj
   unfold World.cell? at this
   rw [hob] at this
   simpa using this
  refine ⟨fun b => if b = w.heap.size then some (.cells o t fr) else H b, _, rfl, ?_, ⟨fun b x h => ?_, fun b h => if_neg (by omega)⟩, fun b x h => ?_, hb⟩
  ·simp only [RepV]
   refine ⟨_, _, _, rfl, hle, hcap, by omega, by simp [ns], ⟨by simpa [ns] using hbd, fun h => by cases h⟩, fun _ => ⟨_, _, o, t, fr, xs.map (fun (x : Nat) => Value.int k (x : Int)), rfl, if_pos rfl, fun j u hu => ?_, ?_, fun u hu => ?_⟩⟩
   ·rw [List.getElem?_map] at hu
    cases hx : xs[j]? with
    | none => rw [hx] at hu; cases hu
    | some x => rw [hx] at hu; cases hu; rw [Nat.zero_add]; exact hcell j x hx
   ·have := RepL.lits (H := fun b => if b = w.heap.size then some (.cells o t fr) else H b) noLoc (xs.map (fun (x : Nat) => Value.int k (x : Int)))
    rw [List.map_map] at this
    exact this
   ·obtain ⟨x, _, rfl⟩ := List.mem_map.1 hu; rfl
  ·show (if b = w.heap.size then _ else H b) = _
   rw [if_neg (by have := hsm b x h; omega)]; exact h
  ·have h' : (if b = w.heap.size then some (Obj.cells o t fr) else H b) = some x := h
   split at h'
   ·rename_i e; subst e; cases h'; exact hob
   ·rw [hb.block b (hsm b x h')]; exact hH b x h'
 | _ => simp [Obj.isCells] at hcl
theorem c_insert (xs : List Nat) (x : Nat) (hxs : xs.length ≤ 1000000000) : ECalls cx 160 [.slc 1 (ns .u32 xs) xs.length, nm .i64 0, .sl 1 (ns .u32 [x])] (.sl 1 (ns .u32 (x :: xs))) := by
 intro H L vals w hG hH hr
 simp only [RepL, RepV, nm, ns_len, Nat.mul_one] at hr
 obtain ⟨v1, _, rfl, ⟨A, n1, rfl, _, _, _, hn1, ⟨_, hA⟩, h1⟩, v2, _, rfl, rfl, v3, _, rfl, ⟨B, n2, vc, rfl, _, _, _, hn2, ⟨_, hB⟩, h2⟩, rfl⟩ := hr
 subst hn1
 simp at hn2
 subst hn2
 obtain ⟨vb, voff, o2, t2, fr2, vs2, rfl, hb2, hc2, hr2, ho2⟩ := h2 (by omega)
 simp only [ns, List.map_cons, List.map_nil, RepL, RepV, nm] at hr2
 obtain ⟨_, _, rfl, rfl, rfl⟩ := hr2
 have hx : w.cell? ⟨vb, voff, none⟩ = some (.int .u32 (x : Int)) := by
  unfold World.cell?
  rw [hH vb _ hb2]
  have := hc2 0 _ rfl
  simpa using this
 by_cases h0 : xs.length = 0
 ·have hx0 : xs = [] := List.length_eq_zero_iff.1 h0
  subst hx0
  refine (insert_empty A vb voff vc _ w hx rfl).mono ?_
  rintro e w' ⟨rfl, rfl⟩
  refine ret_row (xs := [x]) hH ?_ (by simp) (grownCap_ge w _ _ _) (grownCap_le_maxLen w 1 0 145 (by unfold maxLen; omega)) (by simp) ?_
  ·exact (Bel.refl _ _).drew.alloc (Nat.le_refl _) _
  ·intro j y hj
   cases j with
   | zero =>
    simp at hj; subst hj
    rw [World.cell?_alloc_at (w := w.drew) _ _ w.heap.size 0 rfl, Array.getElem?_append_left (by simp)]
    rfl
   | succ j => simp at hj
 ·obtain ⟨b1, off1, o1, t1, fr1, vs1, rfl, hb1, hc1, hr1, ho1⟩ := h1 (by omega)
  have hv1 : vs1 = xs.map (fun (x : Nat) => Value.int .u32 (x : Int)) := by
   have h : ∀ (l : List Nat) (vs : List Value), RepL H (ns .u32 l) noLoc vs → vs = l.map (fun (x : Nat) => Value.int .u32 (x : Int)) := by
    intro l
    induction l with
    | nil => intro vs h; simpa [ns, RepL] using h
    | cons y l ih =>
     intro vs h
     simp only [ns, List.map_cons, RepL, RepV, nm] at h
     obtain ⟨_, r, rfl, rfl, h⟩ := h
     rw [List.map_cons, ih r h]
   exact h xs vs1 hr1
  have hl1 : vs1.length = xs.length := by rw [hv1, List.length_map]
  have hcs : ∀ (j : Nat) (v : Value), vs1[j]? = some v → w.cell? ⟨b1, off1 + j, none⟩ = some v := fun j v hj => by
   unfold World.cell?
   rw [hH b1 _ hb1]
   have := hc1 j v hj
   simpa using this
  refine (insert_front b1 off1 xs.length vb voff vc vs1 _ w (by omega) (by omega) hl1 hcs hx ho1 rfl).mono ?_
  rintro e w' ⟨rfl, rfl⟩
  refine ret_row (xs := x :: xs) hH ?_ (by simp) (grownCap_ge w _ _ _) (grownCap_le_maxLen w (xs.length + 1) xs.length 145 (by unfold maxLen; omega)) (by simp; omega) ?_
  ·exact setCells_below (Nat.le_refl _) _ _ _ (setCells_below (Nat.le_refl _) _ _ _ ((Bel.refl _ _).alloc (Nat.le_refl _) _).drew).drew
  ·obtain ⟨ROW, hROW⟩ : ∃ ROW : Array Value, ROW = Builtin.zeroCells (Value.int .u32 0).cells (xs.length + 1) ++ Builtin.zeroCells (Value.int .u32 0).cells (grownCap w (xs.length + 1) xs.length 145 - (xs.length + 1)) := ⟨_, rfl⟩
   have hRl : xs.length + 1 ≤ ROW.size := by rw [hROW]; simp [Builtin.zeroCells, Value.cells]
   rw [← hROW]
   have hN : ∀ j, j < xs.length + 1 → ((w.drew.alloc (.cells ROW 145)).cell? ⟨w.heap.size, j, none⟩).isSome = true := fun j hj => by
    rw [World.cell?_alloc_at (w := w.drew) ROW _ w.heap.size j rfl, Array.getElem?_eq_getElem (by omega)]; rfl
   intro j y hj
   cases j with
   | zero =>
    simp at hj; subst hj
    rw [World.cell?_setCells_out _ _ _ _ _ (fun _ _ => .inl (by simp))]
    have := World.cell?_setCells_in w.heap.size [Value.int .u32 (x : Int)] 0 (w.drew.alloc (.cells ROW 145)) (fun j hj => hN _ (by simp at hj; omega)) 0 (by simp)
    rw [Nat.add_zero] at this
    exact this
   | succ j =>
    simp at hj
    have hjl : j < xs.length := (List.getElem?_eq_some_iff.1 hj).1
    have := World.cell?_setCells_in w.heap.size vs1 1 (((w.alloc (.cells ROW 145)).drew.setCells w.heap.size 0 [Value.int .u32 (x : Int)]).drew) (fun j hj => isSome_setCells _ _ _ _ (fun t ht => hN _ (by simp at ht; omega)) _ (hN _ (by omega))) j (by omega)
    rw [Nat.add_comm j 1, this]
    subst hv1
    rw [List.getElem_map]
    congr 2
    exact congrArg _ (List.getElem?_eq_some_iff.1 hj).2
end Go.Proofs.YtdmkejloknejdaaGreatDoor

namespace Go.Ab
open Go.Mth
theorem AV.le_nilc' {sz c : Nat} {xs : List AV} (h : 0 < sz) (e : xs = []) (e2 : c = 0) : AV.le (.lit (.slice none 0 0)) (.slc sz xs c) := by subst e; subst e2; exact AV.le_nilc h
def intC (z : Int) : AV := .agg [bp (z < 0), .slc 1 (ns .u32 (digs z.natAbs)) (digs z.natAbs).length]
theorem intC_of {a : AV} {l : List Nat} {c : Nat} {z : Int} (h : AV.agg [a, .sl 1 (ns .u32 l)] = intW z) (hc : c = l.length) : AV.agg [a, .slc 1 (ns .u32 l) c] = intC z := by
 unfold intW intK at h
 simp only [AV.agg.injEq, List.cons.injEq, AV.sl.injEq, and_true, true_and] at h
 have hl := congrArg List.length h.2
 simp only [ns_len] at hl
 unfold intC
 rw [h.1, h.2, hc, hl]
theorem trimc_fin {neg : Bool} {xs : List Nat} {n : Nat} (hx : Dig xs) (hn : n ≤ xs.length) (hv : val (xs.take n) = val xs) (h : n = 0 ∨ xs.getD (n - 1) 0 ≠ 0) :
  AV.agg [AV.lit (.bool (neg && decide (0 < n))), .slc 1 (ns .u32 ((xs.drop 0).take (n - 0))) (n - 0)] = intC (sg neg (val xs)) :=
 intC_of (trim_fin (k := .u32) hx hn hv h) (by rw [List.length_take, List.drop_zero, Nat.sub_zero]; omega)
theorem nc_sg {X n : Nat} (h : n = X) : AV.slc 1 (ns .u32 (digs (sg false n).natAbs)) (digs (sg false n).natAbs).length = AV.slc 1 (ns .u32 (digs X)) (digs X).length := by subst h; rw [sg_abs]
end Go.Ab
namespace Go.Mth
theorem times_step {r a : List Nat} {i c n t : Nat} (hl : r.length = i) (hv : val r + 1000000000 ^ i * c = val (a.take i) * n) (ht : t = a.getD i 0 * n + c) :
  val (r ++ [t % 1000000000]) + 1000000000 ^ (i + 1) * (t / 1000000000) = val (a.take (i + 1)) * n := by
 rw [val_snoc, val_take_succ, hl, Nat.add_assoc, carry, ht, Nat.add_mul, ← hv, Nat.mul_add, ← Nat.mul_assoc]
 omega
theorem times_fin {r : List Nat} {m n c i : Nat} (hi : i = (digs m).length) (hl : r.length = i) (hv : val r + 1000000000 ^ i * c = val ((digs m).take i) * n) : val (r ++ [c]) = m * n := by
 rw [val_snoc, hl, hv, hi, List.take_length, val_digs]
theorem set_zero {o : List Nat} {j : Nat} (h : o.getD j 0 = 0) : o.set j 0 = o := by
 apply List.ext_getElem?
 intro k
 rw [List.getElem?_set]
 split
 ·rename_i e; subst e
  split
  ·rename_i hl
   rw [List.getD_eq_getElem?_getD, List.getElem?_eq_getElem hl] at h
   rw [List.getElem?_eq_getElem hl]
   exact congrArg some (by simpa using h.symm)
  ·rename_i hl; rw [List.getElem?_eq_none (by omega)]
 ·rfl
theorem getD_set_off {o : List Nat} {j k v : Nat} (h : j ≠ k) : (o.set j v).getD k 0 = o.getD k 0 := by
 rw [List.getD_eq_getElem?_getD, List.getD_eq_getElem?_getD, List.getElem?_set_ne h]
theorem quo_top {a b r : Nat} (ha : a < 1000000000) (hr : r < b) : a + 1000000000 * r < b * 1000000000 := by
 have : 1000000000 * r + 1000000000 ≤ 1000000000 * b := by
  have := Nat.mul_le_mul_left 1000000000 (show r + 1 ≤ b by omega)
  omega
 omega
theorem quo_at {X n l : Nat} (h1 : n * l ≤ X) (h2 : X < n * (l + 1)) : X / n = l ∧ X % n = X - n * l := by
 have hn : 0 < n := by rcases Nat.eq_zero_or_pos n with e | e; subst e; simp at h2; exact e
 have hq : X / n = l := by
  apply Nat.le_antisymm
  ·exact Nat.le_of_lt_succ ((Nat.div_lt_iff_lt_mul hn).2 (by rw [Nat.mul_comm]; exact h2))
  ·exact (Nat.le_div_iff_mul_le hn).2 (by rw [Nat.mul_comm]; exact h1)
 refine ⟨hq, ?_⟩
 have := Nat.div_add_mod X n
 rw [hq] at this
 omega
theorem cmpN_le {m n : Nat} (h : cmpN m n ≤ 0) : m ≤ n := by unfold cmpN at h; split at h; omega; split at h <;> omega
theorem cmpN_nle {m n : Nat} (h : ¬ cmpN m n ≤ 0) : n < m := by unfold cmpN at h; split at h; omega; split at h <;> omega
theorem cmpN_neg {m n : Nat} (h : cmpN m n < 0) : m < n := by unfold cmpN at h; split at h; omega; split at h <;> omega
theorem cmpN_nneg {m n : Nat} (h : ¬ cmpN m n < 0) : n ≤ m := by unfold cmpN at h; split at h; omega; split at h <;> omega
theorem quo_skip {a o : List Nat} {j n r : Nat} (hj : j < a.length) (hl : o.length = a.length) (hv : val (a.drop (j + 1)) = n * val (o.drop (j + 1)) + r) (hz : o.getD j 0 = 0) (hX : a.getD j 0 + 1000000000 * r < n) :
  val (a.drop j) = n * val (o.drop j) + (a.getD j 0 + 1000000000 * r) := by
 have h := div_step hj hl (show 0 < n by omega) hv (x := a.getD j 0 + 1000000000 * r) (by omega)
 rw [Nat.div_eq_of_lt hX, Nat.mod_eq_of_lt hX, set_zero hz] at h
 exact h
theorem quo_put {a o : List Nat} {j n r l : Nat} (hj : j < a.length) (hl : o.length = a.length) (hv : val (a.drop (j + 1)) = n * val (o.drop (j + 1)) + r) (h1 : n * l ≤ a.getD j 0 + 1000000000 * r) (h2 : a.getD j 0 + 1000000000 * r < n * (l + 1)) :
  val (a.drop j) = n * val ((o.set j l).drop j) + (a.getD j 0 + 1000000000 * r - n * l) := by
 have hn : 0 < n := by rcases Nat.eq_zero_or_pos n with e | e; subst e; simp at h2; exact e
 have h := div_step hj hl hn hv (x := a.getD j 0 + 1000000000 * r) (by omega)
 have hq := quo_at h1 h2
 rw [hq.1, hq.2] at h
 exact h
theorem quo_rest {X n l : Nat} (h1 : n * l ≤ X) (h2 : X < n * (l + 1)) : X - n * l < n := by rw [Nat.mul_add] at h2; omega
theorem digs_len_mod (m : Nat) {n : Nat} (hn : 0 < n) : (digs (m % n)).length ≤ (digs n).length := digs_len_le (Nat.le_of_lt (Nat.mod_lt m hn))
theorem digs_mul_len (m n : Nat) : (digs (m * n)).length ≤ (digs m).length + (digs n).length := by
 apply digs_len_of_lt
 rw [Nat.pow_add]
 have h1 := digs_hi m
 have h2 := digs_hi n
 rcases Nat.eq_zero_or_pos n with e | e
 ·subst e; rw [Nat.mul_zero]; exact Nat.mul_pos (by omega) (by omega)
 ·exact Nat.lt_of_lt_of_le (Nat.mul_lt_mul_of_pos_right h1 e) (Nat.mul_le_mul_left _ (Nat.le_of_lt h2))
theorem dgn_val (k n : Nat) (h : n < 1000000000 ^ k) : val (dgn k n) = n := by rw [val_dgn, Nat.mod_eq_of_lt h]
theorem val_quo (m n : Nat) : val (dgn (digs m).length (m / n)) = m / n := dgn_val _ _ (Nat.lt_of_le_of_lt (Nat.div_le_self m n) (digs_hi m))
end Go.Mth

namespace Go.Mth
open Go.Ab
abbrev qN (x y : Int) : Nat := val (dgn (digs x.natAbs).length (x.natAbs / y.natAbs))
abbrev rN (x y : Int) : Nat := val (digs (x.natAbs % y.natAbs))
theorem qN_eq (x y : Int) : qN x y = x.natAbs / y.natAbs := val_quo _ _
theorem rN_eq (x y : Int) : rN x y = x.natAbs % y.natAbs := val_digs _
theorem len_qN (b : Bool) (x y : Int) : (digs (sg b (qN x y)).natAbs).length ≤ (digs x.natAbs).length := by
 rw [sg_abs, qN_eq]; exact digs_len_le (Nat.div_le_self _ _)
theorem len_rN (b : Bool) (x y : Int) : (digs (sg b (rN x y)).natAbs).length ≤ (digs x.natAbs).length := by
 rw [sg_abs, rN_eq]; exact digs_len_le (Nat.mod_le _ _)
theorem div1 {x y : Int} (hx : ¬ x < 0) (hy : 0 < y) : x / y = sg false (qN x y) ∧ x % y = sg false (rN x y) := by
 have h := part1 (d := y.natAbs) hx (by omega) (qN_eq x y) (rN_eq x y)
 rw [show ((y.natAbs : Nat) : Int) = y by omega] at h
 exact ⟨h.1, h.2⟩
theorem sgn_neg {z : Int} : sgn z < 0 ↔ z < 0 := by unfold sgn; repeat' split <;> omega
theorem sgn_pos {z : Int} : 0 < sgn z ↔ 0 < z := by unfold sgn; repeat' split <;> omega
theorem sgn_le {z : Int} : sgn z ≤ 0 ↔ z ≤ 0 := by unfold sgn; repeat' split <;> omega
theorem div2 {x y : Int} (hx : x < 0) (hy : 0 < y) (h : sgn (sg true (rN x y)) < 0) : x / y = sg true (qN x y) - 1 ∧ x % y = sg true (rN x y) + y := by
 have h0 := (sg_neg true _).1 (sgn_neg.1 h)
 have h := part3 (d := y.natAbs) hx (by omega) (qN_eq x y) (rN_eq x y) (by omega)
 rw [show ((y.natAbs : Nat) : Int) = y by omega] at h
 simp only [sg, if_true]
 exact ⟨h.1, by rw [h.2]; omega⟩
theorem div3 {x y : Int} (hx : x < 0) (hy : 0 < y) (h : ¬ sgn (sg true (rN x y)) < 0) : x / y = sg true (qN x y) ∧ x % y = sg true (rN x y) := by
 have h0 : rN x y = 0 := by
  rcases Nat.eq_zero_or_pos (rN x y) with e | e
  ·exact e
  ·exact absurd (sgn_neg.2 ((sg_neg true _).2 ⟨rfl, e⟩)) h
 have h := part2 (d := y.natAbs) hx (by omega) (qN_eq x y) (rN_eq x y) h0
 rw [show ((y.natAbs : Nat) : Int) = y by omega] at h
 simp only [sg, if_true]
 exact ⟨h.1, by rw [h.2, h0]; rfl⟩
theorem gcd_next {u v g : Nat} (h : Nat.gcd u v = g) : Nat.gcd v (u % v) = g := by rw [← h, Nat.gcd_comm u v, Nat.gcd_rec v u, Nat.gcd_comm]
theorem gcd_end {u v g : Nat} (h : Nat.gcd u v = g) (hv : v = 0) : g = u := by subst hv; simpa using h.symm
end Go.Mth

namespace Go.Mth
open Go.Ab
noncomputable def divQ (a b : ByteArray) : ByteArray := if okS a = true ∧ okS b = true ∧ 0 < numS b then txt (numS a / numS b) else { data := #[] }
noncomputable def divR (a b : ByteArray) : ByteArray := if okS a = true ∧ okS b = true ∧ 0 < numS b then txt (numS a % numS b) else { data := #[] }
noncomputable def divE (a b : ByteArray) : Nat := if okS a = true ∧ okS b = true then (if 0 < numS b then 0 else 2) else 1
def powIn (n : Int) : Prop := 0 ≤ n ∧ n ≤ 10000
instance (n : Int) : Decidable (powIn n) := inferInstanceAs (Decidable (0 ≤ n ∧ n ≤ 10000))
noncomputable def powS (a : ByteArray) (n : Int) : ByteArray := if okS a = true ∧ powIn n then toldS (numS a ^ n.toNat) else { data := #[] }
noncomputable def powE (a : ByteArray) (n : Int) : Nat := if okS a = true then (if powIn n then toldE (numS a ^ n.toNat) else 2) else 1
def rstIn (d : Int) : Prop := 1 ≤ d ∧ d ≤ 2147483647
instance (d : Int) : Decidable (rstIn d) := inferInstanceAs (Decidable (1 ≤ d ∧ d ≤ 2147483647))
noncomputable def rstV (a : ByteArray) (d : Int) : Int := if okS a = true ∧ rstIn d then numS a % d else 0
noncomputable def rstE (a : ByteArray) (d : Int) : Nat := if okS a = true then (if rstIn d then 0 else 2) else 1
theorem pow_yes {a : ByteArray} {n : Int} (h : okS a = true) (hn : powIn n) : powS a n = toldS (numS a ^ n.toNat) ∧ powE a n = toldE (numS a ^ n.toNat) := ⟨if_pos ⟨h, hn⟩, by unfold powE; rw [if_pos h, if_pos hn]⟩
theorem told_fit {z : Int} (h : Fit z) : toldS z = txt z ∧ toldE z = 0 := ⟨if_pos h, if_pos h⟩
theorem txt_one : txt 1 = ⟨#[49]⟩ := by
 simp [txt, txtL, decs, strN]
 rfl
theorem pow_zero {a : ByteArray} (h : okS a = true) : powS a 0 = { data := #[49] } ∧ powE a 0 = 0 := by
 have := pow_yes h (n := 0) ⟨by decide, by decide⟩
 rw [this.1, this.2]
 show toldS (numS a ^ 0) = _ ∧ toldE (numS a ^ 0) = _
 rw [Int.pow_zero]
 have hf : Fit 1 := fit_of_pow (k := 1) (by decide) (by decide) (by decide)
 exact ⟨(told_fit hf).1.trans txt_one, (told_fit hf).2⟩
end Go.Mth

namespace Go.Mth
open Go.Ab
noncomputable def sumS (a b : ByteArray) : ByteArray := if okS a && okS b then toldS (numS a + numS b) else { data := #[] }
noncomputable def proS (a b : ByteArray) : ByteArray := if okS a && okS b then toldS (numS a * numS b) else { data := #[] }
def alikeS (a b : ByteArray) : Prop := a = { data := #[] } ∨ b = { data := #[] } ∨ a = b
noncomputable instance (a b : ByteArray) : Decidable (alikeS a b) := Classical.propDecidable _
def divsS (d n : ByteArray) : Prop := divE n d = 0 ∧ divR n d = ⟨#[48]⟩
noncomputable instance (d n : ByteArray) : Decidable (divsS d n) := Classical.propDecidable _
end Go.Mth

namespace Go.Mth
open Go.Ab
variable {a b c : ByteArray}
noncomputable abbrev gG (a b : ByteArray) : ByteArray := if okS a && okS b then toldS ((Int.gcd (numS a) (numS b) : Nat) : Int) else { data := #[] }
end Go.Mth

namespace Go.Ab
open Go.RowKit
mutual
/-- Does a value name no own object but one row? -/
def AV.only (id : Nat) : AV → Bool
 | .ref .. => false
 | .vw .. => false
 | .row i => Nat.beq i id
 | .agg fs => onlyL id fs
 | .tup fs => onlyL id fs
 | .clo _ fs => onlyL id fs
 | _ => true
def onlyL (id : Nat) : List AV → Bool
 | [] => true
 | x :: xs => x.only id && onlyL id xs
end
mutual
theorem RepV.only {H : Heap} {id : Nat} {rv : Value} : ∀ {x : AV} {L : Loc} {v : Value}, L id = some rv → x.only id = true → RepV H x L v → RepV H x (noLoc.set id (some rv)) v
 | .any, _, _, _, _, _ => by simp [RepV]
 | .lit _, _, _, _, _, h => by simpa [RepV] using h
 | .sl sz cs, _, _, _, _, h => by simpa [RepV] using h
 | .slc sz cs _, _, _, _, _, h => by simpa [RepV] using h
 | .agg fs, _, _, hl, hn, h => by
  simp only [RepV, AV.only] at h hn ⊢
  obtain ⟨vs, rfl, hr, h1⟩ := h
  exact ⟨vs, rfl, RepL.only hl hn hr, h1⟩
 | .tup fs, _, _, hl, hn, h => by
  simp only [RepV, AV.only] at h hn ⊢
  obtain ⟨vs, rfl, hr⟩ := h
  exact ⟨vs, rfl, RepL.only hl hn hr⟩
 | .ref i off, _, _, _, hn, h => by simp [AV.only] at hn
 | .vw .., _, _, _, hn, h => by simp [AV.only] at hn
 | .row i, _, _, hl, hn, h => by
  simp only [AV.only] at hn
  have := Nat.eq_of_beq_eq_true hn
  subst this
  simp only [RepV] at h ⊢
  rw [hl] at h
  exact ⟨by simp [Loc.set, h.1], h.2⟩
 | .ip cs, _, _, _, _, h => by simpa [RepV] using h
 | .clo f cs, _, _, hl, hn, h => by
  simp only [RepV, AV.only] at h hn ⊢
  obtain ⟨vs, rfl, hr⟩ := h
  exact ⟨vs, rfl, RepL.only hl hn hr⟩
theorem RepL.only {H : Heap} {id : Nat} {rv : Value} : ∀ {xs : List AV} {L : Loc} {vs : List Value}, L id = some rv → onlyL id xs = true → RepL H xs L vs → RepL H xs (noLoc.set id (some rv)) vs
 | [], _, _, _, _, h => by simpa [RepL] using h
 | x :: xs, _, _, hl, hn, h => by
  simp only [RepL, onlyL, Bool.and_eq_true] at h hn ⊢
  obtain ⟨v, r, rfl, h1, h2⟩ := h
  exact ⟨v, r, rfl, RepV.only hl hn.1 h1, RepL.only hl hn.2 h2⟩
end
def postM (C : Ctx) (fn : Func) (res : AV) (id : Nat) (e : TypeId) (sz : Nat) (cs : List AV) : Exit → St → Prop
 | .normal, σ => ∃ vs, ResOk C σ fn.results.toList vs ∧ onlyL id vs = true ∧ lookO σ.objs id = some (.row e sz cs) ∧ res = packR vs
 | .ret, σ => ∃ vs, ResOk C σ fn.results.toList vs ∧ onlyL id vs = true ∧ lookO σ.objs id = some (.row e sz cs) ∧ res = packR vs
 | _, _ => False
theorem postM_ret {C : Ctx} {fn : Func} {res : AV} {id : Nat} {e : TypeId} {sz : Nat} {cs : List AV} {σ : St} (h : ∃ vs, ResOk C σ fn.results.toList vs ∧ onlyL id vs = true ∧ lookO σ.objs id = some (.row e sz cs) ∧ res = packR vs) : postM C fn res id e sz cs .ret σ := h
theorem ecallsM_of_awp {C : Ctx} {f : FuncId} {fn : Func} {c : Code} {args : List AV} {res : AV} {id : Nat} {e : TypeId} {sz : Nat} {cs : List AV} (hf : C.P.funcs[f]? = some fn) (hb : fn.body = some c) (hn : args.length ≤ fn.ntmps) (h : awp C fn.ntmps c (postM C fn res id e sz cs) (entry args)) (hmk : C.marks = [] := by rfl) : ECallsM C f args res id e sz cs := by
 intro H L vals w hG hH hr
 refine calls_of_wp hf hb ((wpIn_wide (n := 0)).1 ?_)
 have hrep := entry_Rep hmk hG hH hn hr
 refine wpIn_mono (h w H L _ w hrep none) fun ex a' w' hp => ?_
 obtain ⟨σ', H', L', hx, hr', hq⟩ := hp
 have fin : (∃ vs, ResOk C σ' fn.results.toList vs ∧ onlyL id vs = true ∧ lookO σ'.objs id = some (.row e sz cs) ∧ res = packR vs) → a'.defers = [] ∧ ∃ v, (results fn a'.tmps).run C.P w' = .ok v w' ∧
   ∃ H' v' rv, Ending.returned v = .returned v' ∧ RepV H' res (noLoc.set id (some rv)) v' ∧ RepO H' w.heap.size w' (noLoc.set id (some rv)) id (.row e sz cs) ∧ Ext w.heap.size H H' ∧ (∀ b o, H' b = some o → w'.heap[b]? = some o) ∧ Bel w.heap.size w w' := by
  rintro ⟨vs, hres, hcl, ho, rfl⟩
  obtain ⟨us, hrun, hrl⟩ := res_run hr' _ _ hres
  have hlu := hrl.length
  obtain ⟨rv, vs', m, hl0, hlen, hown, hrl', h1, hsz, hbd, hH⟩ := hr'.objs id _ ho
  refine ⟨hr'.defers.trans hmk, if h : us.toArray.size = 1 then us.toArray[0] else .tuple us.toArray, ?_, H', _, rv, rfl, ?_, ⟨rv, vs', m, by simp [Loc.set], hlen, hown, hrl', h1, hsz, hbd, hH⟩, hx, hr'.heap, hr'.below⟩
  ·show (do let vs ← fn.results.mapM (resOne a'.tmps); pure (if h : vs.size = 1 then vs[0] else .tuple vs) : Sem Value).run C.P w' = _
   have hm : (fn.results.mapM (resOne a'.tmps)).run C.P w' = .ok us.toArray w' := by
    rw [Array.mapM_eq_mapM_toList]
    simp [hrun]
   simp only [Sem.run_bind, hm, Result.andThen_ok, Sem.run_pure]
  ·have hrc := RepL.only hl0 hcl hrl
   match vs, us, hrc, hlu with
   | [v], [u], hrc, _ =>
    simp only [packR]
    simp only [RepL] at hrc
    obtain ⟨x, r, e, hx, _⟩ := hrc
    cases e
    simpa using hx
   | [], us, hrc, hlu =>
    have : us = [] := List.eq_nil_of_length_eq_zero (by simpa using hlu)
    subst this
    simp only [packR, RepV]
    exact ⟨[], by simp, hrc⟩
   | v1 :: v2 :: vs, us, hrc, hlu =>
    simp only [packR, RepV]
    refine ⟨us, ?_, hrc⟩
    rw [dif_neg (by simp at hlu ⊢; omega)]
 cases ex with
 | normal => exact fin hq
 | ret => exact fin hq
 | _ => exact hq.elim
end Go.Ab

namespace Go.Ab
open Go.RowKit
def postS (C : Ctx) (fn : Func) (res : AV) (m' : List (Nat × AO)) (pid : Nat) (cs : List AV) (us : List Value) : Exit → St → Prop
 | .normal, σ => ∃ vs, ResOk C σ fn.results.toList vs ∧ res = packR vs ∧ (∀ id ob, lookO m' id = some ob → lookO σ.objs id = some ob) ∧ lookO σ.objs pid = some (.pin cs us)
 | .ret, σ => ∃ vs, ResOk C σ fn.results.toList vs ∧ res = packR vs ∧ (∀ id ob, lookO m' id = some ob → lookO σ.objs id = some ob) ∧ lookO σ.objs pid = some (.pin cs us)
 | _, _ => False
def SCalls (C : Ctx) (n : Nat) (f : FuncId) (args : List AV) (so : List (Nat × AV)) (m : List (Nat × AO)) (res : AV) (m' : List (Nat × AO)) : Prop :=
 ∀ (w0 : World) (H : Heap) (L : Loc) (a : Act) (w : World) (vals : List Value), Rep C n w0 H L (St.sem ⟨so, m⟩) a w → RepL H args L vals →
  Calls C.P f vals.toArray w fun e w' => ∃ v H' L', e = .returned v ∧ Ext w0.heap.size H H' ∧ RepV H' res L' v ∧ Rep C n w0 H' L' (St.sem ⟨so, m'⟩) a w'
theorem pin_slots {H : Heap} {L : Loc} : ∀ {so : List (Nat × AV)} {t : Nat → Value}, RepL H (valsOf so) L (so.map fun p => t p.1) → ∀ i, RepV H (look so i) L (t i)
 | [], t, _, i => by simp [look, RepV]
 | (j, v) :: r, t, h, i => by
  simp only [valsOf, List.map_cons, RepL] at h
  obtain ⟨x, xs, e, h1, h2⟩ := h
  cases e
  simp only [look]
  cases hb : Nat.beq j i with
  | true =>
   have := Nat.eq_of_beq_eq_true hb
   subst this
   exact h1
  | false => exact pin_slots h2 i
theorem slots_pin {H : Heap} {L : Loc} {t : Nat → Value} : ∀ {so : List (Nat × AV)}, (so.map (·.1)).Nodup → (∀ i, RepV H (look so i) L (t i)) → RepL H (valsOf so) L (so.map fun p => t p.1)
 | [], _, _ => by simp [valsOf, RepL]
 | (j, v) :: r, hnd, h => by
  simp only [List.map_cons, List.nodup_cons] at hnd
  simp only [valsOf, List.map_cons, RepL]
  refine ⟨_, _, rfl, by simpa [look] using h j, slots_pin hnd.2 fun i => ?_⟩
  have hi := h i
  simp only [look] at hi
  cases hb : Nat.beq j i with
  | true =>
   have := Nat.eq_of_beq_eq_true hb
   subst this
   have hno : ∀ (l : List (Nat × AV)), j ∉ l.map (·.1) → look l j = .any := by
    intro l
    induction l with
    | nil => intro _; rfl
    | cons p l ih =>
     intro hl
     simp only [List.map_cons, List.mem_cons, not_or] at hl
     obtain ⟨p1, p2⟩ := p
     simp only [look]
     rw [beq_ne (fun e => hl.1 e.symm)]
     exact ih hl.2
   rw [hno r hnd.1]
   simp [RepV]
  | false => rw [hb] at hi; exact hi
theorem scalls_of_awp {C : Ctx} {n : Nat} {f : FuncId} {fn : Func} {c : Code} {args : List AV} {so : List (Nat × AV)} {m m' : List (Nat × AO)} {res : AV} (pid : Nat) (hf : C.P.funcs[f]? = some fn) (hb : fn.body = some c) (hn : args.length ≤ fn.ntmps) (hnd : (so.map (·.1)).Nodup)
  (hfr : (St.sem ⟨so, m⟩).Fresh pid) (hpn : hasL pid (valsOf so) = false) (hpa : hasL pid args = false) (h : ∀ us, awp C fn.ntmps c (postS C fn res m' pid (valsOf so) us) ⟨(entry args).slots, (pid, .pin (valsOf so) us) :: m⟩) (hmk : C.marks = [] := by rfl) : SCalls C n f args so m res m' := by
 intro w0 H L a w vals hr hra
 refine calls_of_wp hf hb ((wpIn_wide (n := 0)).1 ?_)
 have hlen := hra.length
 have hp := slots_pin (t := fun i => a.tmps.getD i undef) hnd hr.slot
 have h1 := hr.pinned hfr hp hpn
 have hen := entry_rep (C := C) (w0 := w) hn (RepL.setL (y := some (.tuple #[])) hpa hra)
 have h2 := h1.frame [] (n' := fn.ntmps) (a' := { tmps := vals.toArray ++ Array.replicate (fn.ntmps - vals.toArray.size) undef, defers := [] }) hen.1 rfl (ρ := (entry args).sem.ρ) hen.2
 have e0 : St.sem ⟨(entry args).slots, (pid, .pin (valsOf so) (so.map fun p => a.tmps.getD p.1 undef)) :: m⟩ = { ρ := (entry args).sem.ρ, μ := fun i => if i = pid then some (AO.pin (valsOf so) (so.map fun p => a.tmps.getD p.1 undef)) else (St.sem ⟨so, m⟩).μ i } := by
  unfold St.sem
  congr 1
  funext i
  simp only [lookO]
  by_cases hi : i = pid
  ·subst hi; simp
  ·rw [beq_ne (fun e => hi e.symm)]; simp [hi]
 have hC : { C with marks := [] } = C := by cases C; simp_all
 rw [← e0, hC] at h2
 refine wpIn_mono (h _ w0 H _ _ w h2 none) fun e a' w' hq => ?_
 obtain ⟨σ', H', L', hx, hr', hq⟩ := hq
 have fin : (∃ vs, ResOk C σ' fn.results.toList vs ∧ res = packR vs ∧ (∀ id ob, lookO m' id = some ob → lookO σ'.objs id = some ob) ∧ lookO σ'.objs pid = some (.pin (valsOf so) (so.map fun p => a.tmps.getD p.1 undef))) → a'.defers = [] ∧ ∃ v, (results fn a'.tmps).run C.P w' = .ok v w' ∧
   ∃ v' H' L', Ending.returned v = .returned v' ∧ Ext w0.heap.size H H' ∧ RepV H' res L' v' ∧ Rep C n w0 H' L' (St.sem ⟨so, m'⟩) a w' := by
  rintro ⟨vs, hres, rfl, hm, hpin⟩
  obtain ⟨us, hrun, hrl⟩ := res_run hr' _ _ hres
  have hlu := hrl.length
  obtain ⟨_, hps⟩ := hr'.objs pid _ hpin
  refine ⟨hr'.defers.trans hmk, if h : us.toArray.size = 1 then us.toArray[0] else .tuple us.toArray, ?_, _, H', L', rfl, hx, ?_,
   ⟨hr'.glob, hr'.heap, hr.size, pin_slots hps, fun id o ho => hr'.objs id o (hm id o ho), fun id id' o o' g x x' hne ho ho' => hr'.apart id id' o o' g x x' hne (hm id o ho) (hm id' o' ho'), hr'.below, hr.defers⟩⟩
  ·show (do let vs ← fn.results.mapM (resOne a'.tmps); pure (if h : vs.size = 1 then vs[0] else .tuple vs) : Sem Value).run C.P w' = _
   have hm : (fn.results.mapM (resOne a'.tmps)).run C.P w' = .ok us.toArray w' := by
    rw [Array.mapM_eq_mapM_toList]
    simp [hrun]
   simp only [Sem.run_bind, hm, Result.andThen_ok, Sem.run_pure]
  ·match vs, us, hrl, hlu with
   | [v], [u], hrc, _ =>
    simp only [packR]
    simp only [RepL] at hrc
    obtain ⟨x, r, e, hx, _⟩ := hrc
    cases e
    simpa using hx
   | [], us, hrc, hlu =>
    have : us = [] := List.eq_nil_of_length_eq_zero (by simpa using hlu)
    subst this
    simp only [packR, RepV]
    exact ⟨[], by simp, hrc⟩
   | v1 :: v2 :: vs, us, hrc, hlu =>
    simp only [packR, RepV]
    refine ⟨us, ?_, hrc⟩
    rw [dif_neg (by simp at hlu ⊢; omega)]
 cases e with
 | normal => exact fin hq
 | ret => exact fin hq
 | _ => exact hq.elim
theorem awp_regionS {C : Ctx} {n : Nat} {Q : Exit → St → Prop} {σ : St} {id : Nat} {ops : Array Oper} (os os2 : List Oper) (d : Nat) {y : Operand} {f : FuncId} {caps : List AV} {args : Array Operand} {tys : Array TypeId} {t : TypeId} {p : String} {af : Array Edge} (asx : List AV) (res : AV) (m' : List (Nat × AO))
  (hops : ops.toList = os ++ ⟨some d, .call { callee := .value y, args := args, argTypes := tys }, t, p, af, none⟩ :: os2) (hd : dstsB n ops.toList = true) (hb : callable C.P f = true)
  (h : aops C ops σ os fun _ σ1 => σ1.ev y = .clo f caps ∧ args.toList.map σ1.sem.ev ++ caps = asx ∧ SCalls C n f asx σ1.slots σ1.objs res m' ∧ aops C ops ⟨(d, res) :: σ1.slots, m'⟩ os2 fun _ σ2 => Q .normal σ2) :
  awp C n (.region id ops false) Q σ := fun w0 H L a w hr r => by
 obtain ⟨es, σ1, ht, hy, has, hS, es2, σ2, ht2, hq⟩ := h
 have hdst := dsts_spec hd
 refine wpIn_region ?_
 rw [List.range_eq_range']
 have hsz : ops.size = os.length + (os2.length + 1) := by
  have := congrArg List.length hops
  simpa using this
 rw [hsz, ← List.range'_append_1, List.range'_succ]
 refine lex_prefix (C := C) (n := n) (w0 := w0) r _ os 0 σ.sem σ1.sem es H L a w (by rw [hops]; simp) ht hr (fun o ho => hdst o (by rw [hops]; simp [ho])) fun a' w' H' L' hx hr' => ?_
 simp only [Nat.zero_add]
 rw [wpOpsIn_cons]
 have hi : ops[os.length]? = some ⟨some d, .call { callee := .value y, args := args, argTypes := tys }, t, p, af, none⟩ := by
  rw [← Array.getElem?_toList, hops]
  simp
 unfold wpOpIn
 simp only [hi]
 rw [if_pos (by simp [Region.wanted])]
 have hyv := hr'.ev y
 rw [ev_sem, hy] at hyv
 simp only [RepV] at hyv
 obtain ⟨cv, hev, hcr⟩ := hyv
 have hargs : ∀ (xs : List Operand), RepL H' (xs.map σ1.sem.ev) L' (xs.map a'.eval) := by
  intro xs
  induction xs with
  | nil => simp only [List.map_nil, RepL]
  | cons x xs ih => simp only [List.map_cons, RepL]; exact ⟨_, _, rfl, hr'.ev x, ih⟩
 have hal := (hargs args.toList).app hcr
 rw [has] at hal
 have hc := hS w0 H' L' a' w' _ hr' hal
 have e1 : (List.map a'.eval args.toList ++ cv).toArray = args.map a'.eval ++ cv.toArray := by apply Array.ext'; simp
 rw [e1] at hc
 refine wp_enter (run_call_val rfl hev (callable_spec hb).1 (callable_spec hb).2) (hc.mono ?_) r
 rintro e w2 ⟨v, H2, L2, rfl, hx2, hv2, hr2⟩
 refine ⟨v, rfl, ?_⟩
 have hdn : d < n := hdst ⟨some d, .call { callee := .value y, args := args, argTypes := tys }, t, p, af, none⟩ (by rw [hops]; simp) d rfl
 have hv := hr2.val (dst := some d) (fun d' hd' => by cases hd'; exact hdn) (x := res) (v := v) hv2 [] []
 rw [← sem_app] at hv
 have := lex_prefix (C := C) (n := n) (w0 := w0) (ops := ops) (Q := fun e a w => Post C n w0 H Q e a w) r [] os2 (os.length + 1) _ σ2.sem es2 H2 L2 _ w2 (by rw [hops]; simp) ht2 hv (fun o ho => hdst o (by rw [hops]; simp [ho])) fun a3 w3 H3 L3 hx3 hr3 => ⟨σ2, H3, L3, (hx.trans hx2).trans hx3, hr3, hq⟩
 rw [List.append_nil] at this
 exact this
theorem awp_regionSK {C : Ctx} {n : Nat} {Q : Exit → St → Prop} {σ : St} {id : Nat} {ops : Array Oper} (k d : Nat) (y : Operand) (f : FuncId) (caps : List AV) (args : Array Operand) (tys : Array TypeId) (t : TypeId) (p : String) (af : Array Edge) (asx : List AV) (res : AV) (m' : List (Nat × AO))
  (hk : ops.toList[k]? = some ⟨some d, .call { callee := .value y, args := args, argTypes := tys }, t, p, af, none⟩) (hd : dstsB n ops.toList = true) (hb : callable C.P f = true)
  (h : aops C ops σ (ops.toList.take k) fun _ σ1 => σ1.ev y = .clo f caps ∧ args.toList.map σ1.sem.ev ++ caps = asx ∧ SCalls C n f asx σ1.slots σ1.objs res m' ∧ aops C ops ⟨(d, res) :: σ1.slots, m'⟩ (ops.toList.drop (k + 1)) fun _ σ2 => Q .normal σ2) :
  awp C n (.region id ops false) Q σ := by
 obtain ⟨hl, hx⟩ := List.getElem?_eq_some_iff.1 hk
 refine awp_regionS (y := y) (tys := tys) (t := t) (p := p) (af := af) (ops.toList.take k) (ops.toList.drop (k + 1)) d asx res m' ?_ hd hb h
 have h1 := List.take_append_drop k ops.toList
 rw [List.drop_eq_getElem_cons hl, hx] at h1
 exact h1.symm
end Go.Ab

namespace Go.Ab
open Go.RowKit
section
variable {C : Ctx} {ops : Array Oper} {s : List (Nat × AV)} {m : List (Nat × AO)} {d : Nat} {t : TypeId} {p : String} {af : Array Edge} {g : Option (Nat × Bool)} {os : List Oper} {K : List Eff → St → Prop}
theorem i_append {ty : TypeId} {a x : Operand} {e by' : Nat} {z : List Value} {id i e' : Nat} {k : IntKind} (id' : Nat) (xs ys : List Int) (m' : List (Nat × AO)) (hg : Gd ops s g) (ht : tyElem C.P ty = some (e, 1, by')) (hz : tyZero C.P e = some z) (hzl : z.length = 1)
  (hs : ev s a = .row id) (ho : lookO m id = some (.row e 1 (is k xs))) (hx : ev s x = .row i) (hi : lookO m i = some (.row e' 1 (is k ys))) (hb : (xs.length + ys.length) * by' ≤ 140737488355328) (hby : 0 < by')
  (hf : St.freshB ⟨s, m⟩ id' = true) (hm : delO m id = m') (kk : aops C ops ⟨(d, .row id') :: s, (id', .row e 1 (is k (xs ++ ys))) :: m'⟩ os fun es σ' => K ({ val := .row id', upd := [(id', some (.row e 1 (is k (xs ++ ys)))), (id, none)], use := [id, i], fresh := [id'] } :: es) σ') :
  aops C ops ⟨s, m⟩ (⟨some d, .call { callee := .builtin .append, args := #[a, x], argTypes := #[ty, ty] }, t, p, af, g⟩ :: os) K :=
 o_append id' (is k ys) (is k (xs ++ ys)) [id, i] m' hg ht rfl hz hzl hs ho (.inr ⟨i, e', hx, hi, rfl⟩) (by simp only [is_len, Nat.div_one]; exact hb) (by simp only [is_len]; have := Nat.le_mul_of_pos_right (xs.length + ys.length) hby; omega) (by simp [is]) hf hm kk
theorem i_appendSl {ty : TypeId} {a x : Operand} {e by' : Nat} {z : List Value} {id : Nat} {k : IntKind} (id' : Nat) (xs ys : List Int) (m' : List (Nat × AO)) (hg : Gd ops s g) (ht : tyElem C.P ty = some (e, 1, by')) (hz : tyZero C.P e = some z) (hzl : z.length = 1)
  (hs : ev s a = .row id) (ho : lookO m id = some (.row e 1 (is k xs))) (hx : ev s x = .sl 1 (is k ys)) (hb : (xs.length + ys.length) * by' ≤ 140737488355328) (hby : 0 < by')
  (hf : St.freshB ⟨s, m⟩ id' = true) (hm : delO m id = m') (kk : aops C ops ⟨(d, .row id') :: s, (id', .row e 1 (is k (xs ++ ys))) :: m'⟩ os fun es σ' => K ({ val := .row id', upd := [(id', some (.row e 1 (is k (xs ++ ys)))), (id, none)], use := [id], fresh := [id'] } :: es) σ') :
  aops C ops ⟨s, m⟩ (⟨some d, .call { callee := .builtin .append, args := #[a, x], argTypes := #[ty, ty] }, t, p, af, g⟩ :: os) K :=
 o_append id' (is k ys) (is k (xs ++ ys)) [id] m' hg ht rfl hz hzl hs ho (.inl ⟨hx, rfl⟩) (by simp only [is_len, Nat.div_one]; exact hb) (by simp only [is_len]; have := Nat.le_mul_of_pos_right (xs.length + ys.length) hby; omega) (by simp [is]) hf hm kk
theorem i_slice {ty : TypeId} {x : Operand} {lo hi mx : Option Operand} {e by' : Nat} {k : IntKind} (xs : List Int) (l h : Nat) (hg : Gd ops s g) (ht : tyElem C.P ty = some (e, 1, by')) (hx : ev s x = .sl 1 (is k xs))
  (hlo : (St.sem ⟨s, m⟩).loOk lo l) (hhi : (St.sem ⟨s, m⟩).hiOk hi xs.length h) (hmx : (St.sem ⟨s, m⟩).mxOk mx hi.isSome h) (h1 : l ≤ h) (h2 : h ≤ xs.length)
  (kk : aops C ops ⟨(d, .sl 1 (is k ((xs.drop l).take (h - l)))) :: s, m⟩ os fun es σ' => K ({ val := .sl 1 (is k ((xs.drop l).take (h - l))) } :: es) σ') : aops C ops ⟨s, m⟩ (⟨some d, .slice ty x lo hi mx, t, p, af, g⟩ :: os) K :=
 o_slice l h _ hg ht hx (by simp [is]) hlo hhi hmx h1 h2 (by simp [is, List.map_take, List.map_drop]) kk
def AggEq (P : Program) (ty : TypeId) (xs ys : List Value) (q : Bool) : Prop := P.eqGuardType P.depth ty = false ∧ ∀ w, (Op.equalIn 10000 ty (.agg xs.toArray) (.agg ys.toArray)).run P w = .ok q w
theorem eqGuard_agg {P : Program} {op : BinOp} {t : TypeId} {x y : Operand} {xs ys : Array Value} (hm : P.eqGuardType P.depth t = false) (w : World) : (eqGuard op t x y (.agg xs) (.agg ys)).run P w = .ok () w := run_eqGuard_agg w op t x y xs ys hm
theorem o_pureA {op : Op} {x y : Operand} {xs ys : List Value} {v : Value} (hops : op.operands = #[x, y]) (hg : Gd ops s g) (hx : ev s x = .agg (xs.map .lit)) (hy : ev s y = .agg (ys.map .lit)) (h : ∀ ρ : Operand → Value, ρ x = .agg xs.toArray → ρ y = .agg ys.toArray → ∀ w, (execOp ρ ⟨some d, op, t, p, af, g⟩).run C.P w = .ok (.value v) w)
  (k : aops C ops ⟨(d, .lit v) :: s, m⟩ os fun es σ' => K ({ val := .lit v } :: es) σ') : aops C ops ⟨s, m⟩ (⟨some d, op, t, p, af, g⟩ :: os) K :=
 o_val hg (.pure v fun ρ hρ w => h ρ (hρ x (by simp [hops]) _ (by rw [ev_st, hx]; exact ⟨xs, rfl, rfl⟩)) (hρ y (by simp [hops]) _ (by rw [ev_st, hy]; exact ⟨ys, rfl, rfl⟩)) w) k
theorem o_eqlA {xt yt : TypeId} {x y : Operand} (xs ys : List Value) (q : Prop) [Decidable q] (hg : Gd ops s g) (hx : ev s x = .agg (xs.map .lit)) (hy : ev s y = .agg (ys.map .lit)) (he : AggEq C.P xt xs ys (decide q)) (kk : aops C ops ⟨(d, .lit (.bool (decide q))) :: s, m⟩ os fun es σ' => K ({ val := .lit (.bool (decide q)) } :: es) σ') :
  aops C ops ⟨s, m⟩ (⟨some d, .binOp .eql xt x y yt, t, p, af, g⟩ :: os) K := o_pureA rfl hg hx hy (fun ρ h1 h2 w => by
   simp only [execOp, h1, h2, Sem.run_bind, eqGuard_agg he.1, Result.andThen_ok, run_eql_struct, he.2, Sem.run_pure]) kk
theorem o_neqA {xt yt : TypeId} {x y : Operand} (xs ys : List Value) (q : Prop) [Decidable q] (hg : Gd ops s g) (hx : ev s x = .agg (xs.map .lit)) (hy : ev s y = .agg (ys.map .lit)) (he : AggEq C.P xt xs ys (decide q)) (kk : aops C ops ⟨(d, .lit (.bool (decide (¬ q)))) :: s, m⟩ os fun es σ' => K ({ val := .lit (.bool (decide (¬ q))) } :: es) σ') :
  aops C ops ⟨s, m⟩ (⟨some d, .binOp .neq xt x y yt, t, p, af, g⟩ :: os) K := o_pureA rfl hg hx hy (fun ρ h1 h2 w => by
   have : (!decide q) = decide (¬ q) := by by_cases h : q <;> simp [h]
   simp only [execOp, h1, h2, Sem.run_bind, eqGuard_agg he.1, Result.andThen_ok, run_neq_struct, he.2, Sem.run_pure, this]) kk
end
def freshK : List (Nat × AV) → Bool
 | [] => true
 | (j, _) :: r => r.all (fun p => !Nat.beq p.1 j) && freshK r
theorem freshK_nodup : ∀ {so : List (Nat × AV)}, freshK so = true → (so.map (·.1)).Nodup
 | [], _ => by simp
 | (j, v) :: r, h => by
  simp only [freshK, Bool.and_eq_true] at h
  simp only [List.map_cons, List.nodup_cons]
  refine ⟨fun hm => ?_, freshK_nodup h.2⟩
  obtain ⟨p, hp, he⟩ := List.mem_map.1 hm
  have := List.all_eq_true.1 h.1 p hp
  rw [he] at this
  simp at this
theorem scalls_of_awpB {C : Ctx} {n : Nat} {f : FuncId} {fn : Func} {c : Code} {args : List AV} {so : List (Nat × AV)} {m m' : List (Nat × AO)} {res : AV} (pid : Nat) (hf : C.P.funcs[f]? = some fn) (hb : fn.body = some c) (hn : args.length ≤ fn.ntmps) (hnd : freshK so = true)
  (hfr : St.freshB ⟨so, m⟩ pid = true) (hpa : hasL pid args = false) (h : ∀ us, awp C fn.ntmps c (postS C fn res m' pid (valsOf so) us) ⟨(entry args).slots, (pid, .pin (valsOf so) us) :: m⟩) (hmk : C.marks = [] := by rfl) : SCalls C n f args so m res m' :=
 scalls_of_awp pid hf hb hn (freshK_nodup hnd) (fresh_sem hfr) (valsOf_has (by simp only [St.freshB, Bool.and_eq_true] at hfr; exact hfr.1)) hpa h hmk
theorem lookO_appS : ∀ {m e : List (Nat × AO)} {id : Nat} {ob : AO}, lookO m id = some ob → lookO (m ++ e) id = some ob
 | [], _, _, _, h => by simp [lookO] at h
 | (j, v) :: r, e, id, ob, h => by
  simp only [List.cons_append, lookO] at h ⊢
  cases hb : Nat.beq j id with
  | true => rw [hb] at h; exact h
  | false => rw [hb] at h; exact lookO_appS h
theorem postS_fin {C : Ctx} {fn : Func} {res : AV} {m' extra : List (Nat × AO)} {pid : Nat} {cs : List AV} {us : List Value} {s : List (Nat × AV)} (h : ∃ vs, ResOk C ⟨s, (pid, .pin cs us) :: (m' ++ extra)⟩ fn.results.toList vs ∧ res = packR vs) (hn : lookO m' pid = none) :
  ∃ vs, ResOk C ⟨s, (pid, .pin cs us) :: (m' ++ extra)⟩ fn.results.toList vs ∧ res = packR vs ∧ (∀ id ob, lookO m' id = some ob → lookO ((pid, .pin cs us) :: (m' ++ extra)) id = some ob) ∧ lookO ((pid, AO.pin cs us) :: (m' ++ extra)) pid = some (.pin cs us) := by
 obtain ⟨vs, h1, h2⟩ := h
 refine ⟨vs, h1, h2, fun id ob ho => ?_, by simp [lookO]⟩
 simp only [lookO]
 cases hb : Nat.beq pid id with
 | true =>
  have := Nat.eq_of_beq_eq_true hb
  subst this
  rw [hn] at ho
  cases ho
 | false => exact lookO_appS ho
theorem postS_ret {C : Ctx} {fn : Func} {res : AV} {m' extra : List (Nat × AO)} {pid : Nat} {cs : List AV} {us : List Value} {s : List (Nat × AV)} (h : ∃ vs, ResOk C ⟨s, (pid, .pin cs us) :: (m' ++ extra)⟩ fn.results.toList vs ∧ res = packR vs) (hn : lookO m' pid = none) :
  postS C fn res m' pid cs us .ret ⟨s, (pid, .pin cs us) :: (m' ++ extra)⟩ := postS_fin h hn
theorem ba_list {a b : ByteArray} : a.toList = b.toList ↔ a = b := by
 constructor
 ·intro h
  rw [ByteArray.toList_eq, ByteArray.toList_eq] at h
  obtain ⟨⟨x⟩⟩ := a
  obtain ⟨⟨y⟩⟩ := b
  simp at h
  rw [h]
 ·intro h; rw [h]
theorem ba_eq (a b : ByteArray) : (a.toList == b.toList) = decide (a = b) := by
 by_cases h : a = b
 ·simp [h]
 ·simp [h, ba_list]
theorem part_str {P : Program} {t : TypeId} (hu : P.underlying t = some .string) (xs : Array Value) (off : Nat) (w : World) : (part t xs off).run P w = (match xs[off]? with | some v => (pure v : Sem Value) | none => stuck "part: no such cell").run P w := by
 simp [part, isAgg, run_underlying hu]
 cases xs[off]? <;> rfl
end Go.Ab

