import Derived.Test.YtkngglpnejdicaaDoorWo
set_option linter.unusedVariables false
set_option linter.unusedSimpArgs false
namespace Go.Proofs.YtkngglpnejdicaaDoor
open Go Go.Ab Go.Mth
theorem Wp2_tA24 : tyAgg cx.P 24 = some 3 := by kernel_rfl
theorem Wp2_tC18 : callable cx.P 18 = true := by kernel_rfl
theorem Wp2_tO24 : tyZero cx.P 24 = some [(Go.Value.int IntKind.i64 0), (Go.Value.slice none 0 0), (Go.Value.slice none 0 0)] := by kernel_rfl
theorem Wp2_tZ24 : tySize cx.P 24 = some 3 := by kernel_rfl
theorem Wp2_tC45 : callable cx.P 45 = true := by kernel_rfl
theorem Wp2_tC36 : callable cx.P 36 = true := by kernel_rfl
theorem Wp2_tC20 : callable cx.P 20 = true := by kernel_rfl
theorem Wp2_tC21 : callable cx.P 21 = true := by kernel_rfl
theorem Wp2_tC22 : callable cx.P 22 = true := by kernel_rfl
theorem Wp2_tC24 : callable cx.P 24 = true := by kernel_rfl
theorem Wp2_tO36 : tyZero cx.P 36 = some [(Go.Value.bool false), (Go.Value.slice none 0 0)] := by kernel_rfl
theorem Wp2_tZ36 : tySize cx.P 36 = some 2 := by kernel_rfl
theorem Wp2_tA36 : tyAgg cx.P 36 = some 2 := by kernel_rfl
theorem Wp2_tC47 : callable cx.P 47 = true := by kernel_rfl
theorem Wp2_tC46 : callable cx.P 46 = true := by kernel_rfl
theorem Wp2_tC48 : callable cx.P 48 = true := by kernel_rfl
theorem Wp2_tC26 : callable cx.P 26 = true := by kernel_rfl
theorem c_StepRuns (m : MapM) (a : ByteArray) (K : Int) (hsz : a.size ≤ 9223372036854775807) (h1m : m.mul.length ≤ 17592186044416) (h2m : m.add.length ≤ 17592186044416) : ECalls cx 8 [(mapV m), (AV.lit (.string (a))), (AV.lit (.int .i64 (K)))] (.lit (.bool true)) := by
  refine ecalls_of_awp Tryd.func8 (c := _) rfl (Nat.le_of_ble_eq_true rfl) ?_
  show awp cx 116 _ (postF cx Tryd.f8 _) ⟨[(0, (mapV m)), (1, (AV.lit (.string (a)))), (2, (AV.lit (.int .i64 (K))))], []⟩
  refine awp_seq fun K0 hK0 => ?_
  refine awp_region rfl ?_
  refine o_box 2 [(AV.lit (.int .i64 (m.mod))), (AV.sl 1 (is .i64 (m.mul))), (AV.sl 1 (is .i64 (m.add)))] Gd.none rfl rfl ?_
  refine o_assign (AV.lit (.bool false)) Gd.none rfl ?_
  refine aops_end ?_
  refine hK0 _ ?_
  refine awp_seq fun K1 hK1 => ?_
  refine awp_region rfl ?_
  refine o_loadA [(AV.lit (.int .i64 (m.mod))), (AV.sl 1 (is .i64 (m.mul))), (AV.sl 1 (is .i64 (m.add)))] Gd.none Wp2_tA24 rfl rfl rfl rfl rfl ?_
  refine o_call [(AV.agg [(AV.lit (.int .i64 (m.mod))), (AV.sl 1 (is .i64 (m.mul))), (AV.sl 1 (is .i64 (m.add)))])] (mapV m) Gd.none Wp2_tC18 rfl (c_gTwin m (by omega) (by omega)) ?_
  refine o_alloc 3 [(nm .i64 (0)), (AV.lit (.slice none 0 0)), (AV.lit (.slice none 0 0))] Gd.none Wp2_tO24 rfl rfl rfl ?_
  refine o_store [(3, (AO.var 24 [(AV.lit (.int .i64 (m.mod))), (AV.sl 1 (is .i64 (m.mul))), (AV.sl 1 (is .i64 (m.add)))])), (2, (AO.var 24 [(AV.lit (.int .i64 (m.mod))), (AV.sl 1 (is .i64 (m.mul))), (AV.sl 1 (is .i64 (m.add)))]))] Gd.none Wp2_tZ24 rfl rfl rfl rfl rfl rfl ?_
  refine aops_end ?_
  refine hK1 _ ?_
  refine awp_seq fun K2 hK2 => ?_
  refine awp_region rfl ?_
  refine o_loadA [(AV.lit (.int .i64 (m.mod))), (AV.sl 1 (is .i64 (m.mul))), (AV.sl 1 (is .i64 (m.add)))] Gd.none Wp2_tA24 rfl rfl rfl rfl rfl ?_
  refine o_move (AV.lit (.string (a))) Gd.none rfl ?_
  refine o_call [(AV.agg [(AV.lit (.int .i64 (m.mod))), (AV.sl 1 (is .i64 (m.mul))), (AV.sl 1 (is .i64 (m.add)))]), (AV.lit (.string (a)))] (AV.tup [(AV.lit (.string (if okM m && okS (a) then toldS (stepZ m (numS (a))) else ({ data := #[] } : ByteArray)))), (nm .i64 (if okM m && okS (a) then toldE (stepZ m (numS (a))) else 1))]) Gd.none Wp2_tC45 rfl (c_sStep m (a) (by first | assumption | omega)) ?_
  refine o_move (AV.tup [(AV.lit (.string (if okM m && okS (a) then toldS (stepZ m (numS (a))) else ({ data := #[] } : ByteArray)))), (nm .i64 (if okM m && okS (a) then toldE (stepZ m (numS (a))) else 1))]) Gd.none rfl ?_
  refine o_extract (AV.lit (.string (if okM m && okS (a) then toldS (stepZ m (numS (a))) else ({ data := #[] } : ByteArray)))) Gd.none rfl rfl ?_
  refine o_extract (nm .i64 (if okM m && okS (a) then toldE (stepZ m (numS (a))) else 1)) Gd.none rfl rfl ?_
  refine o_assign (AV.lit (.string (if okM m && okS (a) then toldS (stepZ m (numS (a))) else ({ data := #[] } : ByteArray)))) Gd.none rfl ?_
  refine o_assign (nm .i64 (if okM m && okS (a) then toldE (stepZ m (numS (a))) else 1)) Gd.none rfl ?_
  refine aops_end ?_
  refine hK2 _ ?_
  refine awp_seq fun K3 hK3 => ?_
  refine awp_region rfl ?_
  refine o_loadA [(AV.lit (.int .i64 (m.mod))), (AV.sl 1 (is .i64 (m.mul))), (AV.sl 1 (is .i64 (m.add)))] Gd.none Wp2_tA24 rfl rfl rfl rfl rfl ?_
  refine o_move (AV.lit (.string (a))) Gd.none rfl ?_
  refine o_move (AV.lit (.int .i64 (K))) Gd.none rfl ?_
  refine o_call [(AV.agg [(AV.lit (.int .i64 (m.mod))), (AV.sl 1 (is .i64 (m.mul))), (AV.sl 1 (is .i64 (m.add)))]), (AV.lit (.string (a))), (AV.lit (.int .i64 (K)))] (AV.tup [(AV.lit (.string (runS m (a) (K)))), (nm .i64 (runE m (a) (K)))]) Gd.none Wp2_tC36 rfl (c_sRun m (a) (K) (by first | assumption | decide | omega)) ?_
  refine o_move (AV.tup [(AV.lit (.string (runS m (a) (K)))), (nm .i64 (runE m (a) (K)))]) Gd.none rfl ?_
  refine o_extract (AV.lit (.string (runS m (a) (K)))) Gd.none rfl rfl ?_
  refine o_extract (nm .i64 (runE m (a) (K))) Gd.none rfl rfl ?_
  refine o_assign (AV.lit (.string (runS m (a) (K)))) Gd.none rfl ?_
  refine o_assign (nm .i64 (runE m (a) (K))) Gd.none rfl ?_
  refine aops_end ?_
  refine hK3 _ ?_
  refine awp_seq fun K4 hK4 => ?_
  refine awp_seq fun K5 hK5 => ?_
  refine awp_region rfl ?_
  refine o_loadA [(AV.lit (.int .i64 (m.mod))), (AV.sl 1 (is .i64 (m.mul))), (AV.sl 1 (is .i64 (m.add)))] Gd.none Wp2_tA24 rfl rfl rfl rfl rfl ?_
  refine o_loadA [(AV.lit (.int .i64 (m.mod))), (AV.sl 1 (is .i64 (m.mul))), (AV.sl 1 (is .i64 (m.add)))] Gd.none Wp2_tA24 rfl rfl rfl rfl rfl ?_
  refine o_call [(AV.agg [(AV.lit (.int .i64 (m.mod))), (AV.sl 1 (is .i64 (m.mul))), (AV.sl 1 (is .i64 (m.add)))]), (AV.agg [(AV.lit (.int .i64 (m.mod))), (AV.sl 1 (is .i64 (m.mul))), (AV.sl 1 (is .i64 (m.add)))])] (bp (m = m)) Gd.none Wp2_tC20 rfl (c_gSame m m) ?_
  refine o_notP (q := m = m) Gd.none rfl ?_
  refine aops_end ?_
  refine hK5 _ ?_
  refine awp_condB (b := decide (¬ (m = m))) rfl (fun hh => absurd (hh.symm.trans (decide_eq_false (fun h => h rfl))) (by decide)) (fun _ => ?_)
  refine awp_skip ?_
  refine hK4 _ ?_
  refine awp_seq fun K6 hK6 => ?_
  refine awp_seq fun K7 hK7 => ?_
  refine awp_region rfl ?_
  refine o_loadA [(AV.lit (.int .i64 (m.mod))), (AV.sl 1 (is .i64 (m.mul))), (AV.sl 1 (is .i64 (m.add)))] Gd.none Wp2_tA24 rfl rfl rfl rfl rfl ?_
  refine o_move (AV.lit (.string (a))) Gd.none rfl ?_
  refine o_call [(AV.agg [(AV.lit (.int .i64 (m.mod))), (AV.sl 1 (is .i64 (m.mul))), (AV.sl 1 (is .i64 (m.add)))]), (AV.lit (.string (a)))] (AV.lit (.bool (okM m && okS (a)))) Gd.none Wp2_tC21 rfl (c_l2Formed m (a) (by first | assumption | omega)) ?_
  refine o_not (b := okM m && okS (a)) Gd.none rfl ?_
  refine aops_end ?_
  refine hK7 _ ?_
  refine awp_condB (b := !(okM m && okS (a))) rfl (fun h1 => ?_) (fun h1 => ?_)
  · refine awp_seq fun K8 hK8 => ?_
    refine awp_region rfl ?_
    refine o_move (AV.lit (.string (if okM m && okS (a) then toldS (stepZ m (numS (a))) else ({ data := #[] } : ByteArray)))) Gd.none rfl ?_
    refine n_as (v' := (AV.lit (.string (({data := #[]} : ByteArray))))) (by exact str_as (if_neg (fun h => unformed h1 (by simpa using h)))) ?_
    refine o_move (AV.lit (.string (runS m (a) (K)))) Gd.none rfl ?_
    refine n_as (v' := (AV.lit (.string (({data := #[]} : ByteArray))))) (by exact str_as (runS_1 (unformed h1))) ?_
    refine o_addS (a := (({data := #[]} : ByteArray))) (c := (({data := #[]} : ByteArray))) Gd.none rfl rfl (by decide) ?_
    refine n_as (v' := (AV.lit (.string (({data := #[]} : ByteArray))))) (by exact str_as E0_app) ?_
    refine o_eqlS (a := (({data := #[]} : ByteArray))) (c := (({data := #[]} : ByteArray))) Gd.none rfl rfl ?_
    refine o_move (bp ((({data := #[]} : ByteArray)).toList = (({data := #[]} : ByteArray)).toList)) Gd.none rfl ?_
    refine o_move (nm .i64 (if okM m && okS (a) then toldE (stepZ m (numS (a))) else 1)) (Gd.yes rfl rfl (decide_eq_true rfl)) rfl ?_
    refine n_as (v' := (nm .i64 (1))) (by exact congrArg (nm _) (if_neg (fun h => unformed h1 (by simpa using h)))) ?_
    refine n_eql (1) (1) (Gd.yes rfl rfl (decide_eq_true rfl)) rfl rfl ?_
    refine o_pickT (b := decide ((({data := #[]} : ByteArray)).toList = (({data := #[]} : ByteArray)).toList)) (bp ((1) = (1))) Gd.none rfl (decide_eq_true rfl) rfl ?_
    refine o_move (bp ((1) = (1))) Gd.none rfl ?_
    refine o_move (nm .i64 (runE m (a) (K))) (Gd.yes rfl rfl (decide_eq_true (by decide))) rfl ?_
    refine n_as (v' := (nm .i64 (1))) (by exact congrArg (nm _) (runE_1 (unformed h1))) ?_
    refine n_eql (1) (1) (Gd.yes rfl rfl (decide_eq_true (by decide))) rfl rfl ?_
    refine o_pickT (b := decide ((1) = (1))) (bp ((1) = (1))) Gd.none rfl (decide_eq_true (by decide)) rfl ?_
    refine o_move (bp ((1) = (1))) Gd.none rfl ?_
    refine o_call [] (AV.lit (.bool true)) (Gd.yes rfl rfl (decide_eq_true (by decide))) Wp2_tC22 rfl c_l2Awake ?_
    refine o_pickT (b := decide ((1) = (1))) (AV.lit (.bool true)) Gd.none rfl (decide_eq_true (by decide)) rfl ?_
    refine o_assign (AV.lit (.bool true)) Gd.none rfl ?_
    refine aops_end ?_
    refine hK8 _ ?_
    refine awp_ret ?_
    refine post_ret ⟨[(AV.lit (.bool true))], And.intro (AV.le_refl _) (trivial), rfl, ?_⟩
    first | rfl | simp [bp]
  · have hm2 := formed2 h1
    obtain ⟨hm', ha'⟩ := hm2
    have hM := okM_iff.1 hm'
    have hS := okS_iff.1 ha'
    have hlz := len_numS hS
    have hrl := runZ_len hM K.toNat (z := numS a) (by omega)
    have hol := fun i => orbZ_lens hM K.toNat (z := numS a) i (by omega)
    have hp := orbZ_last (m := m) K.toNat (numS a)
    have hst := step_len hM hlz (by decide)
    refine awp_skip ?_
    refine hK6 _ ?_
    refine awp_seq fun K9 hK9 => ?_
    refine awp_region rfl ?_
    refine o_move (AV.lit (.string (a))) Gd.none rfl ?_
    refine o_call [(AV.lit (.string (a)))] (intR ((numS (a)))) Gd.none Wp2_tC24 rfl (c_rParse (a) (by first | assumption | exact okS_iff.1 (by assumption))) ?_
    refine o_alloc 4 [(AV.lit (.bool false)), (AV.lit (.slice none 0 0))] Gd.none Wp2_tO36 rfl rfl rfl ?_
    refine o_store [(4, (AO.var 36 [(bp ((numS (a)) < 0)), (AV.sl 1 (ns .i64 (digs ((numS (a))).natAbs)))])), (3, (AO.var 24 [(AV.lit (.int .i64 (m.mod))), (AV.sl 1 (is .i64 (m.mul))), (AV.sl 1 (is .i64 (m.add)))])), (2, (AO.var 24 [(AV.lit (.int .i64 (m.mod))), (AV.sl 1 (is .i64 (m.mul))), (AV.sl 1 (is .i64 (m.add)))]))] Gd.none Wp2_tZ36 rfl rfl rfl rfl rfl rfl ?_
    refine aops_end ?_
    refine hK9 _ ?_
    refine awp_seq fun K10 hK10 => ?_
    refine awp_region rfl ?_
    refine o_loadA [(AV.lit (.int .i64 (m.mod))), (AV.sl 1 (is .i64 (m.mul))), (AV.sl 1 (is .i64 (m.add)))] Gd.none Wp2_tA24 rfl rfl rfl rfl rfl ?_
    refine o_loadA [(bp ((numS (a)) < 0)), (AV.sl 1 (ns .i64 (digs ((numS (a))).natAbs)))] Gd.none Wp2_tA36 rfl rfl rfl rfl rfl ?_
    refine o_call [(AV.agg [(AV.lit (.int .i64 (m.mod))), (AV.sl 1 (is .i64 (m.mul))), (AV.sl 1 (is .i64 (m.add)))]), (AV.agg [(bp ((numS (a)) < 0)), (AV.sl 1 (ns .i64 (digs ((numS (a))).natAbs)))])] (intR ((stepZ m (numS (a))))) Gd.none Wp2_tC47 rfl (c_gStep m ((numS (a))) (by first | assumption | exact okM_iff.1 (by assumption)) (by first | assumption | omega | (simp only [Int.natAbs_neg]; omega))) ?_
    refine o_call [(intR ((stepZ m (numS (a)))))] (AV.tup [(AV.lit (.string (toldS ((stepZ m (numS (a))))))), (nm .i64 (toldE ((stepZ m (numS (a))))))]) Gd.none Wp2_tC46 rfl (c_rTold ((stepZ m (numS (a)))) (by first | assumption | omega | (simp only [Int.natAbs_neg]; omega))) ?_
    refine o_move (AV.tup [(AV.lit (.string (toldS ((stepZ m (numS (a))))))), (nm .i64 (toldE ((stepZ m (numS (a))))))]) Gd.none rfl ?_
    refine o_extract (AV.lit (.string (toldS ((stepZ m (numS (a))))))) Gd.none rfl rfl ?_
    refine o_extract (nm .i64 (toldE ((stepZ m (numS (a)))))) Gd.none rfl rfl ?_
    refine o_assign (AV.lit (.string (toldS ((stepZ m (numS (a))))))) Gd.none rfl ?_
    refine o_assign (nm .i64 (toldE ((stepZ m (numS (a)))))) Gd.none rfl ?_
    refine aops_end ?_
    refine hK10 _ ?_
    refine awp_seq fun K11 hK11 => ?_
    refine awp_seq fun K12 hK12 => ?_
    refine awp_region rfl ?_
    refine o_move (AV.lit (.string (if okM m && okS (a) then toldS (stepZ m (numS (a))) else ({ data := #[] } : ByteArray)))) Gd.none rfl ?_
    refine n_as (v' := (AV.lit (.string (toldS ((stepZ m (numS (a)))))))) (by exact str_as (if_pos (by simp [hm', ha']))) ?_
    refine o_move (AV.lit (.string (toldS ((stepZ m (numS (a))))))) Gd.none rfl ?_
    refine o_neqS (a := (toldS ((stepZ m (numS (a)))))) (c := (toldS ((stepZ m (numS (a)))))) Gd.none rfl rfl ?_
    refine o_move (bp ((toldS ((stepZ m (numS (a))))).toList ≠ (toldS ((stepZ m (numS (a))))).toList)) Gd.none rfl ?_
    refine o_move (nm .i64 (if okM m && okS (a) then toldE (stepZ m (numS (a))) else 1)) (Gd.yes rfl rfl (decide_eq_false (fun h => h rfl))) rfl ?_
    refine n_as (v' := (nm .i64 (toldE ((stepZ m (numS (a))))))) (by exact congrArg (nm _) (if_pos (by simp [hm', ha']))) ?_
    refine o_move (nm .i64 (toldE ((stepZ m (numS (a)))))) (Gd.yes rfl rfl (decide_eq_false (fun h => h rfl))) rfl ?_
    refine n_neq (toldE ((stepZ m (numS (a))))) (toldE ((stepZ m (numS (a))))) (Gd.yes rfl rfl (decide_eq_false (fun h => h rfl))) rfl rfl ?_
    refine o_pickF (b := decide ((toldS ((stepZ m (numS (a))))).toList ≠ (toldS ((stepZ m (numS (a))))).toList)) (bp ((toldE ((stepZ m (numS (a))))) ≠ (toldE ((stepZ m (numS (a))))))) Gd.none rfl (decide_eq_false (fun h => h rfl)) rfl ?_
    refine aops_end ?_
    refine hK12 _ ?_
    refine awp_condB (b := decide ((toldE ((stepZ m (numS (a))))) ≠ (toldE ((stepZ m (numS (a))))))) rfl (fun hh => absurd (hh.symm.trans (decide_eq_false (fun h => h rfl))) (by decide)) (fun _ => ?_)
    refine awp_skip ?_
    refine hK11 _ ?_
    refine awp_seq fun K13 hK13 => ?_
    refine awp_seq fun K14 hK14 => ?_
    refine awp_region rfl ?_
    refine o_move (AV.lit (.int .i64 (K))) Gd.none rfl ?_
    refine o_lss (a := (K)) (c := (((0 : Nat) : Int))) Gd.none rfl rfl ?_
    refine o_move (bp ((K) < (((0 : Nat) : Int)))) Gd.none rfl ?_
    refine o_splitP (q := (K) < (((0 : Nat) : Int))) 74 rfl (fun h2 => ?_) (fun h2 => ?_)
    · refine o_skip (b := decide ((K) < (((0 : Nat) : Int)))) rfl rfl (decide_eq_true h2) ?_
      refine o_skip (b := decide ((K) < (((0 : Nat) : Int)))) rfl rfl (decide_eq_true h2) ?_
      refine o_pickT (b := decide ((K) < (((0 : Nat) : Int)))) (AV.lit (.bool true)) Gd.none rfl (decide_eq_true h2) rfl ?_
      refine aops_end ?_
      refine hK14 _ ?_
      refine awp_condB (b := true) rfl (fun _ => ?_) (fun hh => absurd (hh.symm.trans rfl) (by decide))
      refine awp_seq fun K15 hK15 => ?_
      refine awp_region rfl ?_
      refine o_move (AV.lit (.string (runS m (a) (K)))) Gd.none rfl ?_
      refine n_as (v' := (AV.lit (.string (({data := #[]} : ByteArray))))) (by exact str_as (runS_2 (by omega))) ?_
      refine o_eqlS (a := (({data := #[]} : ByteArray))) (c := (({data := #[]} : ByteArray))) Gd.none rfl rfl ?_
      refine o_move (bp ((({data := #[]} : ByteArray)).toList = (({data := #[]} : ByteArray)).toList)) Gd.none rfl ?_
      refine o_move (nm .i64 (runE m (a) (K))) (Gd.yes rfl rfl (decide_eq_true rfl)) rfl ?_
      refine n_as (v' := (nm .i64 (2))) (by exact congrArg (nm _) (runE_2 ⟨hm', ha'⟩ (by omega))) ?_
      refine n_eql (2) (2) (Gd.yes rfl rfl (decide_eq_true rfl)) rfl rfl ?_
      refine o_pickT (b := decide ((({data := #[]} : ByteArray)).toList = (({data := #[]} : ByteArray)).toList)) (bp ((2) = (2))) Gd.none rfl (decide_eq_true rfl) rfl ?_
      refine o_move (bp ((2) = (2))) Gd.none rfl ?_
      refine o_call [] (AV.lit (.bool true)) (Gd.yes rfl rfl (decide_eq_true (by decide))) Wp2_tC22 rfl c_l2Awake ?_
      refine o_pickT (b := decide ((2) = (2))) (AV.lit (.bool true)) Gd.none rfl (decide_eq_true (by decide)) rfl ?_
      refine o_assign (AV.lit (.bool true)) Gd.none rfl ?_
      refine aops_end ?_
      refine hK15 _ ?_
      refine awp_ret ?_
      refine post_ret ⟨[(AV.lit (.bool true))], And.intro (AV.le_refl _) (trivial), rfl, ?_⟩
      first | rfl | simp [bp]
    · refine o_move (AV.lit (.int .i64 (K))) (Gd.yes rfl rfl (decide_eq_false h2)) rfl ?_
      refine o_gtr (a := (K)) (c := (((20000 : Nat) : Int))) (Gd.yes rfl rfl (decide_eq_false h2)) rfl rfl ?_
      refine o_pickF (b := decide ((K) < (((0 : Nat) : Int)))) (bp ((((20000 : Nat) : Int)) < (K))) Gd.none rfl (decide_eq_false h2) rfl ?_
      refine aops_end ?_
      refine hK14 _ ?_
      refine awp_condQ (q := (((20000 : Nat) : Int)) < (K)) rfl (fun h3 => ?_) (fun h3 => ?_)
      · refine awp_seq fun K16 hK16 => ?_
        refine awp_region rfl ?_
        refine o_move (AV.lit (.string (runS m (a) (K)))) Gd.none rfl ?_
        refine n_as (v' := (AV.lit (.string (({data := #[]} : ByteArray))))) (by exact str_as (runS_2 (by omega))) ?_
        refine o_eqlS (a := (({data := #[]} : ByteArray))) (c := (({data := #[]} : ByteArray))) Gd.none rfl rfl ?_
        refine o_move (bp ((({data := #[]} : ByteArray)).toList = (({data := #[]} : ByteArray)).toList)) Gd.none rfl ?_
        refine o_move (nm .i64 (runE m (a) (K))) (Gd.yes rfl rfl (decide_eq_true rfl)) rfl ?_
        refine n_as (v' := (nm .i64 (2))) (by exact congrArg (nm _) (runE_2 ⟨hm', ha'⟩ (by omega))) ?_
        refine n_eql (2) (2) (Gd.yes rfl rfl (decide_eq_true rfl)) rfl rfl ?_
        refine o_pickT (b := decide ((({data := #[]} : ByteArray)).toList = (({data := #[]} : ByteArray)).toList)) (bp ((2) = (2))) Gd.none rfl (decide_eq_true rfl) rfl ?_
        refine o_move (bp ((2) = (2))) Gd.none rfl ?_
        refine o_call [] (AV.lit (.bool true)) (Gd.yes rfl rfl (decide_eq_true (by decide))) Wp2_tC22 rfl c_l2Awake ?_
        refine o_pickT (b := decide ((2) = (2))) (AV.lit (.bool true)) Gd.none rfl (decide_eq_true (by decide)) rfl ?_
        refine o_assign (AV.lit (.bool true)) Gd.none rfl ?_
        refine aops_end ?_
        refine hK16 _ ?_
        refine awp_ret ?_
        refine post_ret ⟨[(AV.lit (.bool true))], And.intro (AV.le_refl _) (trivial), rfl, ?_⟩
        first | rfl | simp [bp]
      · refine awp_skip ?_
        refine hK13 _ ?_
        refine awp_seq fun K17 hK17 => ?_
        refine awp_region rfl ?_
        refine o_loadA [(AV.lit (.int .i64 (m.mod))), (AV.sl 1 (is .i64 (m.mul))), (AV.sl 1 (is .i64 (m.add)))] Gd.none Wp2_tA24 rfl rfl rfl rfl rfl ?_
        refine o_loadA [(bp ((numS (a)) < 0)), (AV.sl 1 (ns .i64 (digs ((numS (a))).natAbs)))] Gd.none Wp2_tA36 rfl rfl rfl rfl rfl ?_
        refine o_move (AV.lit (.int .i64 (K))) Gd.none rfl ?_
        refine n_as (v' := (nm .i64 (K.toNat))) (nm_int (by omega)) ?_
        refine o_call [(AV.agg [(AV.lit (.int .i64 (m.mod))), (AV.sl 1 (is .i64 (m.mul))), (AV.sl 1 (is .i64 (m.add)))]), (AV.agg [(bp ((numS (a)) < 0)), (AV.sl 1 (ns .i64 (digs ((numS (a))).natAbs)))]), (nm .i64 (K.toNat))] (AV.tup [(intR ((runZ m (K.toNat) (numS (a))))), (bp (Fit (runZ m (K.toNat) (numS (a)))))]) Gd.none Wp2_tC48 rfl (c_gRun m ((numS (a))) (K.toNat) (by first | assumption | exact okM_iff.1 (by assumption)) (by first | assumption | omega | (simp only [Int.natAbs_neg]; omega)) (by omega)) ?_
        refine o_move (AV.tup [(intR ((runZ m (K.toNat) (numS (a))))), (bp (Fit (runZ m (K.toNat) (numS (a)))))]) Gd.none rfl ?_
        refine o_extract (intR ((runZ m (K.toNat) (numS (a))))) Gd.none rfl rfl ?_
        refine o_extract (bp (Fit (runZ m (K.toNat) (numS (a))))) Gd.none rfl rfl ?_
        refine o_alloc 5 [(AV.lit (.bool false)), (AV.lit (.slice none 0 0))] Gd.none Wp2_tO36 rfl rfl rfl ?_
        refine o_store [(5, (AO.var 36 [(bp ((runZ m (K.toNat) (numS (a))) < 0)), (AV.sl 1 (ns .i64 (digs ((runZ m (K.toNat) (numS (a)))).natAbs)))])), (4, (AO.var 36 [(bp ((numS (a)) < 0)), (AV.sl 1 (ns .i64 (digs ((numS (a))).natAbs)))])), (3, (AO.var 24 [(AV.lit (.int .i64 (m.mod))), (AV.sl 1 (is .i64 (m.mul))), (AV.sl 1 (is .i64 (m.add)))])), (2, (AO.var 24 [(AV.lit (.int .i64 (m.mod))), (AV.sl 1 (is .i64 (m.mul))), (AV.sl 1 (is .i64 (m.add)))]))] Gd.none Wp2_tZ36 rfl rfl rfl rfl rfl rfl ?_
        refine o_assign (bp (Fit (runZ m (K.toNat) (numS (a))))) Gd.none rfl ?_
        refine aops_end ?_
        refine hK17 _ ?_
        refine awp_seq fun K18 hK18 => ?_
        refine awp_seq fun K19 hK19 => ?_
        refine awp_region rfl ?_
        refine o_move (bp (Fit (runZ m (K.toNat) (numS (a))))) Gd.none rfl ?_
        refine o_notP (q := Fit (runZ m (K.toNat) (numS (a)))) Gd.none rfl ?_
        refine aops_end ?_
        refine hK19 _ ?_
        refine awp_condQ (q := ¬ (Fit (runZ m (K.toNat) (numS (a))))) rfl (fun h4 => ?_) (fun h4 => ?_)
        · refine awp_seq fun K20 hK20 => ?_
          refine awp_region rfl ?_
          refine o_move (AV.lit (.string (runS m (a) (K)))) Gd.none rfl ?_
          refine n_as (v' := (AV.lit (.string (({data := #[]} : ByteArray))))) (by exact str_as ((runS_e ⟨hm', ha'⟩ (by omega)).trans (toldS_no h4))) ?_
          refine o_eqlS (a := (({data := #[]} : ByteArray))) (c := (({data := #[]} : ByteArray))) Gd.none rfl rfl ?_
          refine o_move (bp ((({data := #[]} : ByteArray)).toList = (({data := #[]} : ByteArray)).toList)) Gd.none rfl ?_
          refine o_move (nm .i64 (runE m (a) (K))) (Gd.yes rfl rfl (decide_eq_true rfl)) rfl ?_
          refine n_as (v' := (nm .i64 (3))) (by exact congrArg (nm _) ((runE_e ⟨hm', ha'⟩ (by omega)).trans (toldE_no h4))) ?_
          refine n_eql (3) (3) (Gd.yes rfl rfl (decide_eq_true rfl)) rfl rfl ?_
          refine o_pickT (b := decide ((({data := #[]} : ByteArray)).toList = (({data := #[]} : ByteArray)).toList)) (bp ((3) = (3))) Gd.none rfl (decide_eq_true rfl) rfl ?_
          refine o_move (bp ((3) = (3))) Gd.none rfl ?_
          refine o_call [] (AV.lit (.bool true)) (Gd.yes rfl rfl (decide_eq_true (by decide))) Wp2_tC22 rfl c_l2Awake ?_
          refine o_pickT (b := decide ((3) = (3))) (AV.lit (.bool true)) Gd.none rfl (decide_eq_true (by decide)) rfl ?_
          refine o_assign (AV.lit (.bool true)) Gd.none rfl ?_
          refine aops_end ?_
          refine hK20 _ ?_
          refine awp_ret ?_
          refine post_ret ⟨[(AV.lit (.bool true))], And.intro (AV.le_refl _) (trivial), rfl, ?_⟩
          first | rfl | simp [bp]
        · have hF := Decidable.not_not.1 h4
          refine awp_skip ?_
          refine hK18 _ ?_
          refine awp_seq fun K21 hK21 => ?_
          refine awp_region rfl ?_
          refine o_move (AV.lit (.string (runS m (a) (K)))) Gd.none rfl ?_
          refine n_as (v' := (AV.lit (.string (txt ((runZ m (K.toNat) (numS (a)))))))) (by exact str_as ((runS_e ⟨hm', ha'⟩ (by omega)).trans (toldS_yes hF))) ?_
          refine o_loadA [(bp ((runZ m (K.toNat) (numS (a))) < 0)), (AV.sl 1 (ns .i64 (digs ((runZ m (K.toNat) (numS (a)))).natAbs)))] Gd.none Wp2_tA36 rfl rfl rfl rfl rfl ?_
          refine o_call [(AV.agg [(bp ((runZ m (K.toNat) (numS (a))) < 0)), (AV.sl 1 (ns .i64 (digs ((runZ m (K.toNat) (numS (a)))).natAbs)))])] (AV.lit (.string (txt ((runZ m (K.toNat) (numS (a))))))) Gd.none Wp2_tC26 rfl (c_rText ((runZ m (K.toNat) (numS (a)))) (by first | assumption | omega | (simp only [Int.natAbs_neg]; omega))) ?_
          refine o_eqlS (a := (txt ((runZ m (K.toNat) (numS (a)))))) (c := (txt ((runZ m (K.toNat) (numS (a)))))) Gd.none rfl rfl ?_
          refine o_move (bp ((txt ((runZ m (K.toNat) (numS (a))))).toList = (txt ((runZ m (K.toNat) (numS (a))))).toList)) Gd.none rfl ?_
          refine o_move (nm .i64 (runE m (a) (K))) (Gd.yes rfl rfl (decide_eq_true rfl)) rfl ?_
          refine n_as (v' := (nm .i64 (0))) (by exact congrArg (nm _) ((runE_e ⟨hm', ha'⟩ (by omega)).trans (toldE_yes hF))) ?_
          refine n_eql (0) (0) (Gd.yes rfl rfl (decide_eq_true rfl)) rfl rfl ?_
          refine o_pickT (b := decide ((txt ((runZ m (K.toNat) (numS (a))))).toList = (txt ((runZ m (K.toNat) (numS (a))))).toList)) (bp ((0) = (0))) Gd.none rfl (decide_eq_true rfl) rfl ?_
          refine o_move (bp ((0) = (0))) Gd.none rfl ?_
          refine o_call [] (AV.lit (.bool true)) (Gd.yes rfl rfl (decide_eq_true (by decide))) Wp2_tC22 rfl c_l2Awake ?_
          refine o_pickT (b := decide ((0) = (0))) (AV.lit (.bool true)) Gd.none rfl (decide_eq_true (by decide)) rfl ?_
          refine o_assign (AV.lit (.bool true)) Gd.none rfl ?_
          refine aops_end ?_
          refine hK21 _ ?_
          refine awp_ret ?_
          refine post_ret ⟨[(AV.lit (.bool true))], And.intro (AV.le_refl _) (trivial), rfl, ?_⟩
          first | rfl | simp [bp]

end Go.Proofs.YtkngglpnejdicaaDoor
