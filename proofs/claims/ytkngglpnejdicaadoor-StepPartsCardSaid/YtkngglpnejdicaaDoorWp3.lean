import Derived.Test.YtkngglpnejdicaaDoorWo
set_option linter.unusedVariables false
set_option linter.unusedSimpArgs false
namespace Go.Proofs.YtkngglpnejdicaaDoor
open Go Go.Ab Go.Mth
theorem Wp3_tA24 : tyAgg cx.P 24 = some 3 := by kernel_rfl
theorem Wp3_tC21 : callable cx.P 21 = true := by kernel_rfl
theorem Wp3_tC22 : callable cx.P 22 = true := by kernel_rfl
theorem Wp3_tC45 : callable cx.P 45 = true := by kernel_rfl
theorem Wp3_tC36 : callable cx.P 36 = true := by kernel_rfl
theorem c_StepParts (m : MapM) (a : ByteArray) (K L : Int) (hsz : a.size ≤ 9223372036854775807) : ECalls cx 9 [(mapV m), (AV.lit (.string (a))), (AV.lit (.int .i64 (K))), (AV.lit (.int .i64 (L)))] (.lit (.bool true)) := by
  refine ecalls_of_awp Tryd.func9 (c := _) rfl (Nat.le_of_ble_eq_true rfl) ?_
  show awp cx 107 _ (postF cx Tryd.f9 _) ⟨[(0, (mapV m)), (1, (AV.lit (.string (a)))), (2, (AV.lit (.int .i64 (K)))), (3, (AV.lit (.int .i64 (L))))], []⟩
  refine awp_seq fun K0 hK0 => ?_
  refine awp_region rfl ?_
  refine o_box 2 [(AV.lit (.int .i64 (m.mod))), (AV.sl 1 (is .i64 (m.mul))), (AV.sl 1 (is .i64 (m.add)))] Gd.none rfl rfl ?_
  refine o_assign (AV.lit (.bool false)) Gd.none rfl ?_
  refine aops_end ?_
  refine hK0 _ ?_
  refine awp_seq fun K1 hK1 => ?_
  refine awp_seq fun K2 hK2 => ?_
  refine awp_region rfl ?_
  refine o_loadA [(AV.lit (.int .i64 (m.mod))), (AV.sl 1 (is .i64 (m.mul))), (AV.sl 1 (is .i64 (m.add)))] Gd.none Wp3_tA24 rfl rfl rfl rfl rfl ?_
  refine o_move (AV.lit (.string (a))) Gd.none rfl ?_
  refine o_call [(AV.agg [(AV.lit (.int .i64 (m.mod))), (AV.sl 1 (is .i64 (m.mul))), (AV.sl 1 (is .i64 (m.add)))]), (AV.lit (.string (a)))] (AV.lit (.bool (okM m && okS (a)))) Gd.none Wp3_tC21 rfl (c_l2Formed m (a) (by first | assumption | omega)) ?_
  refine o_not (b := okM m && okS (a)) Gd.none rfl ?_
  refine o_move (AV.lit (.bool (!(okM m && okS (a))))) Gd.none rfl ?_
  refine o_split (b := !(okM m && okS (a))) 23 rfl (fun h1 => ?_) (fun h1 => ?_)
  · refine o_skip (b := !(okM m && okS (a))) rfl rfl h1 ?_
    refine o_skip (b := !(okM m && okS (a))) rfl rfl h1 ?_
    refine o_pickT (b := !(okM m && okS (a))) (AV.lit (.bool true)) Gd.none rfl h1 rfl ?_
    refine o_move (AV.lit (.bool true)) Gd.none rfl ?_
    refine o_skip (b := true) rfl rfl rfl ?_
    refine o_skip (b := true) rfl rfl rfl ?_
    refine o_pickT (b := true) (AV.lit (.bool true)) Gd.none rfl rfl rfl ?_
    refine o_move (AV.lit (.bool true)) Gd.none rfl ?_
    refine o_skip (b := true) rfl rfl rfl ?_
    refine o_skip (b := true) rfl rfl rfl ?_
    refine o_pickT (b := true) (AV.lit (.bool true)) Gd.none rfl rfl rfl ?_
    refine o_move (AV.lit (.bool true)) Gd.none rfl ?_
    refine o_skip (b := true) rfl rfl rfl ?_
    refine o_skip (b := true) rfl rfl rfl ?_
    refine o_skip (b := true) rfl rfl rfl ?_
    refine o_skip (b := true) rfl rfl rfl ?_
    refine o_pickT (b := true) (AV.lit (.bool true)) Gd.none rfl rfl rfl ?_
    refine aops_end ?_
    refine hK2 _ ?_
    refine awp_condB (b := true) rfl (fun _ => ?_) (fun hh => absurd (hh.symm.trans rfl) (by decide))
    refine awp_seq fun K3 hK3 => ?_
    refine awp_region rfl ?_
    refine o_call [] (AV.lit (.bool true)) Gd.none Wp3_tC22 rfl c_l2Awake ?_
    refine o_assign (AV.lit (.bool true)) Gd.none rfl ?_
    refine aops_end ?_
    refine hK3 _ ?_
    refine awp_ret ?_
    refine post_ret ⟨[(AV.lit (.bool true))], And.intro (AV.le_refl _) (trivial), rfl, ?_⟩
    first | rfl | simp [bp]
  · have hm2 := formed2 h1
    obtain ⟨hm', ha'⟩ := hm2
    have hM := okM_iff.1 hm'
    have hS := okS_iff.1 ha'
    have hlz := len_numS hS
    have hrl := runZ_len hM K.toNat (z := numS a) (by omega)
    have hol := fun i => orbZ_lens hM K.toNat (z := numS a) i (by omega)
    have hp := orbZ_last (m := m) K.toNat (numS a)
    refine o_move (AV.lit (.int .i64 (K))) (Gd.yes rfl rfl h1) rfl ?_
    refine o_lss (a := (K)) (c := (((0 : Nat) : Int))) (Gd.yes rfl rfl h1) rfl rfl ?_
    refine o_pickF (b := !(okM m && okS (a))) (bp ((K) < (((0 : Nat) : Int)))) Gd.none rfl h1 rfl ?_
    refine o_move (bp ((K) < (((0 : Nat) : Int)))) Gd.none rfl ?_
    refine o_splitP (q := (K) < (((0 : Nat) : Int))) 27 rfl (fun h2 => ?_) (fun h2 => ?_)
    · refine o_skip (b := decide ((K) < (((0 : Nat) : Int)))) rfl rfl (decide_eq_true h2) ?_
      refine o_skip (b := decide ((K) < (((0 : Nat) : Int)))) rfl rfl (decide_eq_true h2) ?_
      refine o_pickT (b := decide ((K) < (((0 : Nat) : Int)))) (AV.lit (.bool true)) Gd.none rfl (decide_eq_true h2) rfl ?_
      refine o_move (AV.lit (.bool true)) Gd.none rfl ?_
      refine o_skip (b := true) rfl rfl rfl ?_
      refine o_skip (b := true) rfl rfl rfl ?_
      refine o_pickT (b := true) (AV.lit (.bool true)) Gd.none rfl rfl rfl ?_
      refine o_move (AV.lit (.bool true)) Gd.none rfl ?_
      refine o_skip (b := true) rfl rfl rfl ?_
      refine o_skip (b := true) rfl rfl rfl ?_
      refine o_skip (b := true) rfl rfl rfl ?_
      refine o_skip (b := true) rfl rfl rfl ?_
      refine o_pickT (b := true) (AV.lit (.bool true)) Gd.none rfl rfl rfl ?_
      refine aops_end ?_
      refine hK2 _ ?_
      refine awp_condB (b := true) rfl (fun _ => ?_) (fun hh => absurd (hh.symm.trans rfl) (by decide))
      refine awp_seq fun K4 hK4 => ?_
      refine awp_region rfl ?_
      refine o_call [] (AV.lit (.bool true)) Gd.none Wp3_tC22 rfl c_l2Awake ?_
      refine o_assign (AV.lit (.bool true)) Gd.none rfl ?_
      refine aops_end ?_
      refine hK4 _ ?_
      refine awp_ret ?_
      refine post_ret ⟨[(AV.lit (.bool true))], And.intro (AV.le_refl _) (trivial), rfl, ?_⟩
      first | rfl | simp [bp]
    · refine o_move (AV.lit (.int .i64 (L))) (Gd.yes rfl rfl (decide_eq_false h2)) rfl ?_
      refine o_lss (a := (L)) (c := (((0 : Nat) : Int))) (Gd.yes rfl rfl (decide_eq_false h2)) rfl rfl ?_
      refine o_pickF (b := decide ((K) < (((0 : Nat) : Int)))) (bp ((L) < (((0 : Nat) : Int)))) Gd.none rfl (decide_eq_false h2) rfl ?_
      refine o_move (bp ((L) < (((0 : Nat) : Int)))) Gd.none rfl ?_
      refine o_splitP (q := (L) < (((0 : Nat) : Int))) 31 rfl (fun h3 => ?_) (fun h3 => ?_)
      · refine o_skip (b := decide ((L) < (((0 : Nat) : Int)))) rfl rfl (decide_eq_true h3) ?_
        refine o_skip (b := decide ((L) < (((0 : Nat) : Int)))) rfl rfl (decide_eq_true h3) ?_
        refine o_pickT (b := decide ((L) < (((0 : Nat) : Int)))) (AV.lit (.bool true)) Gd.none rfl (decide_eq_true h3) rfl ?_
        refine o_move (AV.lit (.bool true)) Gd.none rfl ?_
        refine o_skip (b := true) rfl rfl rfl ?_
        refine o_skip (b := true) rfl rfl rfl ?_
        refine o_skip (b := true) rfl rfl rfl ?_
        refine o_skip (b := true) rfl rfl rfl ?_
        refine o_pickT (b := true) (AV.lit (.bool true)) Gd.none rfl rfl rfl ?_
        refine aops_end ?_
        refine hK2 _ ?_
        refine awp_condB (b := true) rfl (fun _ => ?_) (fun hh => absurd (hh.symm.trans rfl) (by decide))
        refine awp_seq fun K5 hK5 => ?_
        refine awp_region rfl ?_
        refine o_call [] (AV.lit (.bool true)) Gd.none Wp3_tC22 rfl c_l2Awake ?_
        refine o_assign (AV.lit (.bool true)) Gd.none rfl ?_
        refine aops_end ?_
        refine hK5 _ ?_
        refine awp_ret ?_
        refine post_ret ⟨[(AV.lit (.bool true))], And.intro (AV.le_refl _) (trivial), rfl, ?_⟩
        first | rfl | simp [bp]
      · refine o_move (AV.lit (.int .i64 (K))) (Gd.yes rfl rfl (decide_eq_false h3)) rfl ?_
        refine o_gtr (a := (K)) (c := (((20000 : Nat) : Int))) (Gd.yes rfl rfl (decide_eq_false h3)) rfl rfl ?_
        refine o_pickF (b := decide ((L) < (((0 : Nat) : Int)))) (bp ((((20000 : Nat) : Int)) < (K))) Gd.none rfl (decide_eq_false h3) rfl ?_
        refine o_move (bp ((((20000 : Nat) : Int)) < (K))) Gd.none rfl ?_
        refine o_splitP (q := (((20000 : Nat) : Int)) < (K)) 35 rfl (fun h4 => ?_) (fun h4 => ?_)
        · refine o_skip (b := decide ((((20000 : Nat) : Int)) < (K))) rfl rfl (decide_eq_true h4) ?_
          refine o_skip (b := decide ((((20000 : Nat) : Int)) < (K))) rfl rfl (decide_eq_true h4) ?_
          refine o_skip (b := decide ((((20000 : Nat) : Int)) < (K))) rfl rfl (decide_eq_true h4) ?_
          refine o_skip (b := decide ((((20000 : Nat) : Int)) < (K))) rfl rfl (decide_eq_true h4) ?_
          refine o_pickT (b := decide ((((20000 : Nat) : Int)) < (K))) (AV.lit (.bool true)) Gd.none rfl (decide_eq_true h4) rfl ?_
          refine aops_end ?_
          refine hK2 _ ?_
          refine awp_condB (b := true) rfl (fun _ => ?_) (fun hh => absurd (hh.symm.trans rfl) (by decide))
          refine awp_seq fun K6 hK6 => ?_
          refine awp_region rfl ?_
          refine o_call [] (AV.lit (.bool true)) Gd.none Wp3_tC22 rfl c_l2Awake ?_
          refine o_assign (AV.lit (.bool true)) Gd.none rfl ?_
          refine aops_end ?_
          refine hK6 _ ?_
          refine awp_ret ?_
          refine post_ret ⟨[(AV.lit (.bool true))], And.intro (AV.le_refl _) (trivial), rfl, ?_⟩
          first | rfl | simp [bp]
        · refine o_move (AV.lit (.int .i64 (L))) (Gd.yes rfl rfl (decide_eq_false h4)) rfl ?_
          refine o_move (AV.lit (.int .i64 (K))) (Gd.yes rfl rfl (decide_eq_false h4)) rfl ?_
          refine o_sub (a := (((20000 : Nat) : Int))) (c := (K)) (Gd.yes rfl rfl (decide_eq_false h4)) rfl rfl (by exact wrap64 (by omega) (by omega)) ?_
          refine o_gtr (a := (L)) (c := ((((20000 : Nat) : Int)) - (K))) (Gd.yes rfl rfl (decide_eq_false h4)) rfl rfl ?_
          refine o_pickF (b := decide ((((20000 : Nat) : Int)) < (K))) (bp (((((20000 : Nat) : Int)) - (K)) < (L))) Gd.none rfl (decide_eq_false h4) rfl ?_
          refine aops_end ?_
          refine hK2 _ ?_
          refine awp_condQ (q := ((((20000 : Nat) : Int)) - (K)) < (L)) rfl (fun h5 => ?_) (fun h5 => ?_)
          · refine awp_seq fun K7 hK7 => ?_
            refine awp_region rfl ?_
            refine o_call [] (AV.lit (.bool true)) Gd.none Wp3_tC22 rfl c_l2Awake ?_
            refine o_assign (AV.lit (.bool true)) Gd.none rfl ?_
            refine aops_end ?_
            refine hK7 _ ?_
            refine awp_ret ?_
            refine post_ret ⟨[(AV.lit (.bool true))], And.intro (AV.le_refl _) (trivial), rfl, ?_⟩
            first | rfl | simp [bp]
          · refine awp_skip ?_
            refine hK1 _ ?_
            refine awp_seq fun K8 hK8 => ?_
            refine awp_region rfl ?_
            refine o_loadA [(AV.lit (.int .i64 (m.mod))), (AV.sl 1 (is .i64 (m.mul))), (AV.sl 1 (is .i64 (m.add)))] Gd.none Wp3_tA24 rfl rfl rfl rfl rfl ?_
            refine o_move (AV.lit (.string (a))) Gd.none rfl ?_
            refine o_call [(AV.agg [(AV.lit (.int .i64 (m.mod))), (AV.sl 1 (is .i64 (m.mul))), (AV.sl 1 (is .i64 (m.add)))]), (AV.lit (.string (a)))] (AV.tup [(AV.lit (.string (if okM m && okS (a) then toldS (stepZ m (numS (a))) else ({ data := #[] } : ByteArray)))), (nm .i64 (if okM m && okS (a) then toldE (stepZ m (numS (a))) else 1))]) Gd.none Wp3_tC45 rfl (c_sStep m (a) (by first | assumption | omega)) ?_
            refine o_move (AV.tup [(AV.lit (.string (if okM m && okS (a) then toldS (stepZ m (numS (a))) else ({ data := #[] } : ByteArray)))), (nm .i64 (if okM m && okS (a) then toldE (stepZ m (numS (a))) else 1))]) Gd.none rfl ?_
            refine o_extract (AV.lit (.string (if okM m && okS (a) then toldS (stepZ m (numS (a))) else ({ data := #[] } : ByteArray)))) Gd.none rfl rfl ?_
            refine n_as (v' := (AV.lit (.string (toldS (stepZ m (numS a)))))) (by exact str_as (if_pos (by simp [hm', ha']))) ?_
            refine o_extract (nm .i64 (if okM m && okS (a) then toldE (stepZ m (numS (a))) else 1)) Gd.none rfl rfl ?_
            refine n_as (v' := (nm .i64 (toldE (stepZ m (numS a))))) (by exact congrArg (nm _) (if_pos (by simp [hm', ha']))) ?_
            refine o_assign (AV.lit (.string (toldS (stepZ m (numS a))))) Gd.none rfl ?_
            refine o_assign (nm .i64 (toldE (stepZ m (numS a)))) Gd.none rfl ?_
            refine aops_end ?_
            refine hK8 _ ?_
            refine awp_seq fun K9 hK9 => ?_
            refine awp_region rfl ?_
            refine o_loadA [(AV.lit (.int .i64 (m.mod))), (AV.sl 1 (is .i64 (m.mul))), (AV.sl 1 (is .i64 (m.add)))] Gd.none Wp3_tA24 rfl rfl rfl rfl rfl ?_
            refine o_move (AV.lit (.string (a))) Gd.none rfl ?_
            refine o_call [(AV.agg [(AV.lit (.int .i64 (m.mod))), (AV.sl 1 (is .i64 (m.mul))), (AV.sl 1 (is .i64 (m.add)))]), (AV.lit (.string (a))), (nm .i64 (1))] (AV.tup [(AV.lit (.string (runS m (a) ((1 : Int))))), (nm .i64 (runE m (a) ((1 : Int))))]) Gd.none Wp3_tC36 rfl (c_sRun m (a) ((1 : Int)) (by first | assumption | decide | omega)) ?_
            refine o_move (AV.tup [(AV.lit (.string (runS m (a) ((1 : Int))))), (nm .i64 (runE m (a) ((1 : Int))))]) Gd.none rfl ?_
            refine o_extract (AV.lit (.string (runS m (a) ((1 : Int))))) Gd.none rfl rfl ?_
            refine n_as (v' := (AV.lit (.string (toldS (stepZ m (numS a)))))) (by exact str_as ((runS_e ⟨hm', ha'⟩ (by decide)).trans (congrArg toldS (run_one hS)))) ?_
            refine o_extract (nm .i64 (runE m (a) ((1 : Int)))) Gd.none rfl rfl ?_
            refine n_as (v' := (nm .i64 (toldE (stepZ m (numS a))))) (by exact congrArg (nm _) ((runE_e ⟨hm', ha'⟩ (by decide)).trans (congrArg toldE (run_one hS)))) ?_
            refine o_assign (AV.lit (.string (toldS (stepZ m (numS a))))) Gd.none rfl ?_
            refine o_assign (nm .i64 (toldE (stepZ m (numS a)))) Gd.none rfl ?_
            refine aops_end ?_
            refine hK9 _ ?_
            refine awp_seq fun K10 hK10 => ?_
            refine awp_seq fun K11 hK11 => ?_
            refine awp_region rfl ?_
            refine o_move (AV.lit (.string (toldS (stepZ m (numS a))))) Gd.none rfl ?_
            refine o_move (AV.lit (.string (toldS (stepZ m (numS a))))) Gd.none rfl ?_
            refine o_neqS (a := (toldS (stepZ m (numS a)))) (c := (toldS (stepZ m (numS a)))) Gd.none rfl rfl ?_
            refine o_move (bp ((toldS (stepZ m (numS a))).toList ≠ (toldS (stepZ m (numS a))).toList)) Gd.none rfl ?_
            refine o_move (nm .i64 (toldE (stepZ m (numS a)))) (Gd.yes rfl rfl (decide_eq_false (fun h => h rfl))) rfl ?_
            refine o_move (nm .i64 (toldE (stepZ m (numS a)))) (Gd.yes rfl rfl (decide_eq_false (fun h => h rfl))) rfl ?_
            refine n_neq (toldE (stepZ m (numS a))) (toldE (stepZ m (numS a))) (Gd.yes rfl rfl (decide_eq_false (fun h => h rfl))) rfl rfl ?_
            refine o_pickF (b := decide ((toldS (stepZ m (numS a))).toList ≠ (toldS (stepZ m (numS a))).toList)) (bp ((toldE (stepZ m (numS a))) ≠ (toldE (stepZ m (numS a))))) Gd.none rfl (decide_eq_false (fun h => h rfl)) rfl ?_
            refine aops_end ?_
            refine hK11 _ ?_
            refine awp_condB (b := decide ((toldE (stepZ m (numS a))) ≠ (toldE (stepZ m (numS a))))) rfl (fun hh => absurd (hh.symm.trans (decide_eq_false (fun h => h rfl))) (by decide)) (fun _ => ?_)
            refine awp_skip ?_
            refine hK10 _ ?_
            refine awp_seq fun K12 hK12 => ?_
            refine awp_region rfl ?_
            refine o_loadA [(AV.lit (.int .i64 (m.mod))), (AV.sl 1 (is .i64 (m.mul))), (AV.sl 1 (is .i64 (m.add)))] Gd.none Wp3_tA24 rfl rfl rfl rfl rfl ?_
            refine o_move (AV.lit (.string (a))) Gd.none rfl ?_
            refine o_move (AV.lit (.int .i64 (K))) Gd.none rfl ?_
            refine o_move (AV.lit (.int .i64 (L))) Gd.none rfl ?_
            refine o_add (a := (K)) (c := (L)) Gd.none rfl rfl (by exact wrap64 (by omega) (by omega)) ?_
            refine o_call [(AV.agg [(AV.lit (.int .i64 (m.mod))), (AV.sl 1 (is .i64 (m.mul))), (AV.sl 1 (is .i64 (m.add)))]), (AV.lit (.string (a))), (AV.lit (.int .i64 ((K) + (L))))] (AV.tup [(AV.lit (.string (runS m (a) ((K) + (L))))), (nm .i64 (runE m (a) ((K) + (L))))]) Gd.none Wp3_tC36 rfl (c_sRun m (a) ((K) + (L)) (by first | assumption | decide | omega)) ?_
            refine o_move (AV.tup [(AV.lit (.string (runS m (a) ((K) + (L))))), (nm .i64 (runE m (a) ((K) + (L))))]) Gd.none rfl ?_
            refine o_extract (AV.lit (.string (runS m (a) ((K) + (L))))) Gd.none rfl rfl ?_
            refine n_as (v' := (AV.lit (.string (toldS (runZ m (K + L).toNat (numS a)))))) (by exact str_as (runS_e ⟨hm', ha'⟩ (by omega))) ?_
            refine o_extract (nm .i64 (runE m (a) ((K) + (L)))) Gd.none rfl rfl ?_
            refine n_as (v' := (nm .i64 (toldE (runZ m (K + L).toNat (numS a))))) (by exact congrArg (nm _) (runE_e ⟨hm', ha'⟩ (by omega))) ?_
            refine o_assign (AV.lit (.string (toldS (runZ m (K + L).toNat (numS a))))) Gd.none rfl ?_
            refine o_assign (nm .i64 (toldE (runZ m (K + L).toNat (numS a)))) Gd.none rfl ?_
            refine aops_end ?_
            refine hK12 _ ?_
            refine awp_seq fun K13 hK13 => ?_
            refine awp_region rfl ?_
            refine o_loadA [(AV.lit (.int .i64 (m.mod))), (AV.sl 1 (is .i64 (m.mul))), (AV.sl 1 (is .i64 (m.add)))] Gd.none Wp3_tA24 rfl rfl rfl rfl rfl ?_
            refine o_move (AV.lit (.string (a))) Gd.none rfl ?_
            refine o_move (AV.lit (.int .i64 (K))) Gd.none rfl ?_
            refine o_call [(AV.agg [(AV.lit (.int .i64 (m.mod))), (AV.sl 1 (is .i64 (m.mul))), (AV.sl 1 (is .i64 (m.add)))]), (AV.lit (.string (a))), (AV.lit (.int .i64 (K)))] (AV.tup [(AV.lit (.string (runS m (a) (K)))), (nm .i64 (runE m (a) (K)))]) Gd.none Wp3_tC36 rfl (c_sRun m (a) (K) (by first | assumption | decide | omega)) ?_
            refine o_move (AV.tup [(AV.lit (.string (runS m (a) (K)))), (nm .i64 (runE m (a) (K)))]) Gd.none rfl ?_
            refine o_extract (AV.lit (.string (runS m (a) (K)))) Gd.none rfl rfl ?_
            refine n_as (v' := (AV.lit (.string (toldS (runZ m K.toNat (numS a)))))) (by exact str_as (runS_e ⟨hm', ha'⟩ (by omega))) ?_
            refine o_extract (nm .i64 (runE m (a) (K))) Gd.none rfl rfl ?_
            refine n_as (v' := (nm .i64 (toldE (runZ m K.toNat (numS a))))) (by exact congrArg (nm _) (runE_e ⟨hm', ha'⟩ (by omega))) ?_
            refine o_assign (AV.lit (.string (toldS (runZ m K.toNat (numS a))))) Gd.none rfl ?_
            refine o_assign (nm .i64 (toldE (runZ m K.toNat (numS a)))) Gd.none rfl ?_
            refine aops_end ?_
            refine hK13 _ ?_
            refine awp_seq fun K14 hK14 => ?_
            refine awp_seq fun K15 hK15 => ?_
            refine awp_region rfl ?_
            refine o_move (nm .i64 (toldE (runZ m K.toNat (numS a)))) Gd.none rfl ?_
            refine n_neq (toldE (runZ m K.toNat (numS a))) (0) Gd.none rfl rfl ?_
            refine aops_end ?_
            refine hK15 _ ?_
            refine awp_condQ (q := (toldE (runZ m K.toNat (numS a))) ≠ (0)) rfl (fun h6 => ?_) (fun h6 => ?_)
            · have hN := toldE_ne h6
              refine awp_seq fun K16 hK16 => ?_
              refine awp_region rfl ?_
              refine o_move (nm .i64 (toldE (runZ m K.toNat (numS a)))) Gd.none rfl ?_
              refine n_as (v' := (nm .i64 (3))) (by exact congrArg (nm _) (toldE_no hN)) ?_
              refine n_eql (3) (3) Gd.none rfl rfl ?_
              refine o_move (bp ((3) = (3))) Gd.none rfl ?_
              refine o_move (nm .i64 (toldE (runZ m (K + L).toNat (numS a)))) (Gd.yes rfl rfl (decide_eq_true (by decide))) rfl ?_
              refine n_as (v' := (nm .i64 (3))) (by exact congrArg (nm _) (by rw [show (K + L).toNat = K.toNat + L.toNat by omega, runZ_stuck hN]; exact toldE_no hN)) ?_
              refine n_eql (3) (3) (Gd.yes rfl rfl (decide_eq_true (by decide))) rfl rfl ?_
              refine o_pickT (b := decide ((3) = (3))) (bp ((3) = (3))) Gd.none rfl (decide_eq_true (by decide)) rfl ?_
              refine o_move (bp ((3) = (3))) Gd.none rfl ?_
              refine o_call [] (AV.lit (.bool true)) (Gd.yes rfl rfl (decide_eq_true (by decide))) Wp3_tC22 rfl c_l2Awake ?_
              refine o_pickT (b := decide ((3) = (3))) (AV.lit (.bool true)) Gd.none rfl (decide_eq_true (by decide)) rfl ?_
              refine o_assign (AV.lit (.bool true)) Gd.none rfl ?_
              refine aops_end ?_
              refine hK16 _ ?_
              refine awp_ret ?_
              refine post_ret ⟨[(AV.lit (.bool true))], And.intro (AV.le_refl _) (trivial), rfl, ?_⟩
              first | rfl | simp [bp]
            · have hF := toldE_eq h6
              have hts := txt_sz hF
              refine awp_skip ?_
              refine hK14 _ ?_
              refine awp_seq fun K17 hK17 => ?_
              refine awp_region rfl ?_
              refine o_loadA [(AV.lit (.int .i64 (m.mod))), (AV.sl 1 (is .i64 (m.mul))), (AV.sl 1 (is .i64 (m.add)))] Gd.none Wp3_tA24 rfl rfl rfl rfl rfl ?_
              refine o_move (AV.lit (.string (toldS (runZ m K.toNat (numS a))))) Gd.none rfl ?_
              refine n_as (v' := (AV.lit (.string (txt (runZ m K.toNat (numS a)))))) (by exact str_as (toldS_yes hF)) ?_
              refine o_move (AV.lit (.int .i64 (L))) Gd.none rfl ?_
              refine o_call [(AV.agg [(AV.lit (.int .i64 (m.mod))), (AV.sl 1 (is .i64 (m.mul))), (AV.sl 1 (is .i64 (m.add)))]), (AV.lit (.string (txt (runZ m K.toNat (numS a))))), (AV.lit (.int .i64 (L)))] (AV.tup [(AV.lit (.string (runS m (txt (runZ m K.toNat (numS a))) (L)))), (nm .i64 (runE m (txt (runZ m K.toNat (numS a))) (L)))]) Gd.none Wp3_tC36 rfl (c_sRun m (txt (runZ m K.toNat (numS a))) (L) (by first | assumption | decide | omega)) ?_
              refine o_move (AV.tup [(AV.lit (.string (runS m (txt (runZ m K.toNat (numS a))) (L)))), (nm .i64 (runE m (txt (runZ m K.toNat (numS a))) (L)))]) Gd.none rfl ?_
              refine o_extract (AV.lit (.string (runS m (txt (runZ m K.toNat (numS a))) (L)))) Gd.none rfl rfl ?_
              refine n_as (v' := (AV.lit (.string (toldS (runZ m (K + L).toNat (numS a)))))) (by exact str_as (by rw [show (K + L).toNat = K.toNat + L.toNat by omega, ← runZ_fit hF]; exact (runS_txt hm' hF (by omega)).1)) ?_
              refine o_extract (nm .i64 (runE m (txt (runZ m K.toNat (numS a))) (L))) Gd.none rfl rfl ?_
              refine n_as (v' := (nm .i64 (toldE (runZ m (K + L).toNat (numS a))))) (by exact congrArg (nm _) (by rw [show (K + L).toNat = K.toNat + L.toNat by omega, ← runZ_fit hF]; exact (runS_txt hm' hF (by omega)).2)) ?_
              refine o_assign (AV.lit (.string (toldS (runZ m (K + L).toNat (numS a))))) Gd.none rfl ?_
              refine o_assign (nm .i64 (toldE (runZ m (K + L).toNat (numS a)))) Gd.none rfl ?_
              refine aops_end ?_
              refine hK17 _ ?_
              refine awp_seq fun K18 hK18 => ?_
              refine awp_region rfl ?_
              refine o_move (AV.lit (.string (toldS (runZ m (K + L).toNat (numS a))))) Gd.none rfl ?_
              refine o_move (AV.lit (.string (toldS (runZ m (K + L).toNat (numS a))))) Gd.none rfl ?_
              refine o_eqlS (a := (toldS (runZ m (K + L).toNat (numS a)))) (c := (toldS (runZ m (K + L).toNat (numS a)))) Gd.none rfl rfl ?_
              refine o_move (bp ((toldS (runZ m (K + L).toNat (numS a))).toList = (toldS (runZ m (K + L).toNat (numS a))).toList)) Gd.none rfl ?_
              refine o_move (nm .i64 (toldE (runZ m (K + L).toNat (numS a)))) (Gd.yes rfl rfl (decide_eq_true rfl)) rfl ?_
              refine o_move (nm .i64 (toldE (runZ m (K + L).toNat (numS a)))) (Gd.yes rfl rfl (decide_eq_true rfl)) rfl ?_
              refine n_eql (toldE (runZ m (K + L).toNat (numS a))) (toldE (runZ m (K + L).toNat (numS a))) (Gd.yes rfl rfl (decide_eq_true rfl)) rfl rfl ?_
              refine o_pickT (b := decide ((toldS (runZ m (K + L).toNat (numS a))).toList = (toldS (runZ m (K + L).toNat (numS a))).toList)) (bp ((toldE (runZ m (K + L).toNat (numS a))) = (toldE (runZ m (K + L).toNat (numS a))))) Gd.none rfl (decide_eq_true rfl) rfl ?_
              refine o_move (bp ((toldE (runZ m (K + L).toNat (numS a))) = (toldE (runZ m (K + L).toNat (numS a))))) Gd.none rfl ?_
              refine o_call [] (AV.lit (.bool true)) (Gd.yes rfl rfl (decide_eq_true rfl)) Wp3_tC22 rfl c_l2Awake ?_
              refine o_pickT (b := decide ((toldE (runZ m (K + L).toNat (numS a))) = (toldE (runZ m (K + L).toNat (numS a))))) (AV.lit (.bool true)) Gd.none rfl (decide_eq_true rfl) rfl ?_
              refine o_assign (AV.lit (.bool true)) Gd.none rfl ?_
              refine aops_end ?_
              refine hK18 _ ?_
              refine awp_ret ?_
              refine post_ret ⟨[(AV.lit (.bool true))], And.intro (AV.le_refl _) (trivial), rfl, ?_⟩
              first | rfl | simp [bp]

end Go.Proofs.YtkngglpnejdicaaDoor
