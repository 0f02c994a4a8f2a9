import Derived.Test.YtkngglpnejdicaaDoorWo
import Derived.Test.YtkngglpnejdicaaDoorLc
set_option linter.unusedVariables false
set_option linter.unusedSimpArgs false
namespace Go.Proofs.YtkngglpnejdicaaDoor
open Go Go.Ab Go.Mth
theorem Wq1_tA24 : tyAgg cx.P 24 = some 3 := by kernel_rfl
theorem Wq1_tC21 : callable cx.P 21 = true := by kernel_rfl
theorem Wq1_tC22 : callable cx.P 22 = true := by kernel_rfl
theorem Wq1_tC27 : callable cx.P 27 = true := by kernel_rfl
theorem Wq1_tC36 : callable cx.P 36 = true := by kernel_rfl
theorem Wq1_tC19 : callable cx.P 19 = true := by kernel_rfl
theorem Wq1_tU26 : cx.P.underlying 26 = some (.slice 9) := by kernel_rfl
theorem Wq1_tC24 : callable cx.P 24 = true := by kernel_rfl
theorem Wq1_tO36 : tyZero cx.P 36 = some [(Go.Value.bool false), (Go.Value.slice none 0 0)] := by kernel_rfl
theorem Wq1_tZ36 : tySize cx.P 36 = some 2 := by kernel_rfl
theorem Wq1_tE26 : tyElem cx.P 26 = some (9, 1, 16) := by kernel_rfl
theorem Wq1_tS9 : tySc cx.P 9 = true := by kernel_rfl
theorem Wq1_tC29 : callable cx.P 29 = true := by kernel_rfl
theorem Wq1_tA36 : tyAgg cx.P 36 = some 2 := by kernel_rfl
theorem Wq1_tC34 : callable cx.P 34 = true := by kernel_rfl
theorem Wq1_tB4 : cx.P.underlying 4 = some .bool := by kernel_rfl
theorem c_StepFirst (m : MapM) (a : ByteArray) (K : Int) (hsz : a.size ≤ 9223372036854775807) : ECalls cx 6 [(mapV m), (AV.lit (.string (a))), (AV.lit (.int .i64 (K)))] (.lit (.bool true)) := by
  refine ecalls_of_awp Tryd.func6 (c := _) rfl (Nat.le_of_ble_eq_true rfl) ?_
  show awp cx 126 _ (postF cx Tryd.f6 _) ⟨[(0, (mapV m)), (1, (AV.lit (.string (a)))), (2, (AV.lit (.int .i64 (K))))], []⟩
  refine awp_seq fun K0 hK0 => ?_
  refine awp_region rfl ?_
  refine o_box 2 [(AV.lit (.int .i64 (m.mod))), (AV.sl 1 (is .i64 (m.mul))), (AV.sl 1 (is .i64 (m.add)))] Gd.none rfl rfl ?_
  refine o_assign (AV.lit (.bool false)) Gd.none rfl ?_
  refine aops_end ?_
  refine hK0 _ ?_
  refine awp_seq fun K1 hK1 => ?_
  refine awp_seq fun K2 hK2 => ?_
  refine awp_region rfl ?_
  refine o_loadA [(AV.lit (.int .i64 (m.mod))), (AV.sl 1 (is .i64 (m.mul))), (AV.sl 1 (is .i64 (m.add)))] Gd.none Wq1_tA24 rfl rfl rfl rfl rfl ?_
  refine o_move (AV.lit (.string (a))) Gd.none rfl ?_
  refine o_call [(AV.agg [(AV.lit (.int .i64 (m.mod))), (AV.sl 1 (is .i64 (m.mul))), (AV.sl 1 (is .i64 (m.add)))]), (AV.lit (.string (a)))] (AV.lit (.bool (okM m && okS (a)))) Gd.none Wq1_tC21 rfl (c_l2Formed m (a) (by first | assumption | omega)) ?_
  refine o_not (b := okM m && okS (a)) Gd.none rfl ?_
  refine o_move (AV.lit (.bool (!(okM m && okS (a))))) Gd.none rfl ?_
  refine o_split (b := !(okM m && okS (a))) 20 rfl (fun h1 => ?_) (fun h1 => ?_)
  · refine o_skip (b := !(okM m && okS (a))) rfl rfl h1 ?_
    refine o_skip (b := !(okM m && okS (a))) rfl rfl h1 ?_
    refine o_pickT (b := !(okM m && okS (a))) (AV.lit (.bool true)) Gd.none rfl h1 rfl ?_
    refine o_move (AV.lit (.bool true)) Gd.none rfl ?_
    refine o_skip (b := true) rfl rfl rfl ?_
    refine o_skip (b := true) rfl rfl rfl ?_
    refine o_pickT (b := true) (AV.lit (.bool true)) Gd.none rfl rfl rfl ?_
    refine aops_end ?_
    refine hK2 _ ?_
    refine awp_condB (b := true) rfl (fun _ => ?_) (fun hh => absurd (hh.symm.trans rfl) (by decide))
    refine awp_seq fun K3 hK3 => ?_
    refine awp_region rfl ?_
    refine o_call [] (AV.lit (.bool true)) Gd.none Wq1_tC22 rfl c_l2Awake ?_
    refine o_assign (AV.lit (.bool true)) Gd.none rfl ?_
    refine aops_end ?_
    refine hK3 _ ?_
    refine awp_ret ?_
    refine post_ret ⟨[(AV.lit (.bool true))], And.intro (AV.le_refl _) (trivial), rfl, ?_⟩
    first | rfl | simp [bp]
  · have hm2 := formed2 h1
    obtain ⟨hm', ha'⟩ := hm2
    have hM := okM_iff.1 hm'
    have hS := okS_iff.1 ha'
    have hlz := len_numS hS
    have hrl := runZ_len hM K.toNat (z := numS a) (by omega)
    have hol := fun i => orbZ_lens hM K.toNat (z := numS a) i (by omega)
    have hp := orbZ_last (m := m) K.toNat (numS a)
    have hnf := fit_numS hS
    refine o_move (AV.lit (.int .i64 (K))) (Gd.yes rfl rfl h1) rfl ?_
    refine o_lss (a := (K)) (c := (((1 : Nat) : Int))) (Gd.yes rfl rfl h1) rfl rfl ?_
    refine o_pickF (b := !(okM m && okS (a))) (bp ((K) < (((1 : Nat) : Int)))) Gd.none rfl h1 rfl ?_
    refine o_move (bp ((K) < (((1 : Nat) : Int)))) Gd.none rfl ?_
    refine o_splitP (q := (K) < (((1 : Nat) : Int))) 24 rfl (fun h2 => ?_) (fun h2 => ?_)
    · refine o_skip (b := decide ((K) < (((1 : Nat) : Int)))) rfl rfl (decide_eq_true h2) ?_
      refine o_skip (b := decide ((K) < (((1 : Nat) : Int)))) rfl rfl (decide_eq_true h2) ?_
      refine o_pickT (b := decide ((K) < (((1 : Nat) : Int)))) (AV.lit (.bool true)) Gd.none rfl (decide_eq_true h2) rfl ?_
      refine aops_end ?_
      refine hK2 _ ?_
      refine awp_condB (b := true) rfl (fun _ => ?_) (fun hh => absurd (hh.symm.trans rfl) (by decide))
      refine awp_seq fun K4 hK4 => ?_
      refine awp_region rfl ?_
      refine o_call [] (AV.lit (.bool true)) Gd.none Wq1_tC22 rfl c_l2Awake ?_
      refine o_assign (AV.lit (.bool true)) Gd.none rfl ?_
      refine aops_end ?_
      refine hK4 _ ?_
      refine awp_ret ?_
      refine post_ret ⟨[(AV.lit (.bool true))], And.intro (AV.le_refl _) (trivial), rfl, ?_⟩
      first | rfl | simp [bp]
    · refine o_move (AV.lit (.int .i64 (K))) (Gd.yes rfl rfl (decide_eq_false h2)) rfl ?_
      refine o_gtr (a := (K)) (c := (((1000 : Nat) : Int))) (Gd.yes rfl rfl (decide_eq_false h2)) rfl rfl ?_
      refine o_pickF (b := decide ((K) < (((1 : Nat) : Int)))) (bp ((((1000 : Nat) : Int)) < (K))) Gd.none rfl (decide_eq_false h2) rfl ?_
      refine aops_end ?_
      refine hK2 _ ?_
      refine awp_condQ (q := (((1000 : Nat) : Int)) < (K)) rfl (fun h3 => ?_) (fun h3 => ?_)
      · refine awp_seq fun K5 hK5 => ?_
        refine awp_region rfl ?_
        refine o_call [] (AV.lit (.bool true)) Gd.none Wq1_tC22 rfl c_l2Awake ?_
        refine o_assign (AV.lit (.bool true)) Gd.none rfl ?_
        refine aops_end ?_
        refine hK5 _ ?_
        refine awp_ret ?_
        refine post_ret ⟨[(AV.lit (.bool true))], And.intro (AV.le_refl _) (trivial), rfl, ?_⟩
        first | rfl | simp [bp]
      · refine awp_skip ?_
        refine hK1 _ ?_
        refine awp_seq fun K6 hK6 => ?_
        refine awp_region rfl ?_
        refine o_loadA [(AV.lit (.int .i64 (m.mod))), (AV.sl 1 (is .i64 (m.mul))), (AV.sl 1 (is .i64 (m.add)))] Gd.none Wq1_tA24 rfl rfl rfl rfl rfl ?_
        refine o_move (AV.lit (.string (a))) Gd.none rfl ?_
        refine o_move (AV.lit (.int .i64 (K))) Gd.none rfl ?_
        refine o_call [(AV.agg [(AV.lit (.int .i64 (m.mod))), (AV.sl 1 (is .i64 (m.mul))), (AV.sl 1 (is .i64 (m.add)))]), (AV.lit (.string (a))), (AV.lit (.int .i64 (K)))] (AV.tup [(nm .i64 (fallK m (a) (K))), (AV.lit (.string (fallT m (a) (K)))), (nm .i64 (fallE m (a) (K)))]) Gd.none Wq1_tC27 rfl (c_sFalls m (a) (K) (by first | assumption | decide | omega)) ?_
        refine o_move (AV.tup [(nm .i64 (fallK m (a) (K))), (AV.lit (.string (fallT m (a) (K)))), (nm .i64 (fallE m (a) (K)))]) Gd.none rfl ?_
        refine o_extract (nm .i64 (fallK m (a) (K))) Gd.none rfl rfl ?_
        refine n_as (v' := (nm .i64 ((fallZ m (numS a) K.toNat (numS a) 1).1))) (by exact congrArg (nm _) (fallK_e ⟨hm', ha'⟩ (by omega))) ?_
        refine o_extract (AV.lit (.string (fallT m (a) (K)))) Gd.none rfl rfl ?_
        refine o_extract (nm .i64 (fallE m (a) (K))) Gd.none rfl rfl ?_
        refine n_as (v' := (nm .i64 ((fallZ m (numS a) K.toNat (numS a) 1).2.2))) (by exact congrArg (nm _) (fallE_e ⟨hm', ha'⟩ (by omega))) ?_
        refine o_assign (nm .i64 ((fallZ m (numS a) K.toNat (numS a) 1).1)) Gd.none rfl ?_
        refine o_assign (AV.lit (.string (fallT m (a) (K)))) Gd.none rfl ?_
        refine o_assign (nm .i64 ((fallZ m (numS a) K.toNat (numS a) 1).2.2)) Gd.none rfl ?_
        refine aops_end ?_
        refine hK6 _ ?_
        refine awp_seq fun K7 hK7 => ?_
        refine awp_seq fun K8 hK8 => ?_
        refine awp_region rfl ?_
        refine o_move (nm .i64 ((fallZ m (numS a) K.toNat (numS a) 1).2.2)) Gd.none rfl ?_
        refine n_eql ((fallZ m (numS a) K.toNat (numS a) 1).2.2) (3) Gd.none rfl rfl ?_
        refine aops_end ?_
        refine hK8 _ ?_
        refine awp_condQ (q := ((fallZ m (numS a) K.toNat (numS a) 1).2.2) = (3)) rfl (fun h4 => ?_) (fun h4 => ?_)
        · refine awp_seq fun K9 hK9 => ?_
          refine awp_region rfl ?_
          refine o_loadA [(AV.lit (.int .i64 (m.mod))), (AV.sl 1 (is .i64 (m.mul))), (AV.sl 1 (is .i64 (m.add)))] Gd.none Wq1_tA24 rfl rfl rfl rfl rfl ?_
          refine o_move (AV.lit (.string (a))) Gd.none rfl ?_
          refine o_move (AV.lit (.int .i64 (K))) Gd.none rfl ?_
          refine o_call [(AV.agg [(AV.lit (.int .i64 (m.mod))), (AV.sl 1 (is .i64 (m.mul))), (AV.sl 1 (is .i64 (m.add)))]), (AV.lit (.string (a))), (AV.lit (.int .i64 (K)))] (AV.tup [(AV.lit (.string (runS m (a) (K)))), (nm .i64 (runE m (a) (K)))]) Gd.none Wq1_tC36 rfl (c_sRun m (a) (K) (by first | assumption | decide | omega)) ?_
          refine o_move (AV.tup [(AV.lit (.string (runS m (a) (K)))), (nm .i64 (runE m (a) (K)))]) Gd.none rfl ?_
          refine o_extract (AV.lit (.string (runS m (a) (K)))) Gd.none rfl rfl ?_
          refine o_extract (nm .i64 (runE m (a) (K))) Gd.none rfl rfl ?_
          refine n_as (v' := (nm .i64 (3))) (by exact congrArg (nm _) ((runE_e ⟨hm', ha'⟩ (by omega)).trans (toldE_no (fall_3 h4)))) ?_
          refine o_assign (AV.lit (.string (runS m (a) (K)))) Gd.none rfl ?_
          refine o_assign (nm .i64 (3)) Gd.none rfl ?_
          refine aops_end ?_
          refine hK9 _ ?_
          refine awp_seq fun K10 hK10 => ?_
          refine awp_region rfl ?_
          refine o_move (nm .i64 (3)) Gd.none rfl ?_
          refine n_eql (3) (3) Gd.none rfl rfl ?_
          refine o_move (bp ((3) = (3))) Gd.none rfl ?_
          refine o_call [] (AV.lit (.bool true)) (Gd.yes rfl rfl (decide_eq_true (by decide))) Wq1_tC22 rfl c_l2Awake ?_
          refine o_pickT (b := decide ((3) = (3))) (AV.lit (.bool true)) Gd.none rfl (decide_eq_true (by decide)) rfl ?_
          refine o_assign (AV.lit (.bool true)) Gd.none rfl ?_
          refine aops_end ?_
          refine hK10 _ ?_
          refine awp_ret ?_
          refine post_ret ⟨[(AV.lit (.bool true))], And.intro (AV.le_refl _) (trivial), rfl, ?_⟩
          first | rfl | simp [bp]
        · refine awp_skip ?_
          refine hK7 _ ?_
          refine awp_seqJ (J := fun σ => ∃ (q : Nat), (q ≤ 1000) ∧ (((fallZ m (numS a) K.toNat (numS a) 1).2.2 = 4 ∧ q = K.toNat) ∨ ((fallZ m (numS a) K.toNat (numS a) 1).2.2 = 0 ∧ q = (fallZ m (numS a) K.toNat (numS a) 1).1)) ∧ (∀ j, j ≤ q → Fit (iterZ m j (numS a))) ∧ True ∧ σ = ⟨[(1, (AV.lit (.string (a)))), (3, (AV.ref 2 (0))), (7, (nm .i64 (q))), (8, (AV.lit (.string (fallT m (a) (K))))), (9, (nm .i64 ((fallZ m (numS a) K.toNat (numS a) 1).2.2)))], [(2, (AO.var 24 [(AV.lit (.int .i64 (m.mod))), (AV.sl 1 (is .i64 (m.mul))), (AV.sl 1 (is .i64 (m.add)))]))]⟩) ?ja0 ?jb0
          case ja0 =>
            refine awp_seq fun K11 hK11 => ?_
            refine awp_region rfl ?_
            refine o_move (nm .i64 ((fallZ m (numS a) K.toNat (numS a) 1).2.2)) Gd.none rfl ?_
            refine n_eql ((fallZ m (numS a) K.toNat (numS a) 1).2.2) (4) Gd.none rfl rfl ?_
            refine aops_end ?_
            refine hK11 _ ?_
            refine awp_condQ (q := ((fallZ m (numS a) K.toNat (numS a) 1).2.2) = (4)) rfl (fun h5 => ?_) (fun h5 => ?_)
            · refine awp_region rfl ?_
              refine o_move (AV.lit (.int .i64 (K))) Gd.none rfl ?_
              refine n_as (v' := (nm .i64 (K.toNat))) (nm_int (by omega)) ?_
              refine o_assign (nm .i64 (K.toNat)) Gd.none rfl ?_
              refine aops_end ?_
              exact ⟨_, ⟨K.toNat, (by omega), (.inl ⟨h5, rfl⟩), (fun j hj => (fall_4 hnf h5 j hj).1), trivial, rfl⟩, Wk.sub (And.intro (by exact rfl) (And.intro (by exact rfl) (And.intro (by first | rfl | exact congrArg (nm _) (by omega) | exact nm_int (by omega) | exact nm_int (by simp [IntKind.wrap, IntKind.bits, IntKind.signed]; omega)) (And.intro (by exact rfl) (And.intro (by exact rfl) (trivial)))))) (And.intro (by first | rfl | exact row_ns (by simp) | exact congrArg (fun x => some (AO.blk (.stringIter _ x))) (by omega)) (trivial))⟩
            · refine awp_seq fun K12 hK12 => ?_
              refine awp_region rfl ?_
              refine o_move (nm .i64 ((fallZ m (numS a) K.toNat (numS a) 1).2.2)) Gd.none rfl ?_
              refine n_as (v' := (nm .i64 (0))) (by exact congrArg (nm _) (fall_0 hnf h4 h5).1) ?_
              refine n_neq (0) (0) Gd.none rfl rfl ?_
              refine o_move (bp ((0) ≠ (0))) Gd.none rfl ?_
              refine o_move (nm .i64 ((fallZ m (numS a) K.toNat (numS a) 1).1)) (Gd.yes rfl rfl (decide_eq_false (by decide))) rfl ?_
              refine n_lss ((fallZ m (numS a) K.toNat (numS a) 1).1) (1) (Gd.yes rfl rfl (decide_eq_false (by decide))) rfl rfl ?_
              refine o_pickF (b := decide ((0) ≠ (0))) (bp (((fallZ m (numS a) K.toNat (numS a) 1).1) < (1))) Gd.none rfl (decide_eq_false (by decide)) rfl ?_
              refine o_move (bp (((fallZ m (numS a) K.toNat (numS a) 1).1) < (1))) Gd.none rfl ?_
              refine o_splitP (q := ((fallZ m (numS a) K.toNat (numS a) 1).1) < (1)) 60 rfl (fun h6 => ?_) (fun h6 => ?_)
              · exact absurd h6 (by have := (fall_0 hnf h4 h5).2.1; omega)
              · refine o_move (nm .i64 ((fallZ m (numS a) K.toNat (numS a) 1).1)) (Gd.yes rfl rfl (decide_eq_false h6)) rfl ?_
                refine o_move (AV.lit (.int .i64 (K))) (Gd.yes rfl rfl (decide_eq_false h6)) rfl ?_
                refine o_gtr (a := ((((fallZ m (numS a) K.toNat (numS a) 1).1 : Nat) : Int))) (c := (K)) (Gd.yes rfl rfl (decide_eq_false h6)) rfl rfl ?_
                refine o_pickF (b := decide (((fallZ m (numS a) K.toNat (numS a) 1).1) < (1))) (bp ((K) < ((((fallZ m (numS a) K.toNat (numS a) 1).1 : Nat) : Int)))) Gd.none rfl (decide_eq_false h6) rfl ?_
                refine aops_end ?_
                refine hK12 _ ?_
                refine awp_condQ (q := (K) < ((((fallZ m (numS a) K.toNat (numS a) 1).1 : Nat) : Int))) rfl (fun h7 => ?_) (fun h7 => ?_)
                · exact absurd h7 (by have := (fall_0 hnf h4 h5).2.2.1; omega)
                · refine awp_skip ?_
                  exact ⟨_, ⟨(fallZ m (numS a) K.toNat (numS a) 1).1, (by have := (fall_0 hnf h4 h5).2.2.1; omega), (.inr ⟨(fall_0 hnf h4 h5).1, rfl⟩), (fun j hj => ((fall_0 hnf h4 h5).2.2.2.2.2 j hj).1), trivial, rfl⟩, Wk.sub (And.intro (by exact rfl) (And.intro (by exact rfl) (And.intro (by first | rfl | exact congrArg (nm _) (by omega) | exact nm_int (by omega) | exact nm_int (by simp [IntKind.wrap, IntKind.bits, IntKind.signed]; omega)) (And.intro (by exact rfl) (And.intro (by exact rfl) (trivial)))))) (And.intro (by first | rfl | exact row_ns (by simp) | exact congrArg (fun x => some (AO.blk (.stringIter _ x))) (by omega)) (trivial))⟩
          rintro _ ⟨q, hq, hE, hfit, -, rfl⟩
          have hfr := fit_run hfit
          have hob := orb_fit hfr.1
          refine awp_seq fun K13 hK13 => ?_
          refine awp_region rfl ?_
          refine o_loadA [(AV.lit (.int .i64 (m.mod))), (AV.sl 1 (is .i64 (m.mul))), (AV.sl 1 (is .i64 (m.add)))] Gd.none Wq1_tA24 rfl rfl rfl rfl rfl ?_
          refine o_move (AV.lit (.string (a))) Gd.none rfl ?_
          refine o_move (nm .i64 (q)) Gd.none rfl ?_
          refine o_call [(AV.agg [(AV.lit (.int .i64 (m.mod))), (AV.sl 1 (is .i64 (m.mul))), (AV.sl 1 (is .i64 (m.add)))]), (AV.lit (.string (a))), (nm .i64 (q))] (AV.tup [(AV.sl 1 (sbs ((orbS m (a) (((q : Nat) : Int))).map txt))), (nm .i64 (orbE m (a) (((q : Nat) : Int))))]) Gd.none Wq1_tC19 rfl (c_sOrbit m (a) (((q : Nat) : Int)) (by first | assumption | decide | omega)) ?_
          refine o_move (AV.tup [(AV.sl 1 (sbs ((orbS m (a) (((q : Nat) : Int))).map txt))), (nm .i64 (orbE m (a) (((q : Nat) : Int))))]) Gd.none rfl ?_
          refine o_extract (AV.sl 1 (sbs ((orbS m (a) (((q : Nat) : Int))).map txt))) Gd.none rfl rfl ?_
          refine n_as (v' := (AV.sl 1 (sbs ((orbZ m q (numS a)).map txt)))) (by exact ss_as (congrArg (List.map txt) (orbS_yes ⟨hm', ha', by omega, by omega, hfr.1⟩))) ?_
          refine o_extract (nm .i64 (orbE m (a) (((q : Nat) : Int)))) Gd.none rfl rfl ?_
          refine n_as (v' := (nm .i64 (0))) (by exact congrArg (nm _) (orbE_0 ⟨hm', ha'⟩ (by omega) hfr.1)) ?_
          refine o_assign (AV.sl 1 (sbs ((orbZ m q (numS a)).map txt))) Gd.none rfl ?_
          refine o_assign (nm .i64 (0)) Gd.none rfl ?_
          refine aops_end ?_
          refine hK13 _ ?_
          refine awp_seq fun K14 hK14 => ?_
          refine awp_seq fun K15 hK15 => ?_
          refine awp_region rfl ?_
          refine o_move (nm .i64 (0)) Gd.none rfl ?_
          refine n_neq (0) (0) Gd.none rfl rfl ?_
          refine o_move (bp ((0) ≠ (0))) Gd.none rfl ?_
          refine o_move (AV.sl 1 (sbs ((orbZ m q (numS a)).map txt))) (Gd.yes rfl rfl (decide_eq_false (by decide))) rfl ?_
          refine s_len ((orbZ m q (numS a)).map txt) (Gd.yes rfl rfl (decide_eq_false (by decide))) Wq1_tU26 rfl ?_
          refine n_as (v' := (nm .i64 (q + 1))) (by exact congrArg (nm _) (by rw [List.length_map]; exact hob.1)) ?_
          refine o_move (nm .i64 (q)) (Gd.yes rfl rfl (decide_eq_false (by decide))) rfl ?_
          refine n_add (q) (1) (Gd.yes rfl rfl (decide_eq_false (by decide))) rfl rfl (by simp only [topOf]; omega) ?_
          refine n_as (v' := (nm .i64 (q + 1))) (by rfl) ?_
          refine n_neq (q + 1) (q + 1) (Gd.yes rfl rfl (decide_eq_false (by decide))) rfl rfl ?_
          refine o_pickF (b := decide ((0) ≠ (0))) (bp ((q + 1) ≠ (q + 1))) Gd.none rfl (decide_eq_false (by decide)) rfl ?_
          refine aops_end ?_
          refine hK15 _ ?_
          refine awp_condB (b := decide ((q + 1) ≠ (q + 1))) rfl (fun hh => absurd (hh.symm.trans (decide_eq_false (fun h => h rfl))) (by decide)) (fun _ => ?_)
          refine awp_skip ?_
          refine hK14 _ ?_
          refine awp_seq fun K16 hK16 => ?_
          refine awp_region rfl ?_
          refine o_move (AV.lit (.string (a))) Gd.none rfl ?_
          refine o_call [(AV.lit (.string (a)))] (intR ((numS (a)))) Gd.none Wq1_tC24 rfl (c_rParse (a) (by first | assumption | exact okS_iff.1 (by assumption))) ?_
          refine o_alloc 101 [(AV.lit (.bool false)), (AV.lit (.slice none 0 0))] Gd.none Wq1_tO36 rfl rfl rfl ?_
          refine o_store [(101, (AO.var 36 [(bp ((numS (a)) < 0)), (AV.sl 1 (ns .i64 (digs ((numS (a))).natAbs)))])), (2, (AO.var 24 [(AV.lit (.int .i64 (m.mod))), (AV.sl 1 (is .i64 (m.mul))), (AV.sl 1 (is .i64 (m.add)))]))] Gd.none Wq1_tZ36 rfl rfl rfl rfl rfl rfl ?_
          refine aops_end ?_
          refine hK16 _ ?_
          refine awp_seq fun K17 hK17 => ?_
          refine awp_seq fun K18 hK18 => ?_
          refine awp_region rfl ?_
          refine o_assign (nm .i64 (0)) Gd.none rfl ?_
          refine aops_end ?_
          refine hK18 _ ?_
          refine awp_block ?_
          refine awp_loopR (fun κ σ => ∃ (i : Nat), (i ≤ q + 1) ∧ (q + 1 - i) = κ ∧ σ = ⟨[(7, (nm .i64 (q))), (8, (AV.lit (.string (fallT m (a) (K))))), (9, (nm .i64 ((fallZ m (numS a) K.toNat (numS a) 1).2.2))), (12, (AV.sl 1 (sbs ((orbZ m q (numS a)).map txt)))), (14, (AV.ref 101 (0))), (15, (nm .i64 (i)))], [(101, (AO.var 36 [(bp ((numS (a)) < 0)), (AV.sl 1 (ns .i64 (digs ((numS (a))).natAbs)))]))]⟩) ⟨_, _, ⟨0, (by omega), rfl, rfl⟩, ?wk1⟩ ?rd1
          case wk1 =>
            exact Wk.sub (And.intro (by exact rfl) (And.intro (by exact rfl) (And.intro (by exact rfl) (And.intro (by exact rfl) (And.intro (by exact rfl) (And.intro (by first | rfl | exact congrArg (nm _) (by omega) | exact nm_int (by omega) | exact nm_int (by simp [IntKind.wrap, IntKind.bits, IntKind.signed]; omega)) (trivial))))))) (And.intro (by first | rfl | exact row_ns (by simp) | exact congrArg (fun x => some (AO.blk (.stringIter _ x))) (by omega)) (trivial))
          rintro κ _ ⟨i, hi, rfl, rfl⟩
          refine awp_seq fun K19 hK19 => ?_
          refine awp_seq fun K20 hK20 => ?_
          refine awp_region rfl ?_
          refine o_move (nm .i64 (i)) Gd.none rfl ?_
          refine o_move (AV.sl 1 (sbs ((orbZ m q (numS a)).map txt))) Gd.none rfl ?_
          refine s_len ((orbZ m q (numS a)).map txt) Gd.none Wq1_tU26 rfl ?_
          refine n_as (v' := (nm .i64 (q + 1))) (by exact congrArg (nm _) (by rw [List.length_map]; exact hob.1)) ?_
          refine n_lss (i) (q + 1) Gd.none rfl rfl ?_
          refine aops_end ?_
          refine hK20 _ ?_
          refine awp_condQ (q := (i) < (q + 1)) rfl (fun h8 => ?_) (fun h8 => ?_)
          · have hfi := hfit i (by omega)
            have hts := txt_sz hfi
            have hos := okS_iff.2 (okS_txt hfi)
            have hli := fit_len hfi
            refine awp_skip ?_
            refine hK19 _ ?_
            refine awp_seq fun K21 hK21 => ?_
            refine awp_block ?_
            refine awp_seq fun K22 hK22 => ?_
            refine awp_regionD rfl ?_
            refine o_move (AV.sl 1 (sbs ((orbZ m q (numS a)).map txt))) Gd.none rfl ?_
            refine o_move (nm .i64 (i)) Gd.none rfl ?_
            refine s_index ((orbZ m q (numS a)).map txt) (i) Gd.none Wq1_tE26 rfl rfl (by rw [List.length_map, hob.1]; omega) ?_
            refine s_loadI ((orbZ m q (numS a)).map txt) (i) Gd.none Wq1_tS9 rfl (by rw [List.length_map, hob.1]; omega) ?_
            refine n_as (v' := (AV.lit (.string (txt (iterZ m i (numS a)))))) (by exact str_as ((map_getD (by rw [hob.1]; omega)).trans (congrArg txt (hob.2 i (by omega))))) ?_
            refine o_call [(AV.lit (.string (txt (iterZ m i (numS a)))))] (AV.lit (.bool (okS (txt (iterZ m i (numS a)))))) Gd.none Wq1_tC29 rfl (c_rValid (txt (iterZ m i (numS a))) (by first | assumption | omega)) ?_
            refine n_as (v' := (AV.lit (.bool true))) (by rw [hos]) ?_
            refine o_not (b := true) Gd.none rfl ?_
            refine o_move (AV.lit (.bool false)) Gd.none rfl ?_
            refine o_move (AV.sl 1 (sbs ((orbZ m q (numS a)).map txt))) (Gd.yes rfl rfl rfl) rfl ?_
            refine o_move (nm .i64 (i)) (Gd.yes rfl rfl rfl) rfl ?_
            refine s_index ((orbZ m q (numS a)).map txt) (i) (Gd.yes rfl rfl rfl) Wq1_tE26 rfl rfl (by rw [List.length_map, hob.1]; omega) ?_
            refine s_loadI ((orbZ m q (numS a)).map txt) (i) (Gd.yes rfl rfl rfl) Wq1_tS9 rfl (by rw [List.length_map, hob.1]; omega) ?_
            refine n_as (v' := (AV.lit (.string (txt (iterZ m i (numS a)))))) (by exact str_as ((map_getD (by rw [hob.1]; omega)).trans (congrArg txt (hob.2 i (by omega))))) ?_
            refine o_call [(AV.lit (.string (txt (iterZ m i (numS a)))))] (intR ((numS (txt (iterZ m i (numS a)))))) (Gd.yes rfl rfl rfl) Wq1_tC24 rfl (c_rParse (txt (iterZ m i (numS a))) (by first | assumption | exact okS_iff.1 (by assumption))) ?_
            refine n_as (v' := (intR ((iterZ m i (numS a))))) (by simp only [numS_txt]) ?_
            refine o_loadA [(bp ((numS (a)) < 0)), (AV.sl 1 (ns .i64 (digs ((numS (a))).natAbs)))] (Gd.yes rfl rfl rfl) Wq1_tA36 rfl rfl rfl rfl rfl ?_
            refine o_call [(intR ((iterZ m i (numS a)))), (AV.agg [(bp ((numS (a)) < 0)), (AV.sl 1 (ns .i64 (digs ((numS (a))).natAbs)))])] (AV.lit (.int .i64 (cmpZ ((iterZ m i (numS a))) ((numS (a)))))) (Gd.yes rfl rfl rfl) Wq1_tC34 rfl (c_rCmp ((iterZ m i (numS a))) ((numS (a)))) ?_
            refine o_lss (a := (cmpZ ((iterZ m i (numS a))) ((numS (a))))) (c := (((0 : Nat) : Int))) (Gd.yes rfl rfl rfl) rfl rfl ?_
            refine o_move (nm .i64 ((fallZ m (numS a) K.toNat (numS a) 1).2.2)) (Gd.yes rfl rfl rfl) rfl ?_
            refine n_eql ((fallZ m (numS a) K.toNat (numS a) 1).2.2) (0) (Gd.yes rfl rfl rfl) rfl rfl ?_
            refine o_move (bp (((fallZ m (numS a) K.toNat (numS a) 1).2.2) = (0))) (Gd.yes rfl rfl rfl) rfl ?_
            refine o_splitP (q := ((fallZ m (numS a) K.toNat (numS a) 1).2.2) = (0)) 106 rfl (fun h9 => ?_) (fun h9 => ?_)
            · refine o_move (nm .i64 (i)) (Gd.yes rfl rfl (decide_eq_true h9)) rfl ?_
              refine o_move (nm .i64 (q)) (Gd.yes rfl rfl (decide_eq_true h9)) rfl ?_
              refine n_eql (i) (q) (Gd.yes rfl rfl (decide_eq_true h9)) rfl rfl ?_
              refine o_pickT (b := decide (((fallZ m (numS a) K.toNat (numS a) 1).2.2) = (0))) (bp ((i) = (q))) (Gd.yes rfl rfl rfl) rfl (decide_eq_true h9) rfl ?_
              refine o_neqB (a := (decide ((cmpZ ((iterZ m i (numS a))) ((numS (a)))) < (((0 : Nat) : Int))))) (c := (decide ((i) = (q)))) (Gd.yes rfl rfl rfl) rfl rfl Wq1_tB4 ?_
              refine o_pickF (b := false) (bp ((decide ((cmpZ ((iterZ m i (numS a))) ((numS (a)))) < (((0 : Nat) : Int)))) ≠ (decide ((i) = (q))))) Gd.none rfl rfl rfl ?_
              refine aops_end ⟨by kernel_rfl, ?_⟩
              refine hK22 _ ?_
              refine awp_condQ (q := (decide ((cmpZ ((iterZ m i (numS a))) ((numS (a)))) < (((0 : Nat) : Int)))) ≠ (decide ((i) = (q)))) rfl (fun h10 => ?_) (fun h10 => ?_)
              · exact absurd (decide_eq_decide.2 (first_iff hnf h9 hE (by omega))) h10
              · refine awp_skip ?_
                refine hK21 _ ?_
                refine awp_region rfl ?_
                refine o_move (nm .i64 (i)) Gd.none rfl ?_
                refine n_add (i) (1) Gd.none rfl rfl (by simp only [topOf]; omega) ?_
                refine o_assign (nm .i64 ((i) + (1))) Gd.none rfl ?_
                refine aops_end ?_
                refine ⟨_, _, ?lt, ⟨i + 1, (by omega), rfl, rfl⟩, ?wk⟩
                case lt => omega
                case wk => exact Wk.sub (And.intro (by exact rfl) (And.intro (by exact rfl) (And.intro (by exact rfl) (And.intro (by exact rfl) (And.intro (by exact rfl) (And.intro (by first | rfl | exact congrArg (nm _) (by omega) | exact nm_int (by omega) | exact nm_int (by simp [IntKind.wrap, IntKind.bits, IntKind.signed]; omega)) (trivial))))))) (And.intro (by first | rfl | exact row_ns (by simp) | exact congrArg (fun x => some (AO.blk (.stringIter _ x))) (by omega)) (trivial))
            · refine o_skip (b := decide (((fallZ m (numS a) K.toNat (numS a) 1).2.2) = (0))) rfl rfl (decide_eq_false h9) ?_
              refine o_skip (b := decide (((fallZ m (numS a) K.toNat (numS a) 1).2.2) = (0))) rfl rfl (decide_eq_false h9) ?_
              refine o_skip (b := decide (((fallZ m (numS a) K.toNat (numS a) 1).2.2) = (0))) rfl rfl (decide_eq_false h9) ?_
              refine o_pickF (b := decide (((fallZ m (numS a) K.toNat (numS a) 1).2.2) = (0))) (AV.lit (.bool false)) (Gd.yes rfl rfl rfl) rfl (decide_eq_false h9) rfl ?_
              refine o_neqB (a := (decide ((cmpZ ((iterZ m i (numS a))) ((numS (a)))) < (((0 : Nat) : Int))))) (c := (false)) (Gd.yes rfl rfl rfl) rfl rfl Wq1_tB4 ?_
              refine o_pickF (b := false) (bp ((decide ((cmpZ ((iterZ m i (numS a))) ((numS (a)))) < (((0 : Nat) : Int)))) ≠ (false))) Gd.none rfl rfl rfl ?_
              refine aops_end ⟨by kernel_rfl, ?_⟩
              refine hK22 _ ?_
              refine awp_condQ (q := (decide ((cmpZ ((iterZ m i (numS a))) ((numS (a)))) < (((0 : Nat) : Int)))) ≠ (false)) rfl (fun h11 => ?_) (fun h11 => ?_)
              · exact absurd (first_no hnf h9 hE (by omega)) h11
              · refine awp_skip ?_
                refine hK21 _ ?_
                refine awp_region rfl ?_
                refine o_move (nm .i64 (i)) Gd.none rfl ?_
                refine n_add (i) (1) Gd.none rfl rfl (by simp only [topOf]; omega) ?_
                refine o_assign (nm .i64 ((i) + (1))) Gd.none rfl ?_
                refine aops_end ?_
                refine ⟨_, _, ?lt, ⟨i + 1, (by omega), rfl, rfl⟩, ?wk⟩
                case lt => omega
                case wk => exact Wk.sub (And.intro (by exact rfl) (And.intro (by exact rfl) (And.intro (by exact rfl) (And.intro (by exact rfl) (And.intro (by exact rfl) (And.intro (by first | rfl | exact congrArg (nm _) (by omega) | exact nm_int (by omega) | exact nm_int (by simp [IntKind.wrap, IntKind.bits, IntKind.signed]; omega)) (trivial))))))) (And.intro (by first | rfl | exact row_ns (by simp) | exact congrArg (fun x => some (AO.blk (.stringIter _ x))) (by omega)) (trivial))
          · refine awp_exit ?_
            refine hK17 _ ?_
            refine awp_seq fun K23 hK23 => ?_
            refine awp_region rfl ?_
            refine o_move (nm .i64 ((fallZ m (numS a) K.toNat (numS a) 1).2.2)) Gd.none rfl ?_
            refine n_eql ((fallZ m (numS a) K.toNat (numS a) 1).2.2) (4) Gd.none rfl rfl ?_
            refine o_move (bp (((fallZ m (numS a) K.toNat (numS a) 1).2.2) = (4))) Gd.none rfl ?_
            refine o_splitP (q := ((fallZ m (numS a) K.toNat (numS a) 1).2.2) = (4)) 115 rfl (fun h12 => ?_) (fun h12 => ?_)
            · refine o_skip (b := decide (((fallZ m (numS a) K.toNat (numS a) 1).2.2) = (4))) rfl rfl (decide_eq_true h12) ?_
              refine o_skip (b := decide (((fallZ m (numS a) K.toNat (numS a) 1).2.2) = (4))) rfl rfl (decide_eq_true h12) ?_
              refine o_skip (b := decide (((fallZ m (numS a) K.toNat (numS a) 1).2.2) = (4))) rfl rfl (decide_eq_true h12) ?_
              refine o_skip (b := decide (((fallZ m (numS a) K.toNat (numS a) 1).2.2) = (4))) rfl rfl (decide_eq_true h12) ?_
              refine o_skip (b := decide (((fallZ m (numS a) K.toNat (numS a) 1).2.2) = (4))) rfl rfl (decide_eq_true h12) ?_
              refine o_skip (b := decide (((fallZ m (numS a) K.toNat (numS a) 1).2.2) = (4))) rfl rfl (decide_eq_true h12) ?_
              refine o_pickT (b := decide (((fallZ m (numS a) K.toNat (numS a) 1).2.2) = (4))) (AV.lit (.bool true)) Gd.none rfl (decide_eq_true h12) rfl ?_
              refine o_move (AV.lit (.bool true)) Gd.none rfl ?_
              refine o_call [] (AV.lit (.bool true)) (Gd.yes rfl rfl rfl) Wq1_tC22 rfl c_l2Awake ?_
              refine o_pickT (b := true) (AV.lit (.bool true)) Gd.none rfl rfl rfl ?_
              refine o_assign (AV.lit (.bool true)) Gd.none rfl ?_
              refine aops_end ?_
              refine hK23 _ ?_
              refine awp_ret ?_
              refine post_ret ⟨[(AV.lit (.bool true))], And.intro (AV.le_refl _) (trivial), rfl, ?_⟩
              first | rfl | simp [bp]
            · refine o_move (AV.sl 1 (sbs ((orbZ m q (numS a)).map txt))) (Gd.yes rfl rfl (decide_eq_false h12)) rfl ?_
              refine o_move (nm .i64 (q)) (Gd.yes rfl rfl (decide_eq_false h12)) rfl ?_
              refine s_index ((orbZ m q (numS a)).map txt) (q) (Gd.yes rfl rfl (decide_eq_false h12)) Wq1_tE26 rfl rfl (by rw [List.length_map, hob.1]; omega) ?_
              refine s_loadI ((orbZ m q (numS a)).map txt) (q) (Gd.yes rfl rfl (decide_eq_false h12)) Wq1_tS9 rfl (by rw [List.length_map, hob.1]; omega) ?_
              refine n_as (v' := (AV.lit (.string (fallT m (a) (K))))) (by exact str_as ((map_getD (by rw [hob.1]; omega)).trans ((congrArg txt (hob.2 q (by omega))).trans (first_txt ⟨hm', ha'⟩ (by omega) hnf h12 hE)))) ?_
              refine o_move (AV.lit (.string (fallT m (a) (K)))) (Gd.yes rfl rfl (decide_eq_false h12)) rfl ?_
              refine o_eqlS (a := (fallT m (a) (K))) (c := (fallT m (a) (K))) (Gd.yes rfl rfl (decide_eq_false h12)) rfl rfl ?_
              refine o_pickF (b := decide (((fallZ m (numS a) K.toNat (numS a) 1).2.2) = (4))) (bp ((fallT m (a) (K)).toList = (fallT m (a) (K)).toList)) Gd.none rfl (decide_eq_false h12) rfl ?_
              refine o_move (bp ((fallT m (a) (K)).toList = (fallT m (a) (K)).toList)) Gd.none rfl ?_
              refine o_call [] (AV.lit (.bool true)) (Gd.yes rfl rfl (decide_eq_true rfl)) Wq1_tC22 rfl c_l2Awake ?_
              refine o_pickT (b := decide ((fallT m (a) (K)).toList = (fallT m (a) (K)).toList)) (AV.lit (.bool true)) Gd.none rfl (decide_eq_true rfl) rfl ?_
              refine o_assign (AV.lit (.bool true)) Gd.none rfl ?_
              refine aops_end ?_
              refine hK23 _ ?_
              refine awp_ret ?_
              refine post_ret ⟨[(AV.lit (.bool true))], And.intro (AV.le_refl _) (trivial), rfl, ?_⟩
              first | rfl | simp [bp]

end Go.Proofs.YtkngglpnejdicaaDoor
