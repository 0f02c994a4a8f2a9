import Derived.Test.YtkngglpnejdicaaDoorWo
set_option linter.unusedVariables false
set_option linter.unusedSimpArgs false
namespace Go.Proofs.YtkngglpnejdicaaDoor
open Go Go.Ab Go.Mth
theorem Wp1_tA24 : tyAgg cx.P 24 = some 3 := by kernel_rfl
theorem Wp1_tC18 : callable cx.P 18 = true := by kernel_rfl
theorem Wp1_tO24 : tyZero cx.P 24 = some [(Go.Value.int IntKind.i64 0), (Go.Value.slice none 0 0), (Go.Value.slice none 0 0)] := by kernel_rfl
theorem Wp1_tZ24 : tySize cx.P 24 = some 3 := by kernel_rfl
theorem Wp1_tC27 : callable cx.P 27 = true := by kernel_rfl
theorem Wp1_tC20 : callable cx.P 20 = true := by kernel_rfl
theorem Wp1_tC21 : callable cx.P 21 = true := by kernel_rfl
theorem Wp1_tC22 : callable cx.P 22 = true := by kernel_rfl
theorem Wp1_tC24 : callable cx.P 24 = true := by kernel_rfl
theorem Wp1_tC28 : callable cx.P 28 = true := by kernel_rfl
theorem Wp1_tO36 : tyZero cx.P 36 = some [(Go.Value.bool false), (Go.Value.slice none 0 0)] := by kernel_rfl
theorem Wp1_tZ36 : tySize cx.P 36 = some 2 := by kernel_rfl
theorem Wp1_tA36 : tyAgg cx.P 36 = some 2 := by kernel_rfl
theorem Wp1_tC26 : callable cx.P 26 = true := by kernel_rfl
theorem c_StepFalls (m : MapM) (a : ByteArray) (K : Int) (hsz : a.size ≤ 9223372036854775807) (h1m : m.mul.length ≤ 17592186044416) (h2m : m.add.length ≤ 17592186044416) : ECalls cx 4 [(mapV m), (AV.lit (.string (a))), (AV.lit (.int .i64 (K)))] (.lit (.bool true)) := by
  refine ecalls_of_awp Tryd.func4 (c := _) rfl (Nat.le_of_ble_eq_true rfl) ?_
  show awp cx 108 _ (postF cx Tryd.f4 _) ⟨[(0, (mapV m)), (1, (AV.lit (.string (a)))), (2, (AV.lit (.int .i64 (K))))], []⟩
  refine awp_seq fun K0 hK0 => ?_
  refine awp_region rfl ?_
  refine o_box 2 [(AV.lit (.int .i64 (m.mod))), (AV.sl 1 (is .i64 (m.mul))), (AV.sl 1 (is .i64 (m.add)))] Gd.none rfl rfl ?_
  refine o_assign (AV.lit (.bool false)) Gd.none rfl ?_
  refine aops_end ?_
  refine hK0 _ ?_
  refine awp_seq fun K1 hK1 => ?_
  refine awp_region rfl ?_
  refine o_loadA [(AV.lit (.int .i64 (m.mod))), (AV.sl 1 (is .i64 (m.mul))), (AV.sl 1 (is .i64 (m.add)))] Gd.none Wp1_tA24 rfl rfl rfl rfl rfl ?_
  refine o_call [(AV.agg [(AV.lit (.int .i64 (m.mod))), (AV.sl 1 (is .i64 (m.mul))), (AV.sl 1 (is .i64 (m.add)))])] (mapV m) Gd.none Wp1_tC18 rfl (c_gTwin m (by omega) (by omega)) ?_
  refine o_alloc 3 [(nm .i64 (0)), (AV.lit (.slice none 0 0)), (AV.lit (.slice none 0 0))] Gd.none Wp1_tO24 rfl rfl rfl ?_
  refine o_store [(3, (AO.var 24 [(AV.lit (.int .i64 (m.mod))), (AV.sl 1 (is .i64 (m.mul))), (AV.sl 1 (is .i64 (m.add)))])), (2, (AO.var 24 [(AV.lit (.int .i64 (m.mod))), (AV.sl 1 (is .i64 (m.mul))), (AV.sl 1 (is .i64 (m.add)))]))] Gd.none Wp1_tZ24 rfl rfl rfl rfl rfl rfl ?_
  refine aops_end ?_
  refine hK1 _ ?_
  refine awp_seq fun K2 hK2 => ?_
  refine awp_region rfl ?_
  refine o_loadA [(AV.lit (.int .i64 (m.mod))), (AV.sl 1 (is .i64 (m.mul))), (AV.sl 1 (is .i64 (m.add)))] Gd.none Wp1_tA24 rfl rfl rfl rfl rfl ?_
  refine o_move (AV.lit (.string (a))) Gd.none rfl ?_
  refine o_move (AV.lit (.int .i64 (K))) Gd.none rfl ?_
  refine o_call [(AV.agg [(AV.lit (.int .i64 (m.mod))), (AV.sl 1 (is .i64 (m.mul))), (AV.sl 1 (is .i64 (m.add)))]), (AV.lit (.string (a))), (AV.lit (.int .i64 (K)))] (AV.tup [(nm .i64 (fallK m (a) (K))), (AV.lit (.string (fallT m (a) (K)))), (nm .i64 (fallE m (a) (K)))]) Gd.none Wp1_tC27 rfl (c_sFalls m (a) (K) (by first | assumption | decide | omega)) ?_
  refine o_move (AV.tup [(nm .i64 (fallK m (a) (K))), (AV.lit (.string (fallT m (a) (K)))), (nm .i64 (fallE m (a) (K)))]) Gd.none rfl ?_
  refine o_extract (nm .i64 (fallK m (a) (K))) Gd.none rfl rfl ?_
  refine o_extract (AV.lit (.string (fallT m (a) (K)))) Gd.none rfl rfl ?_
  refine o_extract (nm .i64 (fallE m (a) (K))) Gd.none rfl rfl ?_
  refine o_assign (nm .i64 (fallK m (a) (K))) Gd.none rfl ?_
  refine o_assign (AV.lit (.string (fallT m (a) (K)))) Gd.none rfl ?_
  refine o_assign (nm .i64 (fallE m (a) (K))) Gd.none rfl ?_
  refine aops_end ?_
  refine hK2 _ ?_
  refine awp_seq fun K3 hK3 => ?_
  refine awp_block ?_
  refine awp_seq fun K4 hK4 => ?_
  refine awp_region rfl ?_
  refine o_loadA [(AV.lit (.int .i64 (m.mod))), (AV.sl 1 (is .i64 (m.mul))), (AV.sl 1 (is .i64 (m.add)))] Gd.none Wp1_tA24 rfl rfl rfl rfl rfl ?_
  refine o_loadA [(AV.lit (.int .i64 (m.mod))), (AV.sl 1 (is .i64 (m.mul))), (AV.sl 1 (is .i64 (m.add)))] Gd.none Wp1_tA24 rfl rfl rfl rfl rfl ?_
  refine o_call [(AV.agg [(AV.lit (.int .i64 (m.mod))), (AV.sl 1 (is .i64 (m.mul))), (AV.sl 1 (is .i64 (m.add)))]), (AV.agg [(AV.lit (.int .i64 (m.mod))), (AV.sl 1 (is .i64 (m.mul))), (AV.sl 1 (is .i64 (m.add)))])] (bp (m = m)) Gd.none Wp1_tC20 rfl (c_gSame m m) ?_
  refine o_notP (q := m = m) Gd.none rfl ?_
  refine o_assign (bp (¬ (m = m))) Gd.none rfl ?_
  refine aops_end ?_
  refine hK4 _ ?_
  refine awp_condB (b := decide (¬ (m = m))) rfl (fun hh => absurd (hh.symm.trans (decide_eq_false (fun h => h rfl))) (by decide)) (fun _ => ?_)
  refine awp_seq fun K5 hK5 => ?_
  refine awp_region rfl ?_
  refine o_loadA [(AV.lit (.int .i64 (m.mod))), (AV.sl 1 (is .i64 (m.mul))), (AV.sl 1 (is .i64 (m.add)))] Gd.none Wp1_tA24 rfl rfl rfl rfl rfl ?_
  refine o_move (AV.lit (.string (a))) Gd.none rfl ?_
  refine o_call [(AV.agg [(AV.lit (.int .i64 (m.mod))), (AV.sl 1 (is .i64 (m.mul))), (AV.sl 1 (is .i64 (m.add)))]), (AV.lit (.string (a)))] (AV.lit (.bool (okM m && okS (a)))) Gd.none Wp1_tC21 rfl (c_l2Formed m (a) (by first | assumption | omega)) ?_
  refine o_not (b := okM m && okS (a)) Gd.none rfl ?_
  refine o_assign (AV.lit (.bool (!(okM m && okS (a))))) Gd.none rfl ?_
  refine aops_end ?_
  refine hK5 _ ?_
  refine awp_condB (b := !(okM m && okS (a))) rfl (fun h1 => ?_) (fun h1 => ?_)
  · refine awp_seq fun K6 hK6 => ?_
    refine awp_region rfl ?_
    refine o_move (nm .i64 (fallK m (a) (K))) Gd.none rfl ?_
    refine n_as (v' := (nm .i64 (0))) (by exact congrArg (nm _) (fallK_no (fun h => unformed h1 ⟨h.1, h.2.1⟩))) ?_
    refine n_eql (0) (0) Gd.none rfl rfl ?_
    refine o_move (bp ((0) = (0))) Gd.none rfl ?_
    refine o_move (AV.lit (.string (fallT m (a) (K)))) (Gd.yes rfl rfl (decide_eq_true (by decide))) rfl ?_
    refine n_as (v' := (AV.lit (.string (({data := #[]} : ByteArray))))) (by exact str_as (fallT_no (fun h => unformed h1 ⟨h.1, h.2.1⟩))) ?_
    refine o_eqlS (a := (({data := #[]} : ByteArray))) (c := (({data := #[]} : ByteArray))) (Gd.yes rfl rfl (decide_eq_true (by decide))) rfl rfl ?_
    refine o_pickT (b := decide ((0) = (0))) (bp ((({data := #[]} : ByteArray)).toList = (({data := #[]} : ByteArray)).toList)) Gd.none rfl (decide_eq_true (by decide)) rfl ?_
    refine o_move (bp ((({data := #[]} : ByteArray)).toList = (({data := #[]} : ByteArray)).toList)) Gd.none rfl ?_
    refine o_move (nm .i64 (fallE m (a) (K))) (Gd.yes rfl rfl (decide_eq_true rfl)) rfl ?_
    refine n_as (v' := (nm .i64 (1))) (by exact congrArg (nm _) (fallE_1 (unformed h1))) ?_
    refine n_eql (1) (1) (Gd.yes rfl rfl (decide_eq_true rfl)) rfl rfl ?_
    refine o_pickT (b := decide ((({data := #[]} : ByteArray)).toList = (({data := #[]} : ByteArray)).toList)) (bp ((1) = (1))) Gd.none rfl (decide_eq_true rfl) rfl ?_
    refine o_move (bp ((1) = (1))) Gd.none rfl ?_
    refine o_call [] (AV.lit (.bool true)) (Gd.yes rfl rfl (decide_eq_true (by decide))) Wp1_tC22 rfl c_l2Awake ?_
    refine o_pickT (b := decide ((1) = (1))) (AV.lit (.bool true)) Gd.none rfl (decide_eq_true (by decide)) rfl ?_
    refine o_assign (AV.lit (.bool true)) Gd.none rfl ?_
    refine aops_end ?_
    refine hK6 _ ?_
    refine awp_ret ?_
    refine post_ret ⟨[(AV.lit (.bool true))], And.intro (AV.le_refl _) (trivial), rfl, ?_⟩
    first | rfl | simp [bp]
  · have hm2 := formed2 h1
    obtain ⟨hm', ha'⟩ := hm2
    have hM := okM_iff.1 hm'
    have hS := okS_iff.1 ha'
    have hlz := len_numS hS
    have hrl := runZ_len hM K.toNat (z := numS a) (by omega)
    have hol := fun i => orbZ_lens hM K.toNat (z := numS a) i (by omega)
    have hp := orbZ_last (m := m) K.toNat (numS a)
    have hfl := fallZ_len hM (n := numS a) K.toNat (x := numS a) 1 (by omega)
    refine awp_seq fun K7 hK7 => ?_
    refine awp_region rfl ?_
    refine o_move (AV.lit (.int .i64 (K))) Gd.none rfl ?_
    refine o_lss (a := (K)) (c := (((1 : Nat) : Int))) Gd.none rfl rfl ?_
    refine o_move (bp ((K) < (((1 : Nat) : Int)))) Gd.none rfl ?_
    refine o_splitP (q := (K) < (((1 : Nat) : Int))) 50 rfl (fun h2 => ?_) (fun h2 => ?_)
    · refine o_skip (b := decide ((K) < (((1 : Nat) : Int)))) rfl rfl (decide_eq_true h2) ?_
      refine o_skip (b := decide ((K) < (((1 : Nat) : Int)))) rfl rfl (decide_eq_true h2) ?_
      refine o_pickT (b := decide ((K) < (((1 : Nat) : Int)))) (AV.lit (.bool true)) Gd.none rfl (decide_eq_true h2) rfl ?_
      refine o_assign (AV.lit (.bool true)) Gd.none rfl ?_
      refine aops_end ?_
      refine hK7 _ ?_
      refine awp_condB (b := true) rfl (fun _ => ?_) (fun hh => absurd (hh.symm.trans rfl) (by decide))
      refine awp_seq fun K8 hK8 => ?_
      refine awp_region rfl ?_
      refine o_move (nm .i64 (fallK m (a) (K))) Gd.none rfl ?_
      refine n_as (v' := (nm .i64 (0))) (by exact congrArg (nm _) (fallK_no (fun h => by omega))) ?_
      refine n_eql (0) (0) Gd.none rfl rfl ?_
      refine o_move (bp ((0) = (0))) Gd.none rfl ?_
      refine o_move (AV.lit (.string (fallT m (a) (K)))) (Gd.yes rfl rfl (decide_eq_true (by decide))) rfl ?_
      refine n_as (v' := (AV.lit (.string (({data := #[]} : ByteArray))))) (by exact str_as (fallT_no (fun h => by omega))) ?_
      refine o_eqlS (a := (({data := #[]} : ByteArray))) (c := (({data := #[]} : ByteArray))) (Gd.yes rfl rfl (decide_eq_true (by decide))) rfl rfl ?_
      refine o_pickT (b := decide ((0) = (0))) (bp ((({data := #[]} : ByteArray)).toList = (({data := #[]} : ByteArray)).toList)) Gd.none rfl (decide_eq_true (by decide)) rfl ?_
      refine o_move (bp ((({data := #[]} : ByteArray)).toList = (({data := #[]} : ByteArray)).toList)) Gd.none rfl ?_
      refine o_move (nm .i64 (fallE m (a) (K))) (Gd.yes rfl rfl (decide_eq_true rfl)) rfl ?_
      refine n_as (v' := (nm .i64 (2))) (by exact congrArg (nm _) (fallE_2 ⟨hm', ha'⟩ (by omega))) ?_
      refine n_eql (2) (2) (Gd.yes rfl rfl (decide_eq_true rfl)) rfl rfl ?_
      refine o_pickT (b := decide ((({data := #[]} : ByteArray)).toList = (({data := #[]} : ByteArray)).toList)) (bp ((2) = (2))) Gd.none rfl (decide_eq_true rfl) rfl ?_
      refine o_move (bp ((2) = (2))) Gd.none rfl ?_
      refine o_call [] (AV.lit (.bool true)) (Gd.yes rfl rfl (decide_eq_true (by decide))) Wp1_tC22 rfl c_l2Awake ?_
      refine o_pickT (b := decide ((2) = (2))) (AV.lit (.bool true)) Gd.none rfl (decide_eq_true (by decide)) rfl ?_
      refine o_assign (AV.lit (.bool true)) Gd.none rfl ?_
      refine aops_end ?_
      refine hK8 _ ?_
      refine awp_ret ?_
      refine post_ret ⟨[(AV.lit (.bool true))], And.intro (AV.le_refl _) (trivial), rfl, ?_⟩
      first | rfl | simp [bp]
    · refine o_move (AV.lit (.int .i64 (K))) (Gd.yes rfl rfl (decide_eq_false h2)) rfl ?_
      refine o_gtr (a := (K)) (c := (((20000 : Nat) : Int))) (Gd.yes rfl rfl (decide_eq_false h2)) rfl rfl ?_
      refine o_pickF (b := decide ((K) < (((1 : Nat) : Int)))) (bp ((((20000 : Nat) : Int)) < (K))) Gd.none rfl (decide_eq_false h2) rfl ?_
      refine o_assign (bp ((((20000 : Nat) : Int)) < (K))) Gd.none rfl ?_
      refine aops_end ?_
      refine hK7 _ ?_
      refine awp_condQ (q := (((20000 : Nat) : Int)) < (K)) rfl (fun h3 => ?_) (fun h3 => ?_)
      · refine awp_seq fun K9 hK9 => ?_
        refine awp_region rfl ?_
        refine o_move (nm .i64 (fallK m (a) (K))) Gd.none rfl ?_
        refine n_as (v' := (nm .i64 (0))) (by exact congrArg (nm _) (fallK_no (fun h => by omega))) ?_
        refine n_eql (0) (0) Gd.none rfl rfl ?_
        refine o_move (bp ((0) = (0))) Gd.none rfl ?_
        refine o_move (AV.lit (.string (fallT m (a) (K)))) (Gd.yes rfl rfl (decide_eq_true (by decide))) rfl ?_
        refine n_as (v' := (AV.lit (.string (({data := #[]} : ByteArray))))) (by exact str_as (fallT_no (fun h => by omega))) ?_
        refine o_eqlS (a := (({data := #[]} : ByteArray))) (c := (({data := #[]} : ByteArray))) (Gd.yes rfl rfl (decide_eq_true (by decide))) rfl rfl ?_
        refine o_pickT (b := decide ((0) = (0))) (bp ((({data := #[]} : ByteArray)).toList = (({data := #[]} : ByteArray)).toList)) Gd.none rfl (decide_eq_true (by decide)) rfl ?_
        refine o_move (bp ((({data := #[]} : ByteArray)).toList = (({data := #[]} : ByteArray)).toList)) Gd.none rfl ?_
        refine o_move (nm .i64 (fallE m (a) (K))) (Gd.yes rfl rfl (decide_eq_true rfl)) rfl ?_
        refine n_as (v' := (nm .i64 (2))) (by exact congrArg (nm _) (fallE_2 ⟨hm', ha'⟩ (by omega))) ?_
        refine n_eql (2) (2) (Gd.yes rfl rfl (decide_eq_true rfl)) rfl rfl ?_
        refine o_pickT (b := decide ((({data := #[]} : ByteArray)).toList = (({data := #[]} : ByteArray)).toList)) (bp ((2) = (2))) Gd.none rfl (decide_eq_true rfl) rfl ?_
        refine o_move (bp ((2) = (2))) Gd.none rfl ?_
        refine o_call [] (AV.lit (.bool true)) (Gd.yes rfl rfl (decide_eq_true (by decide))) Wp1_tC22 rfl c_l2Awake ?_
        refine o_pickT (b := decide ((2) = (2))) (AV.lit (.bool true)) Gd.none rfl (decide_eq_true (by decide)) rfl ?_
        refine o_assign (AV.lit (.bool true)) Gd.none rfl ?_
        refine aops_end ?_
        refine hK9 _ ?_
        refine awp_ret ?_
        refine post_ret ⟨[(AV.lit (.bool true))], And.intro (AV.le_refl _) (trivial), rfl, ?_⟩
        first | rfl | simp [bp]
      · refine awp_skip ?_
        refine hK3 _ ?_
        refine awp_seq fun K10 hK10 => ?_
        refine awp_regionD rfl ?_
        refine o_loadA [(AV.lit (.int .i64 (m.mod))), (AV.sl 1 (is .i64 (m.mul))), (AV.sl 1 (is .i64 (m.add)))] Gd.none Wp1_tA24 rfl rfl rfl rfl rfl ?_
        refine o_move (AV.lit (.string (a))) Gd.none rfl ?_
        refine o_call [(AV.lit (.string (a)))] (intR ((numS (a)))) Gd.none Wp1_tC24 rfl (c_rParse (a) (by first | assumption | exact okS_iff.1 (by assumption))) ?_
        refine o_move (AV.lit (.int .i64 (K))) Gd.none rfl ?_
        refine n_as (v' := (nm .i64 (K.toNat))) (nm_int (by omega)) ?_
        refine o_call [(AV.agg [(AV.lit (.int .i64 (m.mod))), (AV.sl 1 (is .i64 (m.mul))), (AV.sl 1 (is .i64 (m.add)))]), (intR ((numS (a)))), (nm .i64 (K.toNat))] (AV.tup [(nm .i64 ((fallZ m (numS (a)) (K.toNat) (numS (a)) 1).1)), (intR ((fallZ m (numS (a)) (K.toNat) (numS (a)) 1).2.1)), (nm .i64 ((fallZ m (numS (a)) (K.toNat) (numS (a)) 1).2.2))]) Gd.none Wp1_tC28 rfl (c_gFalls m ((numS (a))) (K.toNat) (by first | assumption | exact okM_iff.1 (by assumption)) (by omega) (by first | assumption | omega | (simp only [Int.natAbs_neg]; omega))) ?_
        refine o_move (AV.tup [(nm .i64 ((fallZ m (numS (a)) (K.toNat) (numS (a)) 1).1)), (intR ((fallZ m (numS (a)) (K.toNat) (numS (a)) 1).2.1)), (nm .i64 ((fallZ m (numS (a)) (K.toNat) (numS (a)) 1).2.2))]) Gd.none rfl ?_
        refine o_extract (nm .i64 ((fallZ m (numS (a)) (K.toNat) (numS (a)) 1).1)) Gd.none rfl rfl ?_
        refine o_extract (intR ((fallZ m (numS (a)) (K.toNat) (numS (a)) 1).2.1)) Gd.none rfl rfl ?_
        refine o_extract (nm .i64 ((fallZ m (numS (a)) (K.toNat) (numS (a)) 1).2.2)) Gd.none rfl rfl ?_
        refine o_alloc 4 [(AV.lit (.bool false)), (AV.lit (.slice none 0 0))] Gd.none Wp1_tO36 rfl rfl rfl ?_
        refine o_assign (nm .i64 ((fallZ m (numS (a)) (K.toNat) (numS (a)) 1).1)) Gd.none rfl ?_
        refine o_store [(4, (AO.var 36 [(bp ((fallZ m (numS (a)) (K.toNat) (numS (a)) 1).2.1 < 0)), (AV.sl 1 (ns .i64 (digs ((fallZ m (numS (a)) (K.toNat) (numS (a)) 1).2.1).natAbs)))])), (3, (AO.var 24 [(AV.lit (.int .i64 (m.mod))), (AV.sl 1 (is .i64 (m.mul))), (AV.sl 1 (is .i64 (m.add)))])), (2, (AO.var 24 [(AV.lit (.int .i64 (m.mod))), (AV.sl 1 (is .i64 (m.mul))), (AV.sl 1 (is .i64 (m.add)))]))] Gd.none Wp1_tZ36 rfl rfl rfl rfl rfl rfl ?_
        refine o_assign (nm .i64 ((fallZ m (numS (a)) (K.toNat) (numS (a)) 1).2.2)) Gd.none rfl ?_
        refine aops_end ⟨by kernel_rfl, ?_⟩
        refine hK10 _ ?_
        refine awp_seq fun K11 hK11 => ?_
        refine awp_seq fun K12 hK12 => ?_
        refine awp_region rfl ?_
        refine o_move (nm .i64 ((fallZ m (numS (a)) (K.toNat) (numS (a)) 1).2.2)) Gd.none rfl ?_
        refine n_neq ((fallZ m (numS (a)) (K.toNat) (numS (a)) 1).2.2) (0) Gd.none rfl rfl ?_
        refine aops_end ?_
        refine hK12 _ ?_
        refine awp_condQ (q := ((fallZ m (numS (a)) (K.toNat) (numS (a)) 1).2.2) ≠ (0)) rfl (fun h4 => ?_) (fun h4 => ?_)
        · refine awp_seq fun K13 hK13 => ?_
          refine awp_region rfl ?_
          refine o_move (nm .i64 (fallK m (a) (K))) Gd.none rfl ?_
          refine n_as (v' := (nm .i64 (0))) (by exact congrArg (nm _) ((fallK_e ⟨hm', ha'⟩ (by omega)).trans (fallZ_err _ _ _ h4))) ?_
          refine n_eql (0) (0) Gd.none rfl rfl ?_
          refine o_move (bp ((0) = (0))) Gd.none rfl ?_
          refine o_move (AV.lit (.string (fallT m (a) (K)))) (Gd.yes rfl rfl (decide_eq_true (by decide))) rfl ?_
          refine n_as (v' := (AV.lit (.string (({data := #[]} : ByteArray))))) (by exact str_as (fallT_err h4)) ?_
          refine o_eqlS (a := (({data := #[]} : ByteArray))) (c := (({data := #[]} : ByteArray))) (Gd.yes rfl rfl (decide_eq_true (by decide))) rfl rfl ?_
          refine o_pickT (b := decide ((0) = (0))) (bp ((({data := #[]} : ByteArray)).toList = (({data := #[]} : ByteArray)).toList)) Gd.none rfl (decide_eq_true (by decide)) rfl ?_
          refine o_move (bp ((({data := #[]} : ByteArray)).toList = (({data := #[]} : ByteArray)).toList)) Gd.none rfl ?_
          refine o_move (nm .i64 (fallE m (a) (K))) (Gd.yes rfl rfl (decide_eq_true rfl)) rfl ?_
          refine n_as (v' := (nm .i64 ((fallZ m (numS (a)) (K.toNat) (numS (a)) 1).2.2))) (by exact congrArg (nm _) (fallE_e ⟨hm', ha'⟩ (by omega))) ?_
          refine o_move (nm .i64 ((fallZ m (numS (a)) (K.toNat) (numS (a)) 1).2.2)) (Gd.yes rfl rfl (decide_eq_true rfl)) rfl ?_
          refine n_eql ((fallZ m (numS (a)) (K.toNat) (numS (a)) 1).2.2) ((fallZ m (numS (a)) (K.toNat) (numS (a)) 1).2.2) (Gd.yes rfl rfl (decide_eq_true rfl)) rfl rfl ?_
          refine o_pickT (b := decide ((({data := #[]} : ByteArray)).toList = (({data := #[]} : ByteArray)).toList)) (bp (((fallZ m (numS (a)) (K.toNat) (numS (a)) 1).2.2) = ((fallZ m (numS (a)) (K.toNat) (numS (a)) 1).2.2))) Gd.none rfl (decide_eq_true rfl) rfl ?_
          refine o_move (bp (((fallZ m (numS (a)) (K.toNat) (numS (a)) 1).2.2) = ((fallZ m (numS (a)) (K.toNat) (numS (a)) 1).2.2))) Gd.none rfl ?_
          refine o_call [] (AV.lit (.bool true)) (Gd.yes rfl rfl (decide_eq_true rfl)) Wp1_tC22 rfl c_l2Awake ?_
          refine o_pickT (b := decide (((fallZ m (numS (a)) (K.toNat) (numS (a)) 1).2.2) = ((fallZ m (numS (a)) (K.toNat) (numS (a)) 1).2.2))) (AV.lit (.bool true)) Gd.none rfl (decide_eq_true rfl) rfl ?_
          refine o_assign (AV.lit (.bool true)) Gd.none rfl ?_
          refine aops_end ?_
          refine hK13 _ ?_
          refine awp_ret ?_
          refine post_ret ⟨[(AV.lit (.bool true))], And.intro (AV.le_refl _) (trivial), rfl, ?_⟩
          first | rfl | simp [bp]
        · have h40 := Decidable.not_not.1 h4
          refine awp_skip ?_
          refine hK11 _ ?_
          refine awp_seq fun K14 hK14 => ?_
          refine awp_region rfl ?_
          refine o_move (nm .i64 (fallK m (a) (K))) Gd.none rfl ?_
          refine n_as (v' := (nm .i64 ((fallZ m (numS (a)) (K.toNat) (numS (a)) 1).1))) (by exact congrArg (nm _) (fallK_e ⟨hm', ha'⟩ (by omega))) ?_
          refine o_move (nm .i64 ((fallZ m (numS (a)) (K.toNat) (numS (a)) 1).1)) Gd.none rfl ?_
          refine n_eql ((fallZ m (numS (a)) (K.toNat) (numS (a)) 1).1) ((fallZ m (numS (a)) (K.toNat) (numS (a)) 1).1) Gd.none rfl rfl ?_
          refine o_move (bp (((fallZ m (numS (a)) (K.toNat) (numS (a)) 1).1) = ((fallZ m (numS (a)) (K.toNat) (numS (a)) 1).1))) Gd.none rfl ?_
          refine o_move (AV.lit (.string (fallT m (a) (K)))) (Gd.yes rfl rfl (decide_eq_true rfl)) rfl ?_
          refine n_as (v' := (AV.lit (.string (txt ((fallZ m (numS (a)) (K.toNat) (numS (a)) 1).2.1))))) (by exact str_as (fallT_yes ⟨hm', ha'⟩ (by omega) h40)) ?_
          refine o_loadA [(bp ((fallZ m (numS (a)) (K.toNat) (numS (a)) 1).2.1 < 0)), (AV.sl 1 (ns .i64 (digs ((fallZ m (numS (a)) (K.toNat) (numS (a)) 1).2.1).natAbs)))] (Gd.yes rfl rfl (decide_eq_true rfl)) Wp1_tA36 rfl rfl rfl rfl rfl ?_
          refine o_call [(AV.agg [(bp ((fallZ m (numS (a)) (K.toNat) (numS (a)) 1).2.1 < 0)), (AV.sl 1 (ns .i64 (digs ((fallZ m (numS (a)) (K.toNat) (numS (a)) 1).2.1).natAbs)))])] (AV.lit (.string (txt ((fallZ m (numS (a)) (K.toNat) (numS (a)) 1).2.1)))) (Gd.yes rfl rfl (decide_eq_true rfl)) Wp1_tC26 rfl (c_rText ((fallZ m (numS (a)) (K.toNat) (numS (a)) 1).2.1) (by first | assumption | omega | (simp only [Int.natAbs_neg]; omega))) ?_
          refine o_eqlS (a := (txt ((fallZ m (numS (a)) (K.toNat) (numS (a)) 1).2.1))) (c := (txt ((fallZ m (numS (a)) (K.toNat) (numS (a)) 1).2.1))) (Gd.yes rfl rfl (decide_eq_true rfl)) rfl rfl ?_
          refine o_pickT (b := decide (((fallZ m (numS (a)) (K.toNat) (numS (a)) 1).1) = ((fallZ m (numS (a)) (K.toNat) (numS (a)) 1).1))) (bp ((txt ((fallZ m (numS (a)) (K.toNat) (numS (a)) 1).2.1)).toList = (txt ((fallZ m (numS (a)) (K.toNat) (numS (a)) 1).2.1)).toList)) Gd.none rfl (decide_eq_true rfl) rfl ?_
          refine o_move (bp ((txt ((fallZ m (numS (a)) (K.toNat) (numS (a)) 1).2.1)).toList = (txt ((fallZ m (numS (a)) (K.toNat) (numS (a)) 1).2.1)).toList)) Gd.none rfl ?_
          refine o_move (nm .i64 (fallE m (a) (K))) (Gd.yes rfl rfl (decide_eq_true rfl)) rfl ?_
          refine n_as (v' := (nm .i64 (0))) (by exact congrArg (nm _) ((fallE_e ⟨hm', ha'⟩ (by omega)).trans h40)) ?_
          refine n_eql (0) (0) (Gd.yes rfl rfl (decide_eq_true rfl)) rfl rfl ?_
          refine o_pickT (b := decide ((txt ((fallZ m (numS (a)) (K.toNat) (numS (a)) 1).2.1)).toList = (txt ((fallZ m (numS (a)) (K.toNat) (numS (a)) 1).2.1)).toList)) (bp ((0) = (0))) Gd.none rfl (decide_eq_true rfl) rfl ?_
          refine o_move (bp ((0) = (0))) Gd.none rfl ?_
          refine o_call [] (AV.lit (.bool true)) (Gd.yes rfl rfl (decide_eq_true (by decide))) Wp1_tC22 rfl c_l2Awake ?_
          refine o_pickT (b := decide ((0) = (0))) (AV.lit (.bool true)) Gd.none rfl (decide_eq_true (by decide)) rfl ?_
          refine o_assign (AV.lit (.bool true)) Gd.none rfl ?_
          refine aops_end ?_
          refine hK14 _ ?_
          refine awp_ret ?_
          refine post_ret ⟨[(AV.lit (.bool true))], And.intro (AV.le_refl _) (trivial), rfl, ?_⟩
          first | rfl | simp [bp]

end Go.Proofs.YtkngglpnejdicaaDoor
