import Derived.Test.YtkngglpnejdicaaDoorWo
import Derived.Test.YtkngglpnejdicaaDoorWy
import Derived.Test.YtkngglpnejdicaaDoorWz
set_option linter.unusedVariables false
set_option linter.unusedSimpArgs false
namespace Go.Proofs.YtkngglpnejdicaaDoor
open Go Go.Ab Go.Mth
theorem Wp4_tA24 : tyAgg cx.P 24 = some 3 := by kernel_rfl
theorem Wp4_tC18 : callable cx.P 18 = true := by kernel_rfl
theorem Wp4_tO24 : tyZero cx.P 24 = some [(Go.Value.int IntKind.i64 0), (Go.Value.slice none 0 0), (Go.Value.slice none 0 0)] := by kernel_rfl
theorem Wp4_tZ24 : tySize cx.P 24 = some 3 := by kernel_rfl
theorem Wp4_tC37 : callable cx.P 37 = true := by kernel_rfl
theorem Wp4_tC38 : callable cx.P 38 = true := by kernel_rfl
theorem Wp4_tC39 : callable cx.P 39 = true := by kernel_rfl
theorem Wp4_tC40 : callable cx.P 40 = true := by kernel_rfl
theorem Wp4_tB4 : cx.P.underlying 4 = some .bool := by kernel_rfl
theorem Wp4_tC20 : callable cx.P 20 = true := by kernel_rfl
theorem Wp4_tC41 : callable cx.P 41 = true := by kernel_rfl
theorem Wp4_tC42 : callable cx.P 42 = true := by kernel_rfl
theorem Wp4_tP24 : tyPlaces cx.P 24 = some (fun i => (#[(0, 1), (1, 1), (2, 1)] : Array (Nat × Nat))[i]?) := by kernel_rfl
theorem Wp4_tC22 : callable cx.P 22 = true := by kernel_rfl
theorem Wp4_tF24_1 : tyField cx.P 24 1 = some (1, 22) := by kernel_rfl
theorem Wp4_tS22 : tySc cx.P 22 = true := by kernel_rfl
theorem Wp4_tE22 : tyElem cx.P 22 = some (3, 1, 8) := by kernel_rfl
theorem Wp4_tZ3 : tySize cx.P 3 = some 1 := by kernel_rfl
theorem Wp4_tC43 : callable cx.P 43 = true := by kernel_rfl
theorem Wp4_tC44 : callable cx.P 44 = true := by kernel_rfl
theorem c_StepMaps_n (m : MapM) (q c : Int) (h1m : m.mul.length ≤ 17592186044416) (h2m : m.add.length ≤ 17592186044416) (hk : ¬ kinOk q c) : ECalls cx 7 [(mapV m), (AV.lit (.int .i64 (q))), (AV.lit (.int .i64 (c)))] (.lit (.bool true)) := by
  refine ecalls_of_awp Tryd.func7 (c := _) rfl (Nat.le_of_ble_eq_true rfl) ?_
  show awp cx 109 _ (postF cx Tryd.f7 _) ⟨[(0, (mapV m)), (1, (AV.lit (.int .i64 (q)))), (2, (AV.lit (.int .i64 (c))))], []⟩
  refine awp_seq fun K0 hK0 => ?_
  refine awp_region rfl ?_
  refine o_box 2 [(AV.lit (.int .i64 (m.mod))), (AV.sl 1 (is .i64 (m.mul))), (AV.sl 1 (is .i64 (m.add)))] Gd.none rfl rfl ?_
  refine o_assign (AV.lit (.bool false)) Gd.none rfl ?_
  refine aops_end ?_
  refine hK0 _ ?_
  refine awp_seq fun K1 hK1 => ?_
  refine awp_region rfl ?_
  refine o_loadA [(AV.lit (.int .i64 (m.mod))), (AV.sl 1 (is .i64 (m.mul))), (AV.sl 1 (is .i64 (m.add)))] Gd.none Wp4_tA24 rfl rfl rfl rfl rfl ?_
  refine o_call [(AV.agg [(AV.lit (.int .i64 (m.mod))), (AV.sl 1 (is .i64 (m.mul))), (AV.sl 1 (is .i64 (m.add)))])] (mapV m) Gd.none Wp4_tC18 rfl (c_gTwin m (by omega) (by omega)) ?_
  refine o_alloc 3 [(nm .i64 (0)), (AV.lit (.slice none 0 0)), (AV.lit (.slice none 0 0))] Gd.none Wp4_tO24 rfl rfl rfl ?_
  refine o_store [(3, (AO.var 24 [(AV.lit (.int .i64 (m.mod))), (AV.sl 1 (is .i64 (m.mul))), (AV.sl 1 (is .i64 (m.add)))])), (2, (AO.var 24 [(AV.lit (.int .i64 (m.mod))), (AV.sl 1 (is .i64 (m.mul))), (AV.sl 1 (is .i64 (m.add)))]))] Gd.none Wp4_tZ24 rfl rfl rfl rfl rfl rfl ?_
  refine aops_end ?_
  refine hK1 _ ?_
  refine awp_seq fun K2 hK2 => ?_
  refine awp_region rfl ?_
  refine o_loadA [(AV.lit (.int .i64 (m.mod))), (AV.sl 1 (is .i64 (m.mul))), (AV.sl 1 (is .i64 (m.add)))] Gd.none Wp4_tA24 rfl rfl rfl rfl rfl ?_
  refine o_call [(AV.agg [(AV.lit (.int .i64 (m.mod))), (AV.sl 1 (is .i64 (m.mul))), (AV.sl 1 (is .i64 (m.add)))])] (AV.tup [(bp (okM m = true ∧ freeM m)), (nm .i64 (if okM m then 0 else 1))]) Gd.none Wp4_tC37 rfl (c_sRegular m) ?_
  refine o_move (AV.tup [(bp (okM m = true ∧ freeM m)), (nm .i64 (if okM m then 0 else 1))]) Gd.none rfl ?_
  refine o_extract (bp (okM m = true ∧ freeM m)) Gd.none rfl rfl ?_
  refine o_extract (nm .i64 (if okM m then 0 else 1)) Gd.none rfl rfl ?_
  refine o_assign (bp (okM m = true ∧ freeM m)) Gd.none rfl ?_
  refine o_assign (nm .i64 (if okM m then 0 else 1)) Gd.none rfl ?_
  refine aops_end ?_
  refine hK2 _ ?_
  refine awp_seq fun K3 hK3 => ?_
  refine awp_region rfl ?_
  refine o_move (AV.lit (.int .i64 (q))) Gd.none rfl ?_
  refine o_move (AV.lit (.int .i64 (c))) Gd.none rfl ?_
  refine o_call [(AV.lit (.int .i64 (q))), (AV.lit (.int .i64 (c)))] (AV.tup [(mapV (if kinOk (q) (c) then kinM (q) (c) else noM)), (nm .i64 (if kinOk (q) (c) then 0 else 2))]) Gd.none Wp4_tC38 rfl (c_sKin (q) (c)) ?_
  refine o_move (AV.tup [(mapV (if kinOk (q) (c) then kinM (q) (c) else noM)), (nm .i64 (if kinOk (q) (c) then 0 else 2))]) Gd.none rfl ?_
  refine o_extract (mapV (if kinOk (q) (c) then kinM (q) (c) else noM)) Gd.none rfl rfl ?_
  refine n_as (v' := (mapV noM)) (by exact congrArg mapV (if_neg hk)) ?_
  refine o_extract (nm .i64 (if kinOk (q) (c) then 0 else 2)) Gd.none rfl rfl ?_
  refine n_as (v' := (nm .i64 (2))) (by exact congrArg (nm _) (if_neg hk)) ?_
  refine o_alloc 4 [(nm .i64 (0)), (AV.lit (.slice none 0 0)), (AV.lit (.slice none 0 0))] Gd.none Wp4_tO24 rfl rfl rfl ?_
  refine o_store [(4, (AO.var 24 [(AV.lit (.int .i64 (noM.mod))), (AV.sl 1 (is .i64 (noM.mul))), (AV.sl 1 (is .i64 (noM.add)))])), (3, (AO.var 24 [(AV.lit (.int .i64 (m.mod))), (AV.sl 1 (is .i64 (m.mul))), (AV.sl 1 (is .i64 (m.add)))])), (2, (AO.var 24 [(AV.lit (.int .i64 (m.mod))), (AV.sl 1 (is .i64 (m.mul))), (AV.sl 1 (is .i64 (m.add)))]))] Gd.none Wp4_tZ24 rfl rfl rfl rfl rfl rfl ?_
  refine o_assign (nm .i64 (2)) Gd.none rfl ?_
  refine aops_end ?_
  refine hK3 _ ?_
  refine awp_seq fun K4 hK4 => ?_
  refine awp_seq fun K5 hK5 => ?_
  refine awp_regionD rfl ?_
  refine o_loadA [(AV.lit (.int .i64 (m.mod))), (AV.sl 1 (is .i64 (m.mul))), (AV.sl 1 (is .i64 (m.add)))] Gd.none Wp4_tA24 rfl rfl rfl rfl rfl ?_
  refine o_call [(AV.agg [(AV.lit (.int .i64 (m.mod))), (AV.sl 1 (is .i64 (m.mul))), (AV.sl 1 (is .i64 (m.add)))])] (AV.lit (.bool (okM m))) Gd.none Wp4_tC39 rfl (c_sValid m) ?_
  refine o_loadA [(AV.lit (.int .i64 (m.mod))), (AV.sl 1 (is .i64 (m.mul))), (AV.sl 1 (is .i64 (m.add)))] Gd.none Wp4_tA24 rfl rfl rfl rfl rfl ?_
  refine o_call [(AV.agg [(AV.lit (.int .i64 (m.mod))), (AV.sl 1 (is .i64 (m.mul))), (AV.sl 1 (is .i64 (m.add)))])] (AV.lit (.bool (okM m))) Gd.none Wp4_tC40 rfl (c_gValid m) ?_
  refine o_neqB (a := (okM m)) (c := (okM m)) Gd.none rfl rfl Wp4_tB4 ?_
  refine o_move (bp ((okM m) ≠ (okM m))) Gd.none rfl ?_
  refine o_loadA [(AV.lit (.int .i64 (m.mod))), (AV.sl 1 (is .i64 (m.mul))), (AV.sl 1 (is .i64 (m.add)))] (Gd.yes rfl rfl (decide_eq_false (fun h => h rfl))) Wp4_tA24 rfl rfl rfl rfl rfl ?_
  refine o_loadA [(AV.lit (.int .i64 (m.mod))), (AV.sl 1 (is .i64 (m.mul))), (AV.sl 1 (is .i64 (m.add)))] (Gd.yes rfl rfl (decide_eq_false (fun h => h rfl))) Wp4_tA24 rfl rfl rfl rfl rfl ?_
  refine o_call [(AV.agg [(AV.lit (.int .i64 (m.mod))), (AV.sl 1 (is .i64 (m.mul))), (AV.sl 1 (is .i64 (m.add)))]), (AV.agg [(AV.lit (.int .i64 (m.mod))), (AV.sl 1 (is .i64 (m.mul))), (AV.sl 1 (is .i64 (m.add)))])] (bp (m = m)) (Gd.yes rfl rfl (decide_eq_false (fun h => h rfl))) Wp4_tC20 rfl (c_gSame m m) ?_
  refine o_notP (q := m = m) (Gd.yes rfl rfl (decide_eq_false (fun h => h rfl))) rfl ?_
  refine o_pickF (b := decide ((okM m) ≠ (okM m))) (bp (¬ (m = m))) Gd.none rfl (decide_eq_false (fun h => h rfl)) rfl ?_
  refine aops_end ⟨by kernel_rfl, ?_⟩
  refine hK5 _ ?_
  refine awp_condB (b := decide (¬ (m = m))) rfl (fun hh => absurd (hh.symm.trans (decide_eq_false (fun h => h rfl))) (by decide)) (fun _ => ?_)
  refine awp_skip ?_
  refine hK4 _ ?_
  refine awp_seqJ (J := fun σ => True ∧ σ = ⟨[(1, (AV.lit (.int .i64 (q)))), (2, (AV.lit (.int .i64 (c)))), (10, (AV.ref 4 (0))), (11, (nm .i64 (2)))], [(4, (AO.var 24 [(AV.lit (.int .i64 (noM.mod))), (AV.sl 1 (is .i64 (noM.mul))), (AV.sl 1 (is .i64 (noM.add)))]))]⟩) ?ja0 ?jb0
  case ja0 =>
    refine awp_seq fun K6 hK6 => ?_
    refine awp_region rfl ?_
    refine o_loadA [(AV.lit (.int .i64 (m.mod))), (AV.sl 1 (is .i64 (m.mul))), (AV.sl 1 (is .i64 (m.add)))] Gd.none Wp4_tA24 rfl rfl rfl rfl rfl ?_
    refine o_call [(AV.agg [(AV.lit (.int .i64 (m.mod))), (AV.sl 1 (is .i64 (m.mul))), (AV.sl 1 (is .i64 (m.add)))])] (AV.lit (.bool (okM m))) Gd.none Wp4_tC40 rfl (c_gValid m) ?_
    refine aops_end ?_
    refine hK6 _ ?_
    refine awp_condB (b := okM m) rfl (fun h1 => ?_) (fun h1 => ?_)
    · have hm' : okM m = true := h1
      have hM := okM_iff.1 hm'
      refine awp_seq fun K7 hK7 => ?_
      refine awp_region rfl ?_
      refine o_move (nm .i64 (if okM m then 0 else 1)) Gd.none rfl ?_
      refine n_neq (if okM m then 0 else 1) (0) Gd.none rfl rfl ?_
      refine o_move (bp ((if okM m then 0 else 1) ≠ (0))) Gd.none rfl ?_
      refine o_splitP (q := (if okM m then 0 else 1) ≠ (0)) 43 rfl (fun h2 => ?_) (fun h2 => ?_)
      · refine o_skip (b := decide ((if okM m then 0 else 1) ≠ (0))) rfl rfl (decide_eq_true h2) ?_
        refine o_skip (b := decide ((if okM m then 0 else 1) ≠ (0))) rfl rfl (decide_eq_true h2) ?_
        refine o_skip (b := decide ((if okM m then 0 else 1) ≠ (0))) rfl rfl (decide_eq_true h2) ?_
        refine o_skip (b := decide ((if okM m then 0 else 1) ≠ (0))) rfl rfl (decide_eq_true h2) ?_
        refine o_pickT (b := decide ((if okM m then 0 else 1) ≠ (0))) (AV.lit (.bool true)) Gd.none rfl (decide_eq_true h2) rfl ?_
        refine aops_end ?_
        refine hK7 _ ?_
        refine awp_condB (b := true) rfl (fun _ => ?_) (fun hh => absurd (hh.symm.trans rfl) (by decide))
        refine awp_seq fun K8 hK8 => ?_
        refine awp_region rfl ?_
        refine o_assign (AV.lit (.bool false)) Gd.none rfl ?_
        refine aops_end ?_
        refine hK8 _ ?_
        refine awp_ret ?_
        refine post_ret ⟨[(AV.lit (.bool false))], And.intro (AV.le_refl _) (trivial), rfl, ?_⟩
        exfalso
        exact absurd (by rw [hm']; rfl) h2
      · refine o_move (bp (okM m = true ∧ freeM m)) (Gd.yes rfl rfl (decide_eq_false h2)) rfl ?_
        refine o_loadA [(AV.lit (.int .i64 (m.mod))), (AV.sl 1 (is .i64 (m.mul))), (AV.sl 1 (is .i64 (m.add)))] (Gd.yes rfl rfl (decide_eq_false h2)) Wp4_tA24 rfl rfl rfl rfl rfl ?_
        refine o_call [(AV.agg [(AV.lit (.int .i64 (m.mod))), (AV.sl 1 (is .i64 (m.mul))), (AV.sl 1 (is .i64 (m.add)))])] (bp (freeM m)) (Gd.yes rfl rfl (decide_eq_false h2)) Wp4_tC41 rfl (c_gRegular m hM) ?_
        refine o_neqB (a := (decide (okM m = true ∧ freeM m))) (c := (decide (freeM m))) (Gd.yes rfl rfl (decide_eq_false h2)) rfl rfl Wp4_tB4 ?_
        refine o_pickF (b := decide ((if okM m then 0 else 1) ≠ (0))) (bp ((decide (okM m = true ∧ freeM m)) ≠ (decide (freeM m)))) Gd.none rfl (decide_eq_false h2) rfl ?_
        refine aops_end ?_
        refine hK7 _ ?_
        refine awp_condQ (q := (decide (okM m = true ∧ freeM m)) ≠ (decide (freeM m))) rfl (fun h3 => ?_) (fun h3 => ?_)
        · refine awp_seq fun K9 hK9 => ?_
          refine awp_region rfl ?_
          refine o_assign (AV.lit (.bool false)) Gd.none rfl ?_
          refine aops_end ?_
          refine hK9 _ ?_
          refine awp_ret ?_
          refine post_ret ⟨[(AV.lit (.bool false))], And.intro (AV.le_refl _) (trivial), rfl, ?_⟩
          exfalso
          exact absurd (decide_eq_decide.2 ⟨fun h => h.2, fun h => ⟨hm', h⟩⟩) h3
        · refine awp_skip ?_
          exact ⟨_, ⟨trivial, rfl⟩, Wk.sub (And.intro (by exact rfl) (And.intro (by exact rfl) (And.intro (by exact rfl) (And.intro (by exact rfl) (trivial))))) (And.intro (by first | rfl | exact row_ns (by simp) | exact congrArg (fun x => some (AO.blk (.stringIter _ x))) (by omega)) (trivial))⟩
    · have hm' : okM m = false := by simpa using h1
      refine awp_seq fun K10 hK10 => ?_
      refine awp_region rfl ?_
      refine o_move (nm .i64 (if okM m then 0 else 1)) Gd.none rfl ?_
      refine n_neq (if okM m then 0 else 1) (1) Gd.none rfl rfl ?_
      refine o_move (bp ((if okM m then 0 else 1) ≠ (1))) Gd.none rfl ?_
      refine o_splitP (q := (if okM m then 0 else 1) ≠ (1)) 51 rfl (fun h4 => ?_) (fun h4 => ?_)
      · refine o_skip (b := decide ((if okM m then 0 else 1) ≠ (1))) rfl rfl (decide_eq_true h4) ?_
        refine o_pickT (b := decide ((if okM m then 0 else 1) ≠ (1))) (AV.lit (.bool true)) Gd.none rfl (decide_eq_true h4) rfl ?_
        refine aops_end ?_
        refine hK10 _ ?_
        refine awp_condB (b := true) rfl (fun _ => ?_) (fun hh => absurd (hh.symm.trans rfl) (by decide))
        refine awp_seq fun K11 hK11 => ?_
        refine awp_region rfl ?_
        refine o_assign (AV.lit (.bool false)) Gd.none rfl ?_
        refine aops_end ?_
        refine hK11 _ ?_
        refine awp_ret ?_
        refine post_ret ⟨[(AV.lit (.bool false))], And.intro (AV.le_refl _) (trivial), rfl, ?_⟩
        exfalso
        exact absurd (by rw [hm']; rfl) h4
      · refine o_move (bp (okM m = true ∧ freeM m)) (Gd.yes rfl rfl (decide_eq_false h4)) rfl ?_
        refine o_pickF (b := decide ((if okM m then 0 else 1) ≠ (1))) (bp (okM m = true ∧ freeM m)) Gd.none rfl (decide_eq_false h4) rfl ?_
        refine aops_end ?_
        refine hK10 _ ?_
        refine awp_condQ (q := okM m = true ∧ freeM m) rfl (fun h5 => ?_) (fun h5 => ?_)
        · refine awp_seq fun K12 hK12 => ?_
          refine awp_region rfl ?_
          refine o_assign (AV.lit (.bool false)) Gd.none rfl ?_
          refine aops_end ?_
          refine hK12 _ ?_
          refine awp_ret ?_
          refine post_ret ⟨[(AV.lit (.bool false))], And.intro (AV.le_refl _) (trivial), rfl, ?_⟩
          exfalso
          exact absurd h5.1 (by rw [hm']; decide)
        · refine awp_skip ?_
          exact ⟨_, ⟨trivial, rfl⟩, Wk.sub (And.intro (by exact rfl) (And.intro (by exact rfl) (And.intro (by exact rfl) (And.intro (by exact rfl) (trivial))))) (And.intro (by first | rfl | exact row_ns (by simp) | exact congrArg (fun x => some (AO.blk (.stringIter _ x))) (by omega)) (trivial))⟩
  rintro _ ⟨-, rfl⟩
  refine awp_seq fun K13 hK13 => ?_
  refine awp_region rfl ?_
  refine o_move (AV.lit (.int .i64 (q))) Gd.none rfl ?_
  refine o_move (AV.lit (.int .i64 (c))) Gd.none rfl ?_
  refine o_call [(AV.lit (.int .i64 (q))), (AV.lit (.int .i64 (c)))] (AV.tup [(mapV (if kinOk (q) (c) then kinM (q) (c) else noM)), (bp (kinOk (q) (c)))]) Gd.none Wp4_tC42 rfl (c_gKin (q) (c)) ?_
  refine o_move (AV.tup [(mapV (if kinOk (q) (c) then kinM (q) (c) else noM)), (bp (kinOk (q) (c)))]) Gd.none rfl ?_
  refine o_extract (mapV (if kinOk (q) (c) then kinM (q) (c) else noM)) Gd.none rfl rfl ?_
  refine n_as (v' := (mapV noM)) (by exact congrArg mapV (if_neg hk)) ?_
  refine o_extract (bp (kinOk (q) (c))) Gd.none rfl rfl ?_
  refine n_as (v' := (AV.lit (.bool false))) (by exact (bl_bp (b := false) (by simp [hk])).symm) ?_
  refine o_alloc 101 [(nm .i64 (0)), (AV.lit (.slice none 0 0)), (AV.lit (.slice none 0 0))] Gd.none Wp4_tO24 rfl rfl rfl ?_
  refine o_store [(101, (AO.var 24 [(AV.lit (.int .i64 (noM.mod))), (AV.sl 1 (is .i64 (noM.mul))), (AV.sl 1 (is .i64 (noM.add)))])), (4, (AO.var 24 [(AV.lit (.int .i64 (noM.mod))), (AV.sl 1 (is .i64 (noM.mul))), (AV.sl 1 (is .i64 (noM.add)))]))] Gd.none Wp4_tZ24 rfl rfl rfl rfl rfl rfl ?_
  refine o_assign (AV.lit (.bool false)) Gd.none rfl ?_
  refine aops_end ?_
  refine hK13 _ ?_
  refine awp_seq fun K14 hK14 => ?_
  refine awp_seq fun K15 hK15 => ?_
  refine awp_region rfl ?_
  refine o_move (AV.lit (.bool false)) Gd.none rfl ?_
  refine o_not (b := false) Gd.none rfl ?_
  refine aops_end ?_
  refine hK15 _ ?_
  refine awp_condB (b := true) rfl (fun _ => ?_) (fun hh => absurd (hh.symm.trans rfl) (by decide))
  refine awp_seq fun K16 hK16 => ?_
  refine awp_region rfl ?_
  refine o_move (nm .i64 (2)) Gd.none rfl ?_
  refine n_eql (2) (2) Gd.none rfl rfl ?_
  refine o_move (bp ((2) = (2))) Gd.none rfl ?_
  refine o_loadA [(AV.lit (.int .i64 (noM.mod))), (AV.sl 1 (is .i64 (noM.mul))), (AV.sl 1 (is .i64 (noM.add)))] (Gd.yes rfl rfl (decide_eq_true (by decide))) Wp4_tA24 rfl rfl rfl rfl rfl ?_
  refine o_build [(nm .i64 (0)), (AV.lit (.slice none 0 0)), (AV.lit (.slice none 0 0))] [] (Gd.yes rfl rfl (decide_eq_true (by decide))) Wp4_tP24 Wp4_tO24 rfl rfl rfl ?_
  refine o_callG [] [(AV.agg [(AV.lit (.int .i64 (noM.mod))), (AV.sl 1 (is .i64 (noM.mul))), (AV.sl 1 (is .i64 (noM.add)))]), (AV.agg [(nm .i64 (0)), (AV.lit (.slice none 0 0)), (AV.lit (.slice none 0 0))])] _ (bp (noM = noM)) [(101, (AO.var 24 [(AV.lit (.int .i64 (noM.mod))), (AV.sl 1 (is .i64 (noM.mul))), (AV.sl 1 (is .i64 (noM.add)))])), (4, (AO.var 24 [(AV.lit (.int .i64 (noM.mod))), (AV.sl 1 (is .i64 (noM.mul))), (AV.sl 1 (is .i64 (noM.add)))]))] (Gd.yes rfl rfl (decide_eq_true (by decide))) Wp4_tC20 rfl (trivial) rfl rfl (LeL.cons (AV.le_refl _) (LeL.cons (AV.le_agg (LeL.cons (AV.le_refl _) (LeL.cons (AV.le_nil' (by decide) rfl) (LeL.cons (AV.le_nil' (by decide) rfl) (LeL.nil))))) (LeL.nil))) (c_gSame noM noM) rfl ?_
  refine o_pickT (b := decide ((2) = (2))) (bp (noM = noM)) Gd.none rfl (decide_eq_true (by decide)) rfl ?_
  refine o_move (bp (noM = noM)) Gd.none rfl ?_
  refine o_call [] (AV.lit (.bool true)) (Gd.yes rfl rfl (decide_eq_true rfl)) Wp4_tC22 rfl c_l2Awake ?_
  refine o_pickT (b := decide (noM = noM)) (AV.lit (.bool true)) Gd.none rfl (decide_eq_true rfl) rfl ?_
  refine o_assign (AV.lit (.bool true)) Gd.none rfl ?_
  refine aops_end ?_
  refine hK16 _ ?_
  refine awp_ret ?_
  refine post_ret ⟨[(AV.lit (.bool true))], And.intro (AV.le_refl _) (trivial), rfl, ?_⟩
  first | rfl | simp [bp]

theorem c_StepMaps_y (m : MapM) (q c : Int) (h1m : m.mul.length ≤ 17592186044416) (h2m : m.add.length ≤ 17592186044416) (hk : kinOk q c) : ECalls cx 7 [(mapV m), (AV.lit (.int .i64 (q))), (AV.lit (.int .i64 (c)))] (.lit (.bool true)) := by
  refine ecalls_of_awp Tryd.func7 (c := _) rfl (Nat.le_of_ble_eq_true rfl) ?_
  show awp cx 109 _ (postF cx Tryd.f7 _) ⟨[(0, (mapV m)), (1, (AV.lit (.int .i64 (q)))), (2, (AV.lit (.int .i64 (c))))], []⟩
  refine awp_seq fun K0 hK0 => ?_
  refine awp_region rfl ?_
  refine o_box 2 [(AV.lit (.int .i64 (m.mod))), (AV.sl 1 (is .i64 (m.mul))), (AV.sl 1 (is .i64 (m.add)))] Gd.none rfl rfl ?_
  refine o_assign (AV.lit (.bool false)) Gd.none rfl ?_
  refine aops_end ?_
  refine hK0 _ ?_
  refine awp_seq fun K1 hK1 => ?_
  refine awp_region rfl ?_
  refine o_loadA [(AV.lit (.int .i64 (m.mod))), (AV.sl 1 (is .i64 (m.mul))), (AV.sl 1 (is .i64 (m.add)))] Gd.none Wp4_tA24 rfl rfl rfl rfl rfl ?_
  refine o_call [(AV.agg [(AV.lit (.int .i64 (m.mod))), (AV.sl 1 (is .i64 (m.mul))), (AV.sl 1 (is .i64 (m.add)))])] (mapV m) Gd.none Wp4_tC18 rfl (c_gTwin m (by omega) (by omega)) ?_
  refine o_alloc 3 [(nm .i64 (0)), (AV.lit (.slice none 0 0)), (AV.lit (.slice none 0 0))] Gd.none Wp4_tO24 rfl rfl rfl ?_
  refine o_store [(3, (AO.var 24 [(AV.lit (.int .i64 (m.mod))), (AV.sl 1 (is .i64 (m.mul))), (AV.sl 1 (is .i64 (m.add)))])), (2, (AO.var 24 [(AV.lit (.int .i64 (m.mod))), (AV.sl 1 (is .i64 (m.mul))), (AV.sl 1 (is .i64 (m.add)))]))] Gd.none Wp4_tZ24 rfl rfl rfl rfl rfl rfl ?_
  refine aops_end ?_
  refine hK1 _ ?_
  refine awp_seq fun K2 hK2 => ?_
  refine awp_region rfl ?_
  refine o_loadA [(AV.lit (.int .i64 (m.mod))), (AV.sl 1 (is .i64 (m.mul))), (AV.sl 1 (is .i64 (m.add)))] Gd.none Wp4_tA24 rfl rfl rfl rfl rfl ?_
  refine o_call [(AV.agg [(AV.lit (.int .i64 (m.mod))), (AV.sl 1 (is .i64 (m.mul))), (AV.sl 1 (is .i64 (m.add)))])] (AV.tup [(bp (okM m = true ∧ freeM m)), (nm .i64 (if okM m then 0 else 1))]) Gd.none Wp4_tC37 rfl (c_sRegular m) ?_
  refine o_move (AV.tup [(bp (okM m = true ∧ freeM m)), (nm .i64 (if okM m then 0 else 1))]) Gd.none rfl ?_
  refine o_extract (bp (okM m = true ∧ freeM m)) Gd.none rfl rfl ?_
  refine o_extract (nm .i64 (if okM m then 0 else 1)) Gd.none rfl rfl ?_
  refine o_assign (bp (okM m = true ∧ freeM m)) Gd.none rfl ?_
  refine o_assign (nm .i64 (if okM m then 0 else 1)) Gd.none rfl ?_
  refine aops_end ?_
  refine hK2 _ ?_
  refine awp_seq fun K3 hK3 => ?_
  refine awp_region rfl ?_
  refine o_move (AV.lit (.int .i64 (q))) Gd.none rfl ?_
  refine o_move (AV.lit (.int .i64 (c))) Gd.none rfl ?_
  refine o_callM 7001 [(AV.lit (.int .i64 (q))), (AV.lit (.int .i64 (c)))] Gd.none Wp4_tC38 rfl (c_sKinM (q) (c) hk) rfl ?_
  refine o_move (AV.tup [(AV.agg [(AV.lit (.int .i64 ((kinM (q) (c)).mod))), (AV.row 7001), (AV.sl 1 (is .i64 ((kinM (q) (c)).add)))]), (nm .i64 (0))]) Gd.none rfl ?_
  refine o_extract (AV.agg [(AV.lit (.int .i64 ((kinM (q) (c)).mod))), (AV.row 7001), (AV.sl 1 (is .i64 ((kinM (q) (c)).add)))]) Gd.none rfl rfl ?_
  refine o_extract (nm .i64 (0)) Gd.none rfl rfl ?_
  refine o_alloc 4 [(nm .i64 (0)), (AV.lit (.slice none 0 0)), (AV.lit (.slice none 0 0))] Gd.none Wp4_tO24 rfl rfl rfl ?_
  refine o_store [(4, (AO.var 24 [(AV.lit (.int .i64 ((kinM (q) (c)).mod))), (AV.row 7001), (AV.sl 1 (is .i64 ((kinM (q) (c)).add)))])), (7001, (AO.row 3 1 (is .i64 ((kinM (q) (c)).mul)))), (3, (AO.var 24 [(AV.lit (.int .i64 (m.mod))), (AV.sl 1 (is .i64 (m.mul))), (AV.sl 1 (is .i64 (m.add)))])), (2, (AO.var 24 [(AV.lit (.int .i64 (m.mod))), (AV.sl 1 (is .i64 (m.mul))), (AV.sl 1 (is .i64 (m.add)))]))] Gd.none Wp4_tZ24 rfl rfl rfl rfl rfl rfl ?_
  refine o_assign (nm .i64 (0)) Gd.none rfl ?_
  refine aops_end ?_
  refine hK3 _ ?_
  refine awp_seq fun K4 hK4 => ?_
  refine awp_seq fun K5 hK5 => ?_
  refine awp_regionD rfl ?_
  refine o_loadA [(AV.lit (.int .i64 (m.mod))), (AV.sl 1 (is .i64 (m.mul))), (AV.sl 1 (is .i64 (m.add)))] Gd.none Wp4_tA24 rfl rfl rfl rfl rfl ?_
  refine o_call [(AV.agg [(AV.lit (.int .i64 (m.mod))), (AV.sl 1 (is .i64 (m.mul))), (AV.sl 1 (is .i64 (m.add)))])] (AV.lit (.bool (okM m))) Gd.none Wp4_tC39 rfl (c_sValid m) ?_
  refine o_loadA [(AV.lit (.int .i64 (m.mod))), (AV.sl 1 (is .i64 (m.mul))), (AV.sl 1 (is .i64 (m.add)))] Gd.none Wp4_tA24 rfl rfl rfl rfl rfl ?_
  refine o_call [(AV.agg [(AV.lit (.int .i64 (m.mod))), (AV.sl 1 (is .i64 (m.mul))), (AV.sl 1 (is .i64 (m.add)))])] (AV.lit (.bool (okM m))) Gd.none Wp4_tC40 rfl (c_gValid m) ?_
  refine o_neqB (a := (okM m)) (c := (okM m)) Gd.none rfl rfl Wp4_tB4 ?_
  refine o_move (bp ((okM m) ≠ (okM m))) Gd.none rfl ?_
  refine o_loadA [(AV.lit (.int .i64 (m.mod))), (AV.sl 1 (is .i64 (m.mul))), (AV.sl 1 (is .i64 (m.add)))] (Gd.yes rfl rfl (decide_eq_false (fun h => h rfl))) Wp4_tA24 rfl rfl rfl rfl rfl ?_
  refine o_loadA [(AV.lit (.int .i64 (m.mod))), (AV.sl 1 (is .i64 (m.mul))), (AV.sl 1 (is .i64 (m.add)))] (Gd.yes rfl rfl (decide_eq_false (fun h => h rfl))) Wp4_tA24 rfl rfl rfl rfl rfl ?_
  refine o_call [(AV.agg [(AV.lit (.int .i64 (m.mod))), (AV.sl 1 (is .i64 (m.mul))), (AV.sl 1 (is .i64 (m.add)))]), (AV.agg [(AV.lit (.int .i64 (m.mod))), (AV.sl 1 (is .i64 (m.mul))), (AV.sl 1 (is .i64 (m.add)))])] (bp (m = m)) (Gd.yes rfl rfl (decide_eq_false (fun h => h rfl))) Wp4_tC20 rfl (c_gSame m m) ?_
  refine o_notP (q := m = m) (Gd.yes rfl rfl (decide_eq_false (fun h => h rfl))) rfl ?_
  refine o_pickF (b := decide ((okM m) ≠ (okM m))) (bp (¬ (m = m))) Gd.none rfl (decide_eq_false (fun h => h rfl)) rfl ?_
  refine aops_end ⟨by kernel_rfl, ?_⟩
  refine hK5 _ ?_
  refine awp_condB (b := decide (¬ (m = m))) rfl (fun hh => absurd (hh.symm.trans (decide_eq_false (fun h => h rfl))) (by decide)) (fun _ => ?_)
  refine awp_skip ?_
  refine hK4 _ ?_
  refine awp_seqJ (J := fun σ => True ∧ σ = ⟨[(1, (AV.lit (.int .i64 (q)))), (2, (AV.lit (.int .i64 (c)))), (10, (AV.ref 4 (0))), (11, (nm .i64 (0)))], [(4, (AO.var 24 [(AV.lit (.int .i64 ((kinM (q) (c)).mod))), (AV.row 7001), (AV.sl 1 (is .i64 ((kinM (q) (c)).add)))])), (7001, (AO.row 3 1 (is .i64 ((kinM (q) (c)).mul))))]⟩) ?ja0 ?jb0
  case ja0 =>
    refine awp_seq fun K6 hK6 => ?_
    refine awp_region rfl ?_
    refine o_loadA [(AV.lit (.int .i64 (m.mod))), (AV.sl 1 (is .i64 (m.mul))), (AV.sl 1 (is .i64 (m.add)))] Gd.none Wp4_tA24 rfl rfl rfl rfl rfl ?_
    refine o_call [(AV.agg [(AV.lit (.int .i64 (m.mod))), (AV.sl 1 (is .i64 (m.mul))), (AV.sl 1 (is .i64 (m.add)))])] (AV.lit (.bool (okM m))) Gd.none Wp4_tC40 rfl (c_gValid m) ?_
    refine aops_end ?_
    refine hK6 _ ?_
    refine awp_condB (b := okM m) rfl (fun h1 => ?_) (fun h1 => ?_)
    · have hm' : okM m = true := h1
      have hM := okM_iff.1 hm'
      refine awp_seq fun K7 hK7 => ?_
      refine awp_region rfl ?_
      refine o_move (nm .i64 (if okM m then 0 else 1)) Gd.none rfl ?_
      refine n_neq (if okM m then 0 else 1) (0) Gd.none rfl rfl ?_
      refine o_move (bp ((if okM m then 0 else 1) ≠ (0))) Gd.none rfl ?_
      refine o_splitP (q := (if okM m then 0 else 1) ≠ (0)) 43 rfl (fun h2 => ?_) (fun h2 => ?_)
      · refine o_skip (b := decide ((if okM m then 0 else 1) ≠ (0))) rfl rfl (decide_eq_true h2) ?_
        refine o_skip (b := decide ((if okM m then 0 else 1) ≠ (0))) rfl rfl (decide_eq_true h2) ?_
        refine o_skip (b := decide ((if okM m then 0 else 1) ≠ (0))) rfl rfl (decide_eq_true h2) ?_
        refine o_skip (b := decide ((if okM m then 0 else 1) ≠ (0))) rfl rfl (decide_eq_true h2) ?_
        refine o_pickT (b := decide ((if okM m then 0 else 1) ≠ (0))) (AV.lit (.bool true)) Gd.none rfl (decide_eq_true h2) rfl ?_
        refine aops_end ?_
        refine hK7 _ ?_
        refine awp_condB (b := true) rfl (fun _ => ?_) (fun hh => absurd (hh.symm.trans rfl) (by decide))
        refine awp_seq fun K8 hK8 => ?_
        refine awp_region rfl ?_
        refine o_assign (AV.lit (.bool false)) Gd.none rfl ?_
        refine aops_end ?_
        refine hK8 _ ?_
        refine awp_ret ?_
        refine post_ret ⟨[(AV.lit (.bool false))], And.intro (AV.le_refl _) (trivial), rfl, ?_⟩
        exfalso
        exact absurd (by rw [hm']; rfl) h2
      · refine o_move (bp (okM m = true ∧ freeM m)) (Gd.yes rfl rfl (decide_eq_false h2)) rfl ?_
        refine o_loadA [(AV.lit (.int .i64 (m.mod))), (AV.sl 1 (is .i64 (m.mul))), (AV.sl 1 (is .i64 (m.add)))] (Gd.yes rfl rfl (decide_eq_false h2)) Wp4_tA24 rfl rfl rfl rfl rfl ?_
        refine o_call [(AV.agg [(AV.lit (.int .i64 (m.mod))), (AV.sl 1 (is .i64 (m.mul))), (AV.sl 1 (is .i64 (m.add)))])] (bp (freeM m)) (Gd.yes rfl rfl (decide_eq_false h2)) Wp4_tC41 rfl (c_gRegular m hM) ?_
        refine o_neqB (a := (decide (okM m = true ∧ freeM m))) (c := (decide (freeM m))) (Gd.yes rfl rfl (decide_eq_false h2)) rfl rfl Wp4_tB4 ?_
        refine o_pickF (b := decide ((if okM m then 0 else 1) ≠ (0))) (bp ((decide (okM m = true ∧ freeM m)) ≠ (decide (freeM m)))) Gd.none rfl (decide_eq_false h2) rfl ?_
        refine aops_end ?_
        refine hK7 _ ?_
        refine awp_condQ (q := (decide (okM m = true ∧ freeM m)) ≠ (decide (freeM m))) rfl (fun h3 => ?_) (fun h3 => ?_)
        · refine awp_seq fun K9 hK9 => ?_
          refine awp_region rfl ?_
          refine o_assign (AV.lit (.bool false)) Gd.none rfl ?_
          refine aops_end ?_
          refine hK9 _ ?_
          refine awp_ret ?_
          refine post_ret ⟨[(AV.lit (.bool false))], And.intro (AV.le_refl _) (trivial), rfl, ?_⟩
          exfalso
          exact absurd (decide_eq_decide.2 ⟨fun h => h.2, fun h => ⟨hm', h⟩⟩) h3
        · refine awp_skip ?_
          exact ⟨_, ⟨trivial, rfl⟩, Wk.sub (And.intro (by exact rfl) (And.intro (by exact rfl) (And.intro (by exact rfl) (And.intro (by exact rfl) (trivial))))) (And.intro (by first | rfl | exact row_ns (by simp) | exact congrArg (fun x => some (AO.blk (.stringIter _ x))) (by omega)) (And.intro (by first | rfl | exact row_ns (by simp) | exact congrArg (fun x => some (AO.blk (.stringIter _ x))) (by omega)) (trivial)))⟩
    · have hm' : okM m = false := by simpa using h1
      refine awp_seq fun K10 hK10 => ?_
      refine awp_region rfl ?_
      refine o_move (nm .i64 (if okM m then 0 else 1)) Gd.none rfl ?_
      refine n_neq (if okM m then 0 else 1) (1) Gd.none rfl rfl ?_
      refine o_move (bp ((if okM m then 0 else 1) ≠ (1))) Gd.none rfl ?_
      refine o_splitP (q := (if okM m then 0 else 1) ≠ (1)) 51 rfl (fun h4 => ?_) (fun h4 => ?_)
      · refine o_skip (b := decide ((if okM m then 0 else 1) ≠ (1))) rfl rfl (decide_eq_true h4) ?_
        refine o_pickT (b := decide ((if okM m then 0 else 1) ≠ (1))) (AV.lit (.bool true)) Gd.none rfl (decide_eq_true h4) rfl ?_
        refine aops_end ?_
        refine hK10 _ ?_
        refine awp_condB (b := true) rfl (fun _ => ?_) (fun hh => absurd (hh.symm.trans rfl) (by decide))
        refine awp_seq fun K11 hK11 => ?_
        refine awp_region rfl ?_
        refine o_assign (AV.lit (.bool false)) Gd.none rfl ?_
        refine aops_end ?_
        refine hK11 _ ?_
        refine awp_ret ?_
        refine post_ret ⟨[(AV.lit (.bool false))], And.intro (AV.le_refl _) (trivial), rfl, ?_⟩
        exfalso
        exact absurd (by rw [hm']; rfl) h4
      · refine o_move (bp (okM m = true ∧ freeM m)) (Gd.yes rfl rfl (decide_eq_false h4)) rfl ?_
        refine o_pickF (b := decide ((if okM m then 0 else 1) ≠ (1))) (bp (okM m = true ∧ freeM m)) Gd.none rfl (decide_eq_false h4) rfl ?_
        refine aops_end ?_
        refine hK10 _ ?_
        refine awp_condQ (q := okM m = true ∧ freeM m) rfl (fun h5 => ?_) (fun h5 => ?_)
        · refine awp_seq fun K12 hK12 => ?_
          refine awp_region rfl ?_
          refine o_assign (AV.lit (.bool false)) Gd.none rfl ?_
          refine aops_end ?_
          refine hK12 _ ?_
          refine awp_ret ?_
          refine post_ret ⟨[(AV.lit (.bool false))], And.intro (AV.le_refl _) (trivial), rfl, ?_⟩
          exfalso
          exact absurd h5.1 (by rw [hm']; decide)
        · refine awp_skip ?_
          exact ⟨_, ⟨trivial, rfl⟩, Wk.sub (And.intro (by exact rfl) (And.intro (by exact rfl) (And.intro (by exact rfl) (And.intro (by exact rfl) (trivial))))) (And.intro (by first | rfl | exact row_ns (by simp) | exact congrArg (fun x => some (AO.blk (.stringIter _ x))) (by omega)) (And.intro (by first | rfl | exact row_ns (by simp) | exact congrArg (fun x => some (AO.blk (.stringIter _ x))) (by omega)) (trivial)))⟩
  rintro _ ⟨-, rfl⟩
  refine awp_seq fun K13 hK13 => ?_
  refine awp_region rfl ?_
  refine o_move (AV.lit (.int .i64 (q))) Gd.none rfl ?_
  refine o_move (AV.lit (.int .i64 (c))) Gd.none rfl ?_
  refine o_call [(AV.lit (.int .i64 (q))), (AV.lit (.int .i64 (c)))] (AV.tup [(mapV (if kinOk (q) (c) then kinM (q) (c) else noM)), (bp (kinOk (q) (c)))]) Gd.none Wp4_tC42 rfl (c_gKin (q) (c)) ?_
  refine o_move (AV.tup [(mapV (if kinOk (q) (c) then kinM (q) (c) else noM)), (bp (kinOk (q) (c)))]) Gd.none rfl ?_
  refine o_extract (mapV (if kinOk (q) (c) then kinM (q) (c) else noM)) Gd.none rfl rfl ?_
  refine n_as (v' := (mapV (kinM (q) (c)))) (by exact congrArg mapV (if_pos hk)) ?_
  refine o_extract (bp (kinOk (q) (c))) Gd.none rfl rfl ?_
  refine n_as (v' := (AV.lit (.bool true))) (by exact (bl_bp (b := true) (by simp [hk])).symm) ?_
  refine o_alloc 101 [(nm .i64 (0)), (AV.lit (.slice none 0 0)), (AV.lit (.slice none 0 0))] Gd.none Wp4_tO24 rfl rfl rfl ?_
  refine o_store [(101, (AO.var 24 [(AV.lit (.int .i64 ((kinM (q) (c)).mod))), (AV.sl 1 (is .i64 ((kinM (q) (c)).mul))), (AV.sl 1 (is .i64 ((kinM (q) (c)).add)))])), (4, (AO.var 24 [(AV.lit (.int .i64 ((kinM (q) (c)).mod))), (AV.row 7001), (AV.sl 1 (is .i64 ((kinM (q) (c)).add)))])), (7001, (AO.row 3 1 (is .i64 ((kinM (q) (c)).mul))))] Gd.none Wp4_tZ24 rfl rfl rfl rfl rfl rfl ?_
  refine o_assign (AV.lit (.bool true)) Gd.none rfl ?_
  refine aops_end ?_
  refine hK13 _ ?_
  refine awp_seq fun K14 hK14 => ?_
  refine awp_seq fun K15 hK15 => ?_
  refine awp_region rfl ?_
  refine o_move (AV.lit (.bool true)) Gd.none rfl ?_
  refine o_not (b := true) Gd.none rfl ?_
  refine aops_end ?_
  refine hK15 _ ?_
  refine awp_condB (b := false) rfl (fun hh => absurd (hh.symm.trans rfl) (by decide)) (fun _ => ?_)
  refine awp_skip ?_
  refine hK14 _ ?_
  refine awp_seq fun K16 hK16 => ?_
  refine awp_seq fun K17 hK17 => ?_
  refine awp_region rfl ?_
  refine o_move (nm .i64 (0)) Gd.none rfl ?_
  refine n_neq (0) (0) Gd.none rfl rfl ?_
  refine o_move (bp ((0) ≠ (0))) Gd.none rfl ?_
  refine o_loadA [(AV.lit (.int .i64 ((kinM (q) (c)).mod))), (AV.row 7001), (AV.sl 1 (is .i64 ((kinM (q) (c)).add)))] (Gd.yes rfl rfl (decide_eq_false (by decide))) Wp4_tA24 rfl rfl rfl rfl rfl ?_
  refine o_loadA [(AV.lit (.int .i64 ((kinM (q) (c)).mod))), (AV.sl 1 (is .i64 ((kinM (q) (c)).mul))), (AV.sl 1 (is .i64 ((kinM (q) (c)).add)))] (Gd.yes rfl rfl (decide_eq_false (by decide))) Wp4_tA24 rfl rfl rfl rfl rfl ?_
  refine o_callB [(7001, 1, (is .i64 ((kinM (q) (c)).mul)))] [(AV.agg [(AV.lit (.int .i64 ((kinM (q) (c)).mod))), (AV.sl 1 (is .i64 ((kinM (q) (c)).mul))), (AV.sl 1 (is .i64 ((kinM (q) (c)).add)))]), (AV.agg [(AV.lit (.int .i64 ((kinM (q) (c)).mod))), (AV.sl 1 (is .i64 ((kinM (q) (c)).mul))), (AV.sl 1 (is .i64 ((kinM (q) (c)).add)))])] _ (.bool (decide ((kinM (q) (c)) = (kinM (q) (c))))) (Gd.yes rfl rfl (decide_eq_false (by decide))) Wp4_tC20 rfl (And.intro ⟨_, rfl⟩ (trivial)) rfl rfl (LeL.cons (AV.le_refl _) (LeL.cons (AV.le_refl _) (LeL.nil))) (c_gSame (kinM (q) (c)) (kinM (q) (c))) ?_
  refine o_notP (q := (kinM (q) (c)) = (kinM (q) (c))) (Gd.yes rfl rfl (decide_eq_false (by decide))) rfl ?_
  refine o_pickF (b := decide ((0) ≠ (0))) (bp (¬ ((kinM (q) (c)) = (kinM (q) (c))))) Gd.none rfl (decide_eq_false (by decide)) rfl ?_
  refine o_move (bp (¬ ((kinM (q) (c)) = (kinM (q) (c))))) Gd.none rfl ?_
  refine o_loadA [(AV.lit (.int .i64 ((kinM (q) (c)).mod))), (AV.row 7001), (AV.sl 1 (is .i64 ((kinM (q) (c)).add)))] (Gd.yes rfl rfl (decide_eq_false (fun h => h rfl))) Wp4_tA24 rfl rfl rfl rfl rfl ?_
  refine o_callB [(7001, 1, (is .i64 ((kinM (q) (c)).mul)))] [(AV.agg [(AV.lit (.int .i64 ((kinM (q) (c)).mod))), (AV.sl 1 (is .i64 ((kinM (q) (c)).mul))), (AV.sl 1 (is .i64 ((kinM (q) (c)).add)))])] _ (.bool (okM (kinM (q) (c)))) (Gd.yes rfl rfl (decide_eq_false (fun h => h rfl))) Wp4_tC39 rfl (And.intro ⟨_, rfl⟩ (trivial)) rfl rfl (LeL.cons (AV.le_refl _) (LeL.nil)) (c_sValid (kinM (q) (c))) ?_
  refine n_as (v' := (AV.lit (.bool true))) (by exact bl_eq (okM_iff.2 (kin_ok hk))) ?_
  refine o_not (b := true) (Gd.yes rfl rfl (decide_eq_false (fun h => h rfl))) rfl ?_
  refine o_pickF (b := decide (¬ ((kinM (q) (c)) = (kinM (q) (c))))) (AV.lit (.bool false)) Gd.none rfl (decide_eq_false (fun h => h rfl)) rfl ?_
  refine aops_end ?_
  refine hK17 _ ?_
  refine awp_condB (b := false) rfl (fun hh => absurd (hh.symm.trans rfl) (by decide)) (fun _ => ?_)
  refine awp_skip ?_
  refine hK16 _ ?_
  refine awp_seq fun K18 hK18 => ?_
  refine awp_region rfl ?_
  refine o_fieldRef 1 Gd.none Wp4_tF24_1 rfl rfl ?_
  refine o_loadS (AV.row 7001) Gd.none Wp4_tS22 rfl rfl rfl ?_
  refine o_indexRow1 (i := ((0 : Nat) : Int)) Gd.none Wp4_tE22 rfl rfl rfl (by omega) (by exact Nat.le_of_ble_eq_true rfl) ?_
  refine o_storeRow (over (is .i64 ((kinM (q) (c)).mul)) (0) [(nm .i64 (5))]) [(101, (AO.var 24 [(AV.lit (.int .i64 ((kinM (q) (c)).mod))), (AV.sl 1 (is .i64 ((kinM (q) (c)).mul))), (AV.sl 1 (is .i64 ((kinM (q) (c)).add)))])), (4, (AO.var 24 [(AV.lit (.int .i64 ((kinM (q) (c)).mod))), (AV.row 7001), (AV.sl 1 (is .i64 ((kinM (q) (c)).add)))])), (7001, (AO.row 3 1 (over (is .i64 ((kinM (q) (c)).mul)) (0) [(nm .i64 (5))])))] Gd.none Wp4_tZ3 rfl rfl rfl rfl rfl (by exact Nat.le_of_ble_eq_true rfl) rfl rfl ?_
  refine aops_end ?_
  refine hK18 _ ?_
  refine awp_seq fun K19 hK19 => ?_
  refine awp_region rfl ?_
  refine o_move (AV.lit (.int .i64 (q))) Gd.none rfl ?_
  refine o_move (AV.lit (.int .i64 (c))) Gd.none rfl ?_
  refine o_call [(AV.lit (.int .i64 (q))), (AV.lit (.int .i64 (c)))] (AV.tup [(mapV (if kinOk (q) (c) then kinM (q) (c) else noM)), (nm .i64 (if kinOk (q) (c) then 0 else 2))]) Gd.none Wp4_tC38 rfl (c_sKin (q) (c)) ?_
  refine o_move (AV.tup [(mapV (if kinOk (q) (c) then kinM (q) (c) else noM)), (nm .i64 (if kinOk (q) (c) then 0 else 2))]) Gd.none rfl ?_
  refine o_extract (mapV (if kinOk (q) (c) then kinM (q) (c) else noM)) Gd.none rfl rfl ?_
  refine n_as (v' := (mapV (kinM (q) (c)))) (by exact congrArg mapV (if_pos hk)) ?_
  refine o_extract (nm .i64 (if kinOk (q) (c) then 0 else 2)) Gd.none rfl rfl ?_
  refine n_as (v' := (nm .i64 (0))) (by exact congrArg (nm _) (if_pos hk)) ?_
  refine o_store [(101, (AO.var 24 [(AV.lit (.int .i64 ((kinM (q) (c)).mod))), (AV.sl 1 (is .i64 ((kinM (q) (c)).mul))), (AV.sl 1 (is .i64 ((kinM (q) (c)).add)))])), (4, (AO.var 24 [(AV.lit (.int .i64 ((kinM (q) (c)).mod))), (AV.sl 1 (is .i64 ((kinM (q) (c)).mul))), (AV.sl 1 (is .i64 ((kinM (q) (c)).add)))])), (7001, (AO.row 3 1 (over (is .i64 ((kinM (q) (c)).mul)) (0) [(nm .i64 (5))])))] Gd.none Wp4_tZ24 rfl rfl rfl rfl rfl rfl ?_
  refine aops_end ?_
  refine hK19 _ ?_
  refine awp_seq fun K20 hK20 => ?_
  refine awp_wk (σ' := ⟨[(1, (AV.lit (.int .i64 (q)))), (2, (AV.lit (.int .i64 (c)))), (10, (AV.ref 4 (0))), (12, (AV.ref 101 (0))), (13, (AV.lit (.bool true)))], [(101, (AO.var 24 [(AV.lit (.int .i64 ((kinM (q) (c)).mod))), (AV.sl 1 (is .i64 ((kinM (q) (c)).mul))), (AV.sl 1 (is .i64 ((kinM (q) (c)).add)))])), (4, (AO.var 24 [(AV.lit (.int .i64 ((kinM (q) (c)).mod))), (AV.sl 1 (is .i64 ((kinM (q) (c)).mul))), (AV.sl 1 (is .i64 ((kinM (q) (c)).add)))]))]⟩) (Wk.sub (And.intro rfl (And.intro rfl (And.intro rfl (And.intro rfl (And.intro rfl (trivial)))))) (And.intro rfl (And.intro rfl (trivial)))) ?_
  refine awp_region rfl ?_
  refine o_callM 7001 [] Gd.none Wp4_tC43 rfl c_sCollatzM rfl ?_
  refine o_alloc 102 [(nm .i64 (0)), (AV.lit (.slice none 0 0)), (AV.lit (.slice none 0 0))] Gd.none Wp4_tO24 rfl rfl rfl ?_
  refine o_store [(102, (AO.var 24 [(AV.lit (.int .i64 ((kinM 3 1).mod))), (AV.row 7001), (AV.sl 1 (is .i64 ((kinM 3 1).add)))])), (7001, (AO.row 3 1 (is .i64 ((kinM 3 1).mul)))), (101, (AO.var 24 [(AV.lit (.int .i64 ((kinM (q) (c)).mod))), (AV.sl 1 (is .i64 ((kinM (q) (c)).mul))), (AV.sl 1 (is .i64 ((kinM (q) (c)).add)))])), (4, (AO.var 24 [(AV.lit (.int .i64 ((kinM (q) (c)).mod))), (AV.sl 1 (is .i64 ((kinM (q) (c)).mul))), (AV.sl 1 (is .i64 ((kinM (q) (c)).add)))]))] Gd.none Wp4_tZ24 rfl rfl rfl rfl rfl rfl ?_
  refine aops_end ?_
  refine hK20 _ ?_
  refine awp_seq fun K21 hK21 => ?_
  refine awp_seq fun K22 hK22 => ?_
  refine awp_regionD rfl ?_
  refine o_loadA [(AV.lit (.int .i64 ((kinM (q) (c)).mod))), (AV.sl 1 (is .i64 ((kinM (q) (c)).mul))), (AV.sl 1 (is .i64 ((kinM (q) (c)).add)))] Gd.none Wp4_tA24 rfl rfl rfl rfl rfl ?_
  refine o_loadA [(AV.lit (.int .i64 ((kinM (q) (c)).mod))), (AV.sl 1 (is .i64 ((kinM (q) (c)).mul))), (AV.sl 1 (is .i64 ((kinM (q) (c)).add)))] Gd.none Wp4_tA24 rfl rfl rfl rfl rfl ?_
  refine o_call [(AV.agg [(AV.lit (.int .i64 ((kinM (q) (c)).mod))), (AV.sl 1 (is .i64 ((kinM (q) (c)).mul))), (AV.sl 1 (is .i64 ((kinM (q) (c)).add)))]), (AV.agg [(AV.lit (.int .i64 ((kinM (q) (c)).mod))), (AV.sl 1 (is .i64 ((kinM (q) (c)).mul))), (AV.sl 1 (is .i64 ((kinM (q) (c)).add)))])] (bp ((kinM (q) (c)) = (kinM (q) (c)))) Gd.none Wp4_tC20 rfl (c_gSame (kinM (q) (c)) (kinM (q) (c))) ?_
  refine o_notP (q := (kinM (q) (c)) = (kinM (q) (c))) Gd.none rfl ?_
  refine o_move (bp (¬ ((kinM (q) (c)) = (kinM (q) (c))))) Gd.none rfl ?_
  refine o_loadA [(AV.lit (.int .i64 ((kinM 3 1).mod))), (AV.row 7001), (AV.sl 1 (is .i64 ((kinM 3 1).add)))] (Gd.yes rfl rfl (decide_eq_false (fun h => h rfl))) Wp4_tA24 rfl rfl rfl rfl rfl ?_
  refine o_call [] (mapV (kinM 3 1)) (Gd.yes rfl rfl (decide_eq_false (fun h => h rfl))) Wp4_tC44 rfl c_gCollatz ?_
  refine o_callB [(7001, 1, (is .i64 ((kinM 3 1).mul)))] [(AV.agg [(AV.lit (.int .i64 ((kinM 3 1).mod))), (AV.sl 1 (is .i64 ((kinM 3 1).mul))), (AV.sl 1 (is .i64 ((kinM 3 1).add)))]), (mapV (kinM 3 1))] _ (.bool (decide ((kinM 3 1) = (kinM 3 1)))) (Gd.yes rfl rfl (decide_eq_false (fun h => h rfl))) Wp4_tC20 rfl (And.intro ⟨_, rfl⟩ (trivial)) rfl rfl (LeL.cons (AV.le_refl _) (LeL.cons (AV.le_refl _) (LeL.nil))) (c_gSame (kinM 3 1) (kinM 3 1)) ?_
  refine o_notP (q := (kinM 3 1) = (kinM 3 1)) (Gd.yes rfl rfl (decide_eq_false (fun h => h rfl))) rfl ?_
  refine o_pickF (b := decide (¬ ((kinM (q) (c)) = (kinM (q) (c))))) (bp (¬ ((kinM 3 1) = (kinM 3 1)))) Gd.none rfl (decide_eq_false (fun h => h rfl)) rfl ?_
  refine aops_end ⟨by kernel_rfl, ?_⟩
  refine hK22 _ ?_
  refine awp_condB (b := decide (¬ ((kinM 3 1) = (kinM 3 1)))) rfl (fun hh => absurd (hh.symm.trans (decide_eq_false (fun h => h rfl))) (by decide)) (fun _ => ?_)
  refine awp_skip ?_
  refine hK21 _ ?_
  refine awp_seq fun K23 hK23 => ?_
  refine awp_region rfl ?_
  refine o_fieldRef 1 Gd.none Wp4_tF24_1 rfl rfl ?_
  refine o_loadS (AV.row 7001) Gd.none Wp4_tS22 rfl rfl rfl ?_
  refine o_indexRow1 (i := ((0 : Nat) : Int)) Gd.none Wp4_tE22 rfl rfl rfl (by omega) (by exact Nat.le_of_ble_eq_true rfl) ?_
  refine o_storeRow (over (is .i64 ((kinM 3 1).mul)) (0) [(nm .i64 (5))]) [(102, (AO.var 24 [(AV.lit (.int .i64 ((kinM 3 1).mod))), (AV.row 7001), (AV.sl 1 (is .i64 ((kinM 3 1).add)))])), (7001, (AO.row 3 1 (over (is .i64 ((kinM 3 1).mul)) (0) [(nm .i64 (5))]))), (101, (AO.var 24 [(AV.lit (.int .i64 ((kinM (q) (c)).mod))), (AV.sl 1 (is .i64 ((kinM (q) (c)).mul))), (AV.sl 1 (is .i64 ((kinM (q) (c)).add)))])), (4, (AO.var 24 [(AV.lit (.int .i64 ((kinM (q) (c)).mod))), (AV.sl 1 (is .i64 ((kinM (q) (c)).mul))), (AV.sl 1 (is .i64 ((kinM (q) (c)).add)))]))] Gd.none Wp4_tZ3 rfl rfl rfl rfl rfl (by exact Nat.le_of_ble_eq_true rfl) rfl rfl ?_
  refine aops_end ?_
  refine hK23 _ ?_
  refine awp_seq fun K24 hK24 => ?_
  refine awp_region rfl ?_
  refine o_call [] (AV.lit (.bool true)) Gd.none Wp4_tC22 rfl c_l2Awake ?_
  refine o_assign (AV.lit (.bool true)) Gd.none rfl ?_
  refine aops_end ?_
  refine hK24 _ ?_
  refine awp_ret ?_
  refine post_ret ⟨[(AV.lit (.bool true))], And.intro (AV.le_refl _) (trivial), rfl, ?_⟩
  first | rfl | simp [bp]

end Go.Proofs.YtkngglpnejdicaaDoor
