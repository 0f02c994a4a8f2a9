import Derived.Test.YtkngglpnejdicaaDoorWl
import Derived.Test.YtkngglpnejdicaaDoorCz
set_option linter.unusedVariables false
set_option linter.unusedSimpArgs false
namespace Go.Proofs.YtkngglpnejdicaaDoor
open Go Go.Ab Go.Mth
theorem Wm_tA89 : tyAgg cx.P 89 = some 2 := by kernel_rfl
theorem Wm_tA24 : tyAgg cx.P 24 = some 3 := by kernel_rfl
theorem Wm_tC85 : callable cx.P 85 = true := by kernel_rfl
theorem Wm_tZ89 : tySize cx.P 89 = some 2 := by kernel_rfl
theorem c_sWalk (m : MapM) (z : Int) : ECallsW cx 68 [mapV m, intW z] 99 89 [bp (z < 0), .sl 1 (ns .u32 (digs (z).natAbs))] 24 [.lit (.int .i64 m.mod), .sl 1 (is .i64 m.mul), .sl 1 (is .i64 m.add)] := by
  refine ecallsW_of_awp Tryd.func68 (c := _) rfl (Nat.le_of_ble_eq_true rfl) rfl rfl ?_
  show awp cx 6 _ (postW cx Tryd.f68 _ _ _ _ _) ⟨[(0, mapV m), (1, intW z)], []⟩
  refine awp_seq fun K0 hK0 => ?_
  refine awp_region rfl ?_
  refine o_box 2 [(AV.lit (.int .i64 (m.mod))), (AV.sl 1 (is .i64 (m.mul))), (AV.sl 1 (is .i64 (m.add)))] Gd.none rfl rfl ?_
  refine o_box 3 [(bp (z < 0)), (AV.sl 1 (ns .u32 (digs (z).natAbs)))] Gd.none rfl rfl ?_
  refine o_assign (AV.lit .nilFunc) Gd.none rfl ?_
  refine aops_end ?_
  refine hK0 _ ?_
  refine awp_seq fun K1 hK1 => ?_
  refine awp_region rfl ?_
  refine o_makeFunc [(AV.ref 3 (0)), (AV.ref 2 (0))] Gd.none rfl ?_
  refine o_assign (AV.clo 99 [(AV.ref 3 (0)), (AV.ref 2 (0))]) Gd.none rfl ?_
  refine aops_end ?_
  refine hK1 _ ?_
  refine awp_ret ?_
  exact ⟨4, 3, 2, rfl, by decide, rfl, rfl, rfl⟩

theorem it_Walk (m : MapM) (z : Int) (hm : OkM m) (l D : Nat) (fn : FuncId) (tmps : Array Value) (ps : Array Tmp) (assign body : Code) (N : Nat) (R : Nat → List (Nat × AO) → Prop) (X : Code → List (Nat × AO) → Prop)
    (hR : ∀ k mm, R k mm → k ≤ N ∧ (digs (iterZ m k z).natAbs).length ≤ 1000000 ∧ YldAt cx 17 l [nm .i64 k, intW (iterZ m k z)] ⟨[(0, (.lit (.func (.yield l) #[] #[]))), (1, (AV.ref 8001 (0))), (2, (AV.ref 8002 (0))), (4, (nm .i64 (k)))], ((9001, (AO.blk (.loop (lrec fn tmps ps assign body D (.ready) none)))) :: (8001, (AO.var 89 [(bp ((iterZ m k z) < 0)), (AV.sl 1 (ns .u32 (digs ((iterZ m k z)).natAbs)))])) :: (8002, (AO.var 24 [(AV.lit (.int .i64 (m.mod))), (AV.sl 1 (is .i64 (m.mul))), (AV.sl 1 (is .i64 (m.add)))])) :: mm)⟩ fun b σ' =>
      (b = true ∧ ∃ m', σ' = ⟨[(0, (.lit (.func (.yield l) #[] #[]))), (1, (AV.ref 8001 (0))), (2, (AV.ref 8002 (0))), (4, (nm .i64 (k)))], (9001, .blk (.loop (lrec fn tmps ps assign body D .ready none))) :: m'⟩ ∧ ∃ mm', m' = (8001, .var 89 [bp (iterZ m k z < 0), .sl 1 (ns .u32 (digs (iterZ m k z).natAbs))]) :: (8002, .var 24 [.lit (.int .i64 m.mod), .sl 1 (is .i64 m.mul), .sl 1 (is .i64 m.add)]) :: mm' ∧ R (k + 1) mm') ∨ (b = false ∧ ∃ c m', σ' = ⟨[(0, (.lit (.func (.yield l) #[] #[]))), (1, (AV.ref 8001 (0))), (2, (AV.ref 8002 (0))), (4, (nm .i64 (k)))], (9001, .blk (.loop (lrec fn tmps ps assign body D .done (some c)))) :: m'⟩ ∧ X c m'))
    {mm0 m0 : List (Nat × AO)} (h0 : R 0 mm0) (hw : Wk cx 17 ⟨ent 0 [.lit (.func (.yield l) #[] #[]), .ref 8001 0, .ref 8002 0], m0⟩ ⟨[(0, (.lit (.func (.yield l) #[] #[]))), (1, (AV.ref 8001 (0))), (2, (AV.ref 8002 (0)))], ((9001, (AO.blk (.loop (lrec fn tmps ps assign body D (.ready) none)))) :: (8001, (AO.var 89 [(bp (z < 0)), (AV.sl 1 (ns .u32 (digs (z).natAbs)))])) :: (8002, (AO.var 24 [(AV.lit (.int .i64 (m.mod))), (AV.sl 1 (is .i64 (m.mul))), (AV.sl 1 (is .i64 (m.add)))])) :: mm0)⟩) (hN : N ≤ 4611686018427387904) {cI : Code} (hb : Tryd.f99.body = some cI) :
    awp cx 17 cI (fun e σ2 => e = .normal ∧ ∃ c m', X c m' ∧ Wk cx 17 σ2 ⟨[], (9001, .blk (.loop (lrec fn tmps ps assign body D .done (some c)))) :: m'⟩) ⟨ent 0 [.lit (.func (.yield l) #[] #[]), .ref 8001 0, .ref 8002 0], m0⟩ := by
  have hcI := Option.some.inj hb
  subst hcI
  refine awp_wk hw ?_
  show awp cx 17 _ _ _
  refine awp_seq fun K0 hK0 => ?_
  refine awp_region rfl ?_
  refine o_assign (nm .i64 (0)) Gd.none rfl ?_
  refine aops_end ?_
  refine hK0 _ ?_
  refine awp_block ?_
  refine awp_loopR (fun κ σ => ∃ (k : Nat), ∃ (mm : List (Nat × AO)), (R k mm) ∧ (N + 1 - k) = κ ∧ σ = ⟨[(0, (.lit (.func (.yield l) #[] #[]))), (1, (AV.ref 8001 (0))), (2, (AV.ref 8002 (0))), (4, (nm .i64 (k)))], ((9001, (AO.blk (.loop (lrec fn tmps ps assign body D (.ready) none)))) :: (8001, (AO.var 89 [(bp ((iterZ m k z) < 0)), (AV.sl 1 (ns .u32 (digs ((iterZ m k z)).natAbs)))])) :: (8002, (AO.var 24 [(AV.lit (.int .i64 (m.mod))), (AV.sl 1 (is .i64 (m.mul))), (AV.sl 1 (is .i64 (m.add)))])) :: mm)⟩) ⟨_, _, ⟨0, mm0, h0, rfl, rfl⟩, ?wk0⟩ ?rd0
  case wk0 =>
    exact Wk.subT (And.intro (by exact rfl) (And.intro (by exact rfl) (And.intro (by exact rfl) (And.intro (by first | rfl | exact congrArg (nm _) (by omega) | exact nm_int (by omega) | exact nm_int (by simp [IntKind.wrap, IntKind.bits, IntKind.signed]; omega)) (trivial))))) (fun _ _ h => h)
  rintro κ _ ⟨k, mm, hr, rfl, rfl⟩
  obtain ⟨hkN, hlen, hY⟩ := hR k mm hr
  refine awp_seq fun K1 hK1 => ?_
  refine awp_seq fun K2 hK2 => ?_
  refine awp_regionYL 8 _ _ _ _ _ _ l [nm .i64 k, intW (iterZ m k z)] rfl rfl ?_
  refine o_move (.lit (.func (.yield l) #[] #[])) Gd.none rfl ?_
  refine o_move (nm .i64 (k)) Gd.none rfl ?_
  refine o_loadA [(bp ((iterZ m k z) < 0)), (AV.sl 1 (ns .u32 (digs ((iterZ m k z)).natAbs)))] Gd.none Wm_tA89 rfl rfl rfl rfl rfl ?_
  refine aops_end ⟨rfl, rfl, YldAt.wk (σ1 := ⟨[(0, (.lit (.func (.yield l) #[] #[]))), (1, (AV.ref 8001 (0))), (2, (AV.ref 8002 (0))), (4, (nm .i64 (k)))], ((9001, (AO.blk (.loop (lrec fn tmps ps assign body D (.ready) none)))) :: (8001, (AO.var 89 [(bp ((iterZ m k z) < 0)), (AV.sl 1 (ns .u32 (digs ((iterZ m k z)).natAbs)))])) :: (8002, (AO.var 24 [(AV.lit (.int .i64 (m.mod))), (AV.sl 1 (is .i64 (m.mul))), (AV.sl 1 (is .i64 (m.add)))])) :: mm)⟩) (Wk.subT (And.intro rfl (And.intro rfl (And.intro rfl (And.intro rfl (trivial))))) (fun _ _ h => h)) rfl (YldAt.mono hY ?_)⟩
  rintro b σ2 (⟨rfl, m', rfl, mm', rfl, hr'⟩ | ⟨rfl, c, m', rfl, hx⟩)
  · refine hK2 _ ?_
    refine awp_condB (b := true) rfl (fun _ => ?_) (fun hh => absurd (hh.symm.trans rfl) (by decide))
    refine awp_skip ?_
    refine hK1 _ ?_
    refine awp_seq fun K3 hK3 => ?_
    refine awp_block ?_
    refine awp_region rfl ?_
    refine o_loadA [(AV.lit (.int .i64 (m.mod))), (AV.sl 1 (is .i64 (m.mul))), (AV.sl 1 (is .i64 (m.add)))] Gd.none Wm_tA24 rfl rfl rfl rfl rfl ?_
    refine o_loadA [(bp ((iterZ m k z) < 0)), (AV.sl 1 (ns .u32 (digs ((iterZ m k z)).natAbs)))] Gd.none Wm_tA89 rfl rfl rfl rfl rfl ?_
    refine o_call [(AV.agg [(AV.lit (.int .i64 (m.mod))), (AV.sl 1 (is .i64 (m.mul))), (AV.sl 1 (is .i64 (m.add)))]), (AV.agg [(bp ((iterZ m k z) < 0)), (AV.sl 1 (ns .u32 (digs ((iterZ m k z)).natAbs)))])] (AV.tup [(intW ((stepZ m (iterZ m k z)))), (AV.lit (.int .i64 ((iterZ m k z) % m.mod)))]) Gd.none Wm_tC85 rfl (c_sNext m ((iterZ m k z)) (by first | assumption | exact okM_iff.1 (by assumption)) (by first | assumption | omega | (simp only [Int.natAbs_neg]; omega))) ?_
    refine o_move (AV.tup [(intW ((stepZ m (iterZ m k z)))), (AV.lit (.int .i64 ((iterZ m k z) % m.mod)))]) Gd.none rfl ?_
    refine o_extract (intW ((stepZ m (iterZ m k z)))) Gd.none rfl rfl ?_
    refine o_extract (AV.lit (.int .i64 ((iterZ m k z) % m.mod))) Gd.none rfl rfl ?_
    refine o_store ((9001, (AO.blk (.loop (lrec fn tmps ps assign body D (.ready) none)))) :: (8001, (AO.var 89 [(bp ((stepZ m (iterZ m k z)) < 0)), (AV.sl 1 (ns .u32 (digs ((stepZ m (iterZ m k z))).natAbs)))])) :: (8002, (AO.var 24 [(AV.lit (.int .i64 (m.mod))), (AV.sl 1 (is .i64 (m.mul))), (AV.sl 1 (is .i64 (m.add)))])) :: mm') Gd.none Wm_tZ89 rfl rfl rfl rfl rfl rfl ?_
    refine aops_end ?_
    refine hK3 _ ?_
    refine awp_region rfl ?_
    refine o_move (nm .i64 (k)) Gd.none rfl ?_
    refine n_add (k) (1) Gd.none rfl rfl (by simp only [topOf]; omega) ?_
    refine o_assign (nm .i64 ((k) + (1))) Gd.none rfl ?_
    refine aops_end ?_
    refine ⟨_, _, ?lt, ⟨k + 1, mm', hr', rfl, rfl⟩, ?wk⟩
    case lt => (have := hkN; omega)
    case wk => exact Wk.subT (And.intro (by exact rfl) (And.intro (by exact rfl) (And.intro (by exact rfl) (And.intro (by first | rfl | exact congrArg (nm _) (by omega) | exact nm_int (by omega) | exact nm_int (by simp [IntKind.wrap, IntKind.bits, IntKind.signed]; omega)) (trivial))))) (fun _ _ h => h)
  · refine hK2 _ ?_
    refine awp_condB (b := false) rfl (fun hh => absurd (hh.symm.trans rfl) (by decide)) (fun _ => ?_)
    refine awp_exit ?_
    exact ⟨rfl, c, m', hx, Wk.subT trivial (fun _ _ h => h)⟩

end Go.Proofs.YtkngglpnejdicaaDoor
