import Derived.Test.YtkngglpnejdicaaDoorWm
set_option linter.unusedVariables false
set_option linter.unusedSimpArgs false
namespace Go.Proofs.YtkngglpnejdicaaDoor
open Go Go.Ab Go.Mth
theorem Wn_tO26 : tyZero cx.P 26 = some [(Go.Value.slice none 0 0)] := by kernel_rfl
theorem Wn_tO27 : tyZero cx.P 27 = some [(Go.Value.int IntKind.i64 0)] := by kernel_rfl
theorem Wn_tA24 : tyAgg cx.P 24 = some 3 := by kernel_rfl
theorem Wn_tC39 : callable cx.P 39 = true := by kernel_rfl
theorem Wn_tZ26 : tySize cx.P 26 = some 1 := by kernel_rfl
theorem Wn_tZ27 : tySize cx.P 27 = some 1 := by kernel_rfl
theorem Wn_tS27 : tySc cx.P 27 = true := by kernel_rfl
theorem Wn_tS26 : tySc cx.P 26 = true := by kernel_rfl
theorem Wn_tC65 : callable cx.P 65 = true := by kernel_rfl
theorem Wn_tS3 : tySc cx.P 3 = true := by kernel_rfl
theorem Wn_tC69 : callable cx.P 69 = true := by kernel_rfl
theorem Wn_tC68 : callable cx.P 68 = true := by kernel_rfl
theorem Wn_tC99 : callable cx.P 99 = true := by kernel_rfl
theorem Wn_tO89 : tyZero cx.P 89 = some [(Go.Value.bool false), (Go.Value.slice none 0 0)] := by kernel_rfl
theorem Wn_tZ89 : tySize cx.P 89 = some 2 := by kernel_rfl
theorem Wn_tA89 : tyAgg cx.P 89 = some 2 := by kernel_rfl
theorem Wn_tC70 : callable cx.P 70 = true := by kernel_rfl
theorem Wn_tC71 : callable cx.P 71 = true := by kernel_rfl
theorem Wn_tE26 : tyElem cx.P 26 = some (9, 1, 16) := by kernel_rfl
theorem Wn_tO9 : tyZero cx.P 9 = some [(Go.Value.string {data := #[]})] := by kernel_rfl
theorem Wn_tZ9 : tySize cx.P 9 = some 1 := by kernel_rfl
theorem Wn_tS9 : tySc cx.P 9 = true := by kernel_rfl
theorem Wn_tO3 : tyZero cx.P 3 = some [(Go.Value.int IntKind.i64 0)] := by kernel_rfl
theorem Wn_tZ3 : tySize cx.P 3 = some 1 := by kernel_rfl
theorem Wn_tC76 : callable cx.P 76 = true := by kernel_rfl
theorem c_sOrbit (m : MapM) (a : ByteArray) (K : Int) (hsz : a.size ≤ 9223372036854775807) : ECalls cx 19 [(mapV m), (AV.lit (.string (a))), (AV.lit (.int .i64 (K)))] (.tup [.sl 1 (strs (orbS m a K)), nm .i64 (orbE m a K)]) := by
  refine ecalls_of_awpT Tryd.func19 (c := _) rfl (Nat.le_of_ble_eq_true rfl) ?_
  show awpT cx 44 [] _ (postT cx Tryd.f19 _) ⟨[(0, (mapV m)), (1, (AV.lit (.string (a)))), (2, (AV.lit (.int .i64 (K))))], []⟩
  refine awpT_seq fun K0 hK0 => ?_
  refine awpT_lift ?_
  refine awp_region rfl ?_
  refine o_box 2 [(AV.lit (.int .i64 (m.mod))), (AV.sl 1 (is .i64 (m.mul))), (AV.sl 1 (is .i64 (m.add)))] Gd.none rfl rfl ?_
  refine o_box 3 [(AV.lit (.int .i64 (K)))] Gd.none rfl rfl ?_
  refine o_alloc 4 [(AV.lit (.slice none 0 0))] Gd.none Wn_tO26 rfl rfl rfl ?_
  refine o_alloc 5 [(nm .i64 (0))] Gd.none Wn_tO27 rfl rfl rfl ?_
  refine aops_end ?_
  refine hK0 _ _ ?_
  refine awpT_seq fun K1 hK1 => ?_
  refine awpT_lift ?_
  refine awp_block ?_
  refine awp_seq fun K2 hK2 => ?_
  refine awp_region rfl ?_
  refine o_loadA [(AV.lit (.int .i64 (m.mod))), (AV.sl 1 (is .i64 (m.mul))), (AV.sl 1 (is .i64 (m.add)))] Gd.none Wn_tA24 rfl rfl rfl rfl rfl ?_
  refine o_call [(AV.agg [(AV.lit (.int .i64 (m.mod))), (AV.sl 1 (is .i64 (m.mul))), (AV.sl 1 (is .i64 (m.add)))])] (AV.lit (.bool (okM m))) Gd.none Wn_tC39 rfl (c_sValid m) ?_
  refine o_not (b := okM m) Gd.none rfl ?_
  refine o_move (AV.lit (.bool (!(okM m)))) Gd.none rfl ?_
  refine o_split (b := !(okM m)) 15 rfl (fun h1 => ?_) (fun h1 => ?_)
  · have hm' : okM m = false := by simpa using h1
    refine o_skip (b := !(okM m)) rfl rfl h1 ?_
    refine o_skip (b := !(okM m)) rfl rfl h1 ?_
    refine o_skip (b := !(okM m)) rfl rfl h1 ?_
    refine o_pickT (b := !(okM m)) (AV.lit (.bool true)) Gd.none rfl h1 rfl ?_
    refine o_assign (AV.lit (.bool true)) Gd.none rfl ?_
    refine aops_end ?_
    refine hK2 _ ?_
    refine awp_condB (b := true) rfl (fun _ => ?_) (fun hh => absurd (hh.symm.trans rfl) (by decide))
    refine awp_seq fun K3 hK3 => ?_
    refine awp_region rfl ?_
    refine o_store [(5, (AO.var 27 [(nm .i64 (0))])), (4, (AO.var 26 [(AV.lit (.slice none 0 0))])), (3, (AO.var 3 [(AV.lit (.int .i64 (K)))])), (2, (AO.var 24 [(AV.lit (.int .i64 (m.mod))), (AV.sl 1 (is .i64 (m.mul))), (AV.sl 1 (is .i64 (m.add)))]))] Gd.none Wn_tZ26 rfl rfl rfl rfl rfl rfl ?_
    refine o_store [(5, (AO.var 27 [(nm .i64 (1))])), (4, (AO.var 26 [(AV.lit (.slice none 0 0))])), (3, (AO.var 3 [(AV.lit (.int .i64 (K)))])), (2, (AO.var 24 [(AV.lit (.int .i64 (m.mod))), (AV.sl 1 (is .i64 (m.mul))), (AV.sl 1 (is .i64 (m.add)))]))] Gd.none Wn_tZ27 rfl rfl rfl rfl rfl rfl ?_
    refine aops_end ?_
    refine hK3 _ ?_
    refine awp_ret ?_
    refine postT_ret0 ⟨[(AV.sl 1 (strs [])), (nm .i64 (1))], And.intro ⟨4, (AO.var 26 [(AV.lit (.slice none 0 0))]), rfl, rfl, rfl, Or.inr ⟨Wn_tS26, _, rfl, AV.le_nil' (by decide) (by first | rfl | simp [digs_zero, ns, is])⟩⟩ (And.intro ⟨5, (AO.var 27 [(nm .i64 (1))]), rfl, rfl, rfl, Or.inr ⟨Wn_tS27, _, rfl, AV.le_refl _⟩⟩ (trivial)), rfl, ?_⟩
    refine tup_eq2 (by unfold orbS; rw [if_neg (by simp [hm'])]) (by unfold orbE; rw [if_neg (by simp [hm'])])
  · have hm' : okM m = true := by simpa using h1
    have hM := okM_iff.1 hm'
    refine o_move (AV.lit (.string (a))) (Gd.yes rfl rfl h1) rfl ?_
    refine o_call [(AV.lit (.string (a)))] (AV.lit (.bool (okS (a)))) (Gd.yes rfl rfl h1) Wn_tC65 rfl (c_nValid (a) (by first | assumption | omega)) ?_
    refine o_not (b := okS (a)) (Gd.yes rfl rfl h1) rfl ?_
    refine o_pickF (b := !(okM m)) (AV.lit (.bool (!(okS (a))))) Gd.none rfl h1 rfl ?_
    refine o_assign (AV.lit (.bool (!(okS (a))))) Gd.none rfl ?_
    refine aops_end ?_
    refine hK2 _ ?_
    refine awp_condB (b := !(okS (a))) rfl (fun h2 => ?_) (fun h2 => ?_)
    · have ha' : okS a = false := by simpa using h2
      refine awp_seq fun K4 hK4 => ?_
      refine awp_region rfl ?_
      refine o_store [(5, (AO.var 27 [(nm .i64 (0))])), (4, (AO.var 26 [(AV.lit (.slice none 0 0))])), (3, (AO.var 3 [(AV.lit (.int .i64 (K)))])), (2, (AO.var 24 [(AV.lit (.int .i64 (m.mod))), (AV.sl 1 (is .i64 (m.mul))), (AV.sl 1 (is .i64 (m.add)))]))] Gd.none Wn_tZ26 rfl rfl rfl rfl rfl rfl ?_
      refine o_store [(5, (AO.var 27 [(nm .i64 (1))])), (4, (AO.var 26 [(AV.lit (.slice none 0 0))])), (3, (AO.var 3 [(AV.lit (.int .i64 (K)))])), (2, (AO.var 24 [(AV.lit (.int .i64 (m.mod))), (AV.sl 1 (is .i64 (m.mul))), (AV.sl 1 (is .i64 (m.add)))]))] Gd.none Wn_tZ27 rfl rfl rfl rfl rfl rfl ?_
      refine aops_end ?_
      refine hK4 _ ?_
      refine awp_ret ?_
      refine postT_ret0 ⟨[(AV.sl 1 (strs [])), (nm .i64 (1))], And.intro ⟨4, (AO.var 26 [(AV.lit (.slice none 0 0))]), rfl, rfl, rfl, Or.inr ⟨Wn_tS26, _, rfl, AV.le_nil' (by decide) (by first | rfl | simp [digs_zero, ns, is])⟩⟩ (And.intro ⟨5, (AO.var 27 [(nm .i64 (1))]), rfl, rfl, rfl, Or.inr ⟨Wn_tS27, _, rfl, AV.le_refl _⟩⟩ (trivial)), rfl, ?_⟩
      refine tup_eq2 (by unfold orbS; rw [if_neg (by simp [ha'])]) (by unfold orbE; rw [if_neg (by simp [ha'])])
    · have ha' : okS a = true := by simpa using h2
      have hlz := len_numS (okS_iff.1 ha')
      refine awp_seq fun K5 hK5 => ?_
      refine awp_region rfl ?_
      refine o_loadS (AV.lit (.int .i64 (K))) Gd.none Wn_tS3 rfl rfl rfl ?_
      refine o_lss (a := (K)) (c := (((0 : Nat) : Int))) Gd.none rfl rfl ?_
      refine o_move (bp ((K) < (((0 : Nat) : Int)))) Gd.none rfl ?_
      refine o_splitP (q := (K) < (((0 : Nat) : Int))) 23 rfl (fun h3 => ?_) (fun h3 => ?_)
      · refine o_skip (b := decide ((K) < (((0 : Nat) : Int)))) rfl rfl (decide_eq_true h3) ?_
        refine o_skip (b := decide ((K) < (((0 : Nat) : Int)))) rfl rfl (decide_eq_true h3) ?_
        refine o_pickT (b := decide ((K) < (((0 : Nat) : Int)))) (AV.lit (.bool true)) Gd.none rfl (decide_eq_true h3) rfl ?_
        refine o_assign (AV.lit (.bool true)) Gd.none rfl ?_
        refine aops_end ?_
        refine hK5 _ ?_
        refine awp_condB (b := true) rfl (fun _ => ?_) (fun hh => absurd (hh.symm.trans rfl) (by decide))
        refine awp_seq fun K6 hK6 => ?_
        refine awp_region rfl ?_
        refine o_store [(5, (AO.var 27 [(nm .i64 (0))])), (4, (AO.var 26 [(AV.lit (.slice none 0 0))])), (3, (AO.var 3 [(AV.lit (.int .i64 (K)))])), (2, (AO.var 24 [(AV.lit (.int .i64 (m.mod))), (AV.sl 1 (is .i64 (m.mul))), (AV.sl 1 (is .i64 (m.add)))]))] Gd.none Wn_tZ26 rfl rfl rfl rfl rfl rfl ?_
        refine o_store [(5, (AO.var 27 [(nm .i64 (2))])), (4, (AO.var 26 [(AV.lit (.slice none 0 0))])), (3, (AO.var 3 [(AV.lit (.int .i64 (K)))])), (2, (AO.var 24 [(AV.lit (.int .i64 (m.mod))), (AV.sl 1 (is .i64 (m.mul))), (AV.sl 1 (is .i64 (m.add)))]))] Gd.none Wn_tZ27 rfl rfl rfl rfl rfl rfl ?_
        refine aops_end ?_
        refine hK6 _ ?_
        refine awp_ret ?_
        refine postT_ret0 ⟨[(AV.sl 1 (strs [])), (nm .i64 (2))], And.intro ⟨4, (AO.var 26 [(AV.lit (.slice none 0 0))]), rfl, rfl, rfl, Or.inr ⟨Wn_tS26, _, rfl, AV.le_nil' (by decide) (by first | rfl | simp [digs_zero, ns, is])⟩⟩ (And.intro ⟨5, (AO.var 27 [(nm .i64 (2))]), rfl, rfl, rfl, Or.inr ⟨Wn_tS27, _, rfl, AV.le_refl _⟩⟩ (trivial)), rfl, ?_⟩
        refine tup_eq2 (by unfold orbS; rw [if_neg (by omega)]) (by unfold orbE; rw [if_pos ⟨hm', ha'⟩, if_neg (by omega)])
      · refine o_loadS (AV.lit (.int .i64 (K))) (Gd.yes rfl rfl (decide_eq_false h3)) Wn_tS3 rfl rfl rfl ?_
        refine o_gtr (a := (K)) (c := (((1000 : Nat) : Int))) (Gd.yes rfl rfl (decide_eq_false h3)) rfl rfl ?_
        refine o_pickF (b := decide ((K) < (((0 : Nat) : Int)))) (bp ((((1000 : Nat) : Int)) < (K))) Gd.none rfl (decide_eq_false h3) rfl ?_
        refine o_assign (bp ((((1000 : Nat) : Int)) < (K))) Gd.none rfl ?_
        refine aops_end ?_
        refine hK5 _ ?_
        refine awp_condQ (q := (((1000 : Nat) : Int)) < (K)) rfl (fun h4 => ?_) (fun h4 => ?_)
        · refine awp_seq fun K7 hK7 => ?_
          refine awp_region rfl ?_
          refine o_store [(5, (AO.var 27 [(nm .i64 (0))])), (4, (AO.var 26 [(AV.lit (.slice none 0 0))])), (3, (AO.var 3 [(AV.lit (.int .i64 (K)))])), (2, (AO.var 24 [(AV.lit (.int .i64 (m.mod))), (AV.sl 1 (is .i64 (m.mul))), (AV.sl 1 (is .i64 (m.add)))]))] Gd.none Wn_tZ26 rfl rfl rfl rfl rfl rfl ?_
          refine o_store [(5, (AO.var 27 [(nm .i64 (2))])), (4, (AO.var 26 [(AV.lit (.slice none 0 0))])), (3, (AO.var 3 [(AV.lit (.int .i64 (K)))])), (2, (AO.var 24 [(AV.lit (.int .i64 (m.mod))), (AV.sl 1 (is .i64 (m.mul))), (AV.sl 1 (is .i64 (m.add)))]))] Gd.none Wn_tZ27 rfl rfl rfl rfl rfl rfl ?_
          refine aops_end ?_
          refine hK7 _ ?_
          refine awp_ret ?_
          refine postT_ret0 ⟨[(AV.sl 1 (strs [])), (nm .i64 (2))], And.intro ⟨4, (AO.var 26 [(AV.lit (.slice none 0 0))]), rfl, rfl, rfl, Or.inr ⟨Wn_tS26, _, rfl, AV.le_nil' (by decide) (by first | rfl | simp [digs_zero, ns, is])⟩⟩ (And.intro ⟨5, (AO.var 27 [(nm .i64 (2))]), rfl, rfl, rfl, Or.inr ⟨Wn_tS27, _, rfl, AV.le_refl _⟩⟩ (trivial)), rfl, ?_⟩
          refine tup_eq2 (by unfold orbS; rw [if_neg (by omega)]) (by unfold orbE; rw [if_pos ⟨hm', ha'⟩, if_neg (by omega)])
        · refine awp_skip ?_
          refine hK1 _ _ ?_
          refine awpT_seq fun K8 hK8 => ?_
          refine awpT_lift ?_
          refine awp_region rfl ?_
          refine o_alloc 6 [(AV.lit (.slice none 0 0))] Gd.none Wn_tO26 rfl rfl rfl ?_
          refine aops_end ?_
          refine hK8 _ _ ?_
          refine awpT_seq fun K9 hK9 => ?_
          refine awpT_seq fun K10 hK10 => ?_
          refine awpT_lift ?_
          refine awp_regionD rfl ?_
          refine o_loadA [(AV.lit (.int .i64 (m.mod))), (AV.sl 1 (is .i64 (m.mul))), (AV.sl 1 (is .i64 (m.add)))] Gd.none Wn_tA24 rfl rfl rfl rfl rfl ?_
          refine o_move (AV.lit (.string (a))) Gd.none rfl ?_
          refine o_call [(AV.lit (.string (a)))] (intW ((numS (a)))) Gd.none Wn_tC69 rfl (c_wParse (a) (by first | assumption | exact okS_iff.1 (by assumption))) ?_
          refine o_callW 8001 8002 [(AV.agg [(AV.lit (.int .i64 (m.mod))), (AV.sl 1 (is .i64 (m.mul))), (AV.sl 1 (is .i64 (m.add)))]), (intW ((numS (a))))] Gd.none Wn_tC68 rfl rfl rfl rfl (c_sWalk m (numS (a))) rfl rfl ?_
          refine aops_end ⟨by kernel_rfl, ?_⟩
          refine hK10 _ _ ?_
          refine awpT_block ?_
          refine awpT_wk (Wk.nilIn (i := 6) (id := 707) (ty := 26) (e := 9) (sz := 1) rfl rfl (by decide)) ?_
          refine awpT_wk (σ' := ⟨[(3, (AV.ref 2 (0))), (5, (AV.ref 3 (0))), (6, (AV.ref 4 (0))), (7, (AV.ref 5 (0))), (8, (AV.ref 6 (0))), (30, (AV.clo 99 [(AV.ref 8001 (0)), (AV.ref 8002 (0))]))], [(8001, (AO.var 89 [(bp ((numS (a)) < 0)), (AV.sl 1 (ns .u32 (digs ((numS (a))).natAbs)))])), (8002, (AO.var 24 [(AV.lit (.int .i64 (m.mod))), (AV.sl 1 (is .i64 (m.mul))), (AV.sl 1 (is .i64 (m.add)))])), (2, (AO.var 24 [(AV.lit (.int .i64 (m.mod))), (AV.sl 1 (is .i64 (m.mul))), (AV.sl 1 (is .i64 (m.add)))])), (3, (AO.var 3 [(AV.lit (.int .i64 (K)))])), (4, (AO.var 26 [(AV.lit (.slice none 0 0))])), (5, (AO.var 27 [(nm .i64 (0))])), (6, (AO.var 26 [(AV.row 707)])), (707, (AO.row 9 1 ([])))]⟩) (Wk.sub (And.intro rfl (And.intro rfl (And.intro rfl (And.intro rfl (And.intro rfl (And.intro rfl (trivial))))))) (And.intro rfl (And.intro rfl (And.intro rfl (And.intro rfl (And.intro rfl (And.intro rfl (And.intro rfl (And.intro rfl (trivial)))))))))) ?_
          refine awpT_range (C := cx) rfl (gf := 99) (fnI := Tryd.f99) (caps := [.ref 8001 0, .ref 8002 0]) (so := [(3, (AV.ref 2 (0))), (5, (AV.ref 3 (0))), (6, (AV.ref 4 (0))), (7, (AV.ref 5 (0))), (8, (AV.ref 6 (0))), (30, (AV.clo 99 [(AV.ref 8001 (0)), (AV.ref 8002 (0))]))]) (And.intro rfl (And.intro rfl (And.intro rfl (And.intro rfl (And.intro rfl (And.intro rfl (trivial))))))) Tryd.func99 rfl Wn_tC99 (by decide) rfl rfl rfl rfl rfl (fun (fn : FuncId) (tmps : Array Value) (D l : Nat) (pe : Option Code) (m' : List (Nat × AO)) => ((¬ Fit (runZ m K.toNat (numS a))) ∧ pe = some .ret ∧ m' = [(4, (AO.var 26 [(AV.lit (.slice none 0 0))])), (5, (AO.var 27 [(nm .i64 (3))]))]) ∨ (∃ (zs : List Int), (Fit (runZ m K.toNat (numS a))) ∧ (zs = orbZ m K.toNat (numS a)) ∧ pe = some (.exit 1) ∧ m' = [(2, (AO.var 24 [(AV.lit (.int .i64 (m.mod))), (AV.sl 1 (is .i64 (m.mul))), (AV.sl 1 (is .i64 (m.add)))])), (3, (AO.var 3 [(AV.lit (.int .i64 (K)))])), (4, (AO.var 26 [(AV.lit (.slice none 0 0))])), (5, (AO.var 27 [(nm .i64 (0))])), (6, (AO.var 26 [(AV.row 707)])), (707, (AO.row 9 1 (strs zs)))])) ?it0 ?nx0
          case it0 =>
            intro fn tmps D l hsz
            refine awp_mono (it_Walk m (numS a) hM l D fn tmps _ _ _ (1000) (fun (k : Nat) (mm : List (Nat × AO)) => ∃ (zs : List Int), ((k : Int) ≤ K) ∧ (zs.length = k) ∧ (runZ m (K.toNat - k) (iterZ m k (numS a)) = runZ m K.toNat (numS a)) ∧ (zs ++ orbZ m (K.toNat - k) (iterZ m k (numS a)) = orbZ m K.toNat (numS a)) ∧ ((digs (iterZ m k (numS a)).natAbs).length ≤ 1000000) ∧ mm = (((9002, (.blk (.deferred (some [])))) :: (9003, (pinA [(3, (AV.ref 2 (0))), (5, (AV.ref 3 (0))), (6, (AV.ref 4 (0))), (7, (AV.ref 5 (0))), (8, (AV.ref 6 (0))), (30, (AV.clo 99 [(AV.ref 8001 (0)), (AV.ref 8002 (0))]))] tmps)) :: (9004, (pinL l D)) :: (2, (AO.var 24 [(AV.lit (.int .i64 (m.mod))), (AV.sl 1 (is .i64 (m.mul))), (AV.sl 1 (is .i64 (m.add)))])) :: (3, (AO.var 3 [(AV.lit (.int .i64 (K)))])) :: (4, (AO.var 26 [(AV.lit (.slice none 0 0))])) :: (5, (AO.var 27 [(nm .i64 (0))])) :: (6, (AO.var 26 [(AV.row 707)])) :: (707, (AO.row 9 1 (strs zs))) :: []))) (fun c mm => ∃ m2, mm = (((9002, (.blk (.deferred (some [])))) :: (9003, (pinA [(3, (AV.ref 2 (0))), (5, (AV.ref 3 (0))), (6, (AV.ref 4 (0))), (7, (AV.ref 5 (0))), (8, (AV.ref 6 (0))), (30, (AV.clo 99 [(AV.ref 8001 (0)), (AV.ref 8002 (0))]))] tmps)) :: (9004, (pinL l D)) :: m2)) ∧ (fun (fn : FuncId) (tmps : Array Value) (D l : Nat) (pe : Option Code) (m' : List (Nat × AO)) => ((¬ Fit (runZ m K.toNat (numS a))) ∧ pe = some .ret ∧ m' = [(4, (AO.var 26 [(AV.lit (.slice none 0 0))])), (5, (AO.var 27 [(nm .i64 (3))]))]) ∨ (∃ (zs : List Int), (Fit (runZ m K.toNat (numS a))) ∧ (zs = orbZ m K.toNat (numS a)) ∧ pe = some (.exit 1) ∧ m' = [(2, (AO.var 24 [(AV.lit (.int .i64 (m.mod))), (AV.sl 1 (is .i64 (m.mul))), (AV.sl 1 (is .i64 (m.add)))])), (3, (AO.var 3 [(AV.lit (.int .i64 (K)))])), (4, (AO.var 26 [(AV.lit (.slice none 0 0))])), (5, (AO.var 27 [(nm .i64 (0))])), (6, (AO.var 26 [(AV.row 707)])), (707, (AO.row 9 1 (strs zs)))])) fn tmps D l (some c) m2) ?R0 ⟨[], (by omega), rfl, rfl, rfl, (by have := hlz; simp only [iterZ]; omega), rfl⟩ (Wk.sub (And.intro rfl (And.intro rfl (And.intro rfl (trivial)))) (And.intro rfl (And.intro rfl (And.intro rfl (And.intro rfl (And.intro rfl (And.intro rfl (And.intro rfl (And.intro rfl (And.intro rfl (And.intro rfl (And.intro rfl (And.intro rfl (trivial)))))))))))))) (by omega) rfl) ?fin0
            case fin0 =>
              rintro e σ ⟨rfl, c, mm', ⟨m2, rfl, hX⟩, hwk⟩
              exact ⟨.inl rfl, .done, some c, m2, (by decide), hX, (by rcases hX with ⟨_, _, rfl⟩ | ⟨_, _, _, _, rfl⟩ <;> rfl), (by rcases hX with ⟨_, _, rfl⟩ | ⟨_, _, _, _, rfl⟩ <;> rfl), hwk⟩
            case R0 =>
              rintro k _ ⟨zs, hk, hl, hr, hv, hln, rfl⟩
              have hstep := step_len hM hln (by decide)
              refine ⟨(by omega), hln, yldAt_of_round (so := [(3, (AV.ref 2 (0))), (5, (AV.ref 3 (0))), (6, (AV.ref 4 (0))), (7, (AV.ref 5 (0))), (8, (AV.ref 6 (0))), (30, (AV.clo 99 [(AV.ref 8001 (0)), (AV.ref 8002 (0))]))]) (n := 44) (D' := D) rfl hsz (by decide) rfl rfl rfl rfl rfl rfl fun us => ?_⟩
              show awp cx 44 _ _ ⟨[(32, (AV.agg [(bp ((iterZ m k (numS a)) < 0)), (AV.sl 1 (ns .u32 (digs ((iterZ m k (numS a))).natAbs)))])), (31, (nm .i64 (k))), (3, (AV.ref 2 (0))), (5, (AV.ref 3 (0))), (6, (AV.ref 4 (0))), (7, (AV.ref 5 (0))), (8, (AV.ref 6 (0))), (30, (AV.clo 99 [(AV.ref 8001 (0)), (AV.ref 8002 (0))]))], [(9005, (AO.pin [(.lit (.func (.yield l) #[] #[])), (AV.ref 8001 (0)), (AV.ref 8002 (0)), (nm .i64 (k))] us)), (9001, (AO.blk (.loop (lrec fn tmps _ _ _ D .ready none)))), (8001, (AO.var 89 [(bp ((iterZ m k (numS a)) < 0)), (AV.sl 1 (ns .u32 (digs ((iterZ m k (numS a))).natAbs)))])), (8002, (AO.var 24 [(AV.lit (.int .i64 (m.mod))), (AV.sl 1 (is .i64 (m.mul))), (AV.sl 1 (is .i64 (m.add)))])), (9002, (.blk (.deferred (some [])))), (9003, (pinA [(3, (AV.ref 2 (0))), (5, (AV.ref 3 (0))), (6, (AV.ref 4 (0))), (7, (AV.ref 5 (0))), (8, (AV.ref 6 (0))), (30, (AV.clo 99 [(AV.ref 8001 (0)), (AV.ref 8002 (0))]))] tmps)), (9004, (pinL l D)), (2, (AO.var 24 [(AV.lit (.int .i64 (m.mod))), (AV.sl 1 (is .i64 (m.mul))), (AV.sl 1 (is .i64 (m.add)))])), (3, (AO.var 3 [(AV.lit (.int .i64 (K)))])), (4, (AO.var 26 [(AV.lit (.slice none 0 0))])), (5, (AO.var 27 [(nm .i64 (0))])), (6, (AO.var 26 [(AV.row 707)])), (707, (AO.row 9 1 (strs zs)))]⟩
              refine awp_seq fun K11 hK11 => ?_
              refine awp_region rfl ?_
              refine o_assign (nm .i64 (k)) Gd.none rfl ?_
              refine aops_end ?_
              refine hK11 _ ?_
              refine awp_region rfl ?_
              refine o_alloc 101 [(AV.lit (.bool false)), (AV.lit (.slice none 0 0))] Gd.none Wn_tO89 rfl rfl rfl ?_
              refine o_store [(101, (AO.var 89 [(bp ((iterZ m k (numS a)) < 0)), (AV.sl 1 (ns .u32 (digs ((iterZ m k (numS a))).natAbs)))])), (9005, (AO.pin [(.lit (.func (.yield l) #[] #[])), (AV.ref 8001 (0)), (AV.ref 8002 (0)), (nm .i64 (k))] us)), (9001, (AO.blk (.loop (lrec fn tmps _ _ _ D .ready none)))), (8001, (AO.var 89 [(bp ((iterZ m k (numS a)) < 0)), (AV.sl 1 (ns .u32 (digs ((iterZ m k (numS a))).natAbs)))])), (8002, (AO.var 24 [(AV.lit (.int .i64 (m.mod))), (AV.sl 1 (is .i64 (m.mul))), (AV.sl 1 (is .i64 (m.add)))])), (9002, (.blk (.deferred (some [])))), (9003, (pinA [(3, (AV.ref 2 (0))), (5, (AV.ref 3 (0))), (6, (AV.ref 4 (0))), (7, (AV.ref 5 (0))), (8, (AV.ref 6 (0))), (30, (AV.clo 99 [(AV.ref 8001 (0)), (AV.ref 8002 (0))]))] tmps)), (9004, (pinL l D)), (2, (AO.var 24 [(AV.lit (.int .i64 (m.mod))), (AV.sl 1 (is .i64 (m.mul))), (AV.sl 1 (is .i64 (m.add)))])), (3, (AO.var 3 [(AV.lit (.int .i64 (K)))])), (4, (AO.var 26 [(AV.lit (.slice none 0 0))])), (5, (AO.var 27 [(nm .i64 (0))])), (6, (AO.var 26 [(AV.row 707)])), (707, (AO.row 9 1 (strs zs)))] Gd.none Wn_tZ89 rfl rfl rfl rfl rfl rfl ?_
              refine aops_end ?_
              refine ⟨[(32, (AV.agg [(bp ((iterZ m k (numS a)) < 0)), (AV.sl 1 (ns .u32 (digs ((iterZ m k (numS a))).natAbs)))])), (31, (nm .i64 (k))), (3, (AV.ref 2 (0))), (5, (AV.ref 3 (0))), (6, (AV.ref 4 (0))), (7, (AV.ref 5 (0))), (8, (AV.ref 6 (0))), (30, (AV.clo 99 [(AV.ref 8001 (0)), (AV.ref 8002 (0))])), (9, (nm .i64 (k))), (10, (AV.ref 101 (0)))], [(101, (AO.var 89 [(bp ((iterZ m k (numS a)) < 0)), (AV.sl 1 (ns .u32 (digs ((iterZ m k (numS a))).natAbs)))])), (9005, (AO.pin [(.lit (.func (.yield l) #[] #[])), (AV.ref 8001 (0)), (AV.ref 8002 (0)), (nm .i64 (k))] us)), (8001, (AO.var 89 [(bp ((iterZ m k (numS a)) < 0)), (AV.sl 1 (ns .u32 (digs ((iterZ m k (numS a))).natAbs)))])), (8002, (AO.var 24 [(AV.lit (.int .i64 (m.mod))), (AV.sl 1 (is .i64 (m.mul))), (AV.sl 1 (is .i64 (m.add)))])), (9002, (.blk (.deferred (some [])))), (9003, (pinA [(3, (AV.ref 2 (0))), (5, (AV.ref 3 (0))), (6, (AV.ref 4 (0))), (7, (AV.ref 5 (0))), (8, (AV.ref 6 (0))), (30, (AV.clo 99 [(AV.ref 8001 (0)), (AV.ref 8002 (0))]))] tmps)), (9004, (pinL l D)), (2, (AO.var 24 [(AV.lit (.int .i64 (m.mod))), (AV.sl 1 (is .i64 (m.mul))), (AV.sl 1 (is .i64 (m.add)))])), (3, (AO.var 3 [(AV.lit (.int .i64 (K)))])), (4, (AO.var 26 [(AV.lit (.slice none 0 0))])), (5, (AO.var 27 [(nm .i64 (0))])), (6, (AO.var 26 [(AV.row 707)])), (707, (AO.row 9 1 (strs zs)))], Wk.sub (And.intro rfl (And.intro rfl (And.intro rfl (And.intro rfl (And.intro rfl (And.intro rfl (And.intro rfl (And.intro rfl (And.intro rfl (And.intro rfl (trivial))))))))))) (And.intro rfl (And.intro rfl (And.intro rfl (And.intro rfl (And.intro rfl (And.intro rfl (And.intro rfl (And.intro rfl (And.intro rfl (And.intro rfl (And.intro rfl (And.intro rfl (And.intro rfl (And.intro rfl (trivial))))))))))))))), rfl, ?_⟩
              refine awp_block ?_
              refine awp_seq fun K12 hK12 => ?_
              refine awp_seq fun K13 hK13 => ?_
              refine awp_region rfl ?_
              refine o_loadA [(bp ((iterZ m k (numS a)) < 0)), (AV.sl 1 (ns .u32 (digs ((iterZ m k (numS a))).natAbs)))] Gd.none Wn_tA89 rfl rfl rfl rfl rfl ?_
              refine o_call [(AV.agg [(bp ((iterZ m k (numS a)) < 0)), (AV.sl 1 (ns .u32 (digs ((iterZ m k (numS a))).natAbs)))])] (bp (¬ Fit ((iterZ m k (numS a))))) Gd.none Wn_tC70 rfl (c_sLong ((iterZ m k (numS a))) (by first | assumption | omega | (simp only [Int.natAbs_neg]; omega))) ?_
              refine aops_end ?_
              refine hK13 _ ?_
              refine awp_condQ (q := ¬ Fit ((iterZ m k (numS a)))) rfl (fun h5 => ?_) (fun h5 => ?_)
              · refine awp_seq fun K14 hK14 => ?_
                refine awp_region rfl ?_
                refine o_store [(9001, (AO.blk (.loop (lrec fn tmps _ _ _ D .busy none)))), (101, (AO.var 89 [(bp ((iterZ m k (numS a)) < 0)), (AV.sl 1 (ns .u32 (digs ((iterZ m k (numS a))).natAbs)))])), (9005, (AO.pin [(.lit (.func (.yield l) #[] #[])), (AV.ref 8001 (0)), (AV.ref 8002 (0)), (nm .i64 (k))] us)), (8001, (AO.var 89 [(bp ((iterZ m k (numS a)) < 0)), (AV.sl 1 (ns .u32 (digs ((iterZ m k (numS a))).natAbs)))])), (8002, (AO.var 24 [(AV.lit (.int .i64 (m.mod))), (AV.sl 1 (is .i64 (m.mul))), (AV.sl 1 (is .i64 (m.add)))])), (9002, (.blk (.deferred (some [])))), (9003, (pinA [(3, (AV.ref 2 (0))), (5, (AV.ref 3 (0))), (6, (AV.ref 4 (0))), (7, (AV.ref 5 (0))), (8, (AV.ref 6 (0))), (30, (AV.clo 99 [(AV.ref 8001 (0)), (AV.ref 8002 (0))]))] tmps)), (9004, (pinL l D)), (2, (AO.var 24 [(AV.lit (.int .i64 (m.mod))), (AV.sl 1 (is .i64 (m.mul))), (AV.sl 1 (is .i64 (m.add)))])), (3, (AO.var 3 [(AV.lit (.int .i64 (K)))])), (4, (AO.var 26 [(AV.lit (.slice none 0 0))])), (5, (AO.var 27 [(nm .i64 (0))])), (6, (AO.var 26 [(AV.row 707)])), (707, (AO.row 9 1 (strs zs)))] Gd.none Wn_tZ26 rfl rfl rfl rfl rfl rfl ?_
                refine o_store [(9001, (AO.blk (.loop (lrec fn tmps _ _ _ D .busy none)))), (101, (AO.var 89 [(bp ((iterZ m k (numS a)) < 0)), (AV.sl 1 (ns .u32 (digs ((iterZ m k (numS a))).natAbs)))])), (9005, (AO.pin [(.lit (.func (.yield l) #[] #[])), (AV.ref 8001 (0)), (AV.ref 8002 (0)), (nm .i64 (k))] us)), (8001, (AO.var 89 [(bp ((iterZ m k (numS a)) < 0)), (AV.sl 1 (ns .u32 (digs ((iterZ m k (numS a))).natAbs)))])), (8002, (AO.var 24 [(AV.lit (.int .i64 (m.mod))), (AV.sl 1 (is .i64 (m.mul))), (AV.sl 1 (is .i64 (m.add)))])), (9002, (.blk (.deferred (some [])))), (9003, (pinA [(3, (AV.ref 2 (0))), (5, (AV.ref 3 (0))), (6, (AV.ref 4 (0))), (7, (AV.ref 5 (0))), (8, (AV.ref 6 (0))), (30, (AV.clo 99 [(AV.ref 8001 (0)), (AV.ref 8002 (0))]))] tmps)), (9004, (pinL l D)), (2, (AO.var 24 [(AV.lit (.int .i64 (m.mod))), (AV.sl 1 (is .i64 (m.mul))), (AV.sl 1 (is .i64 (m.add)))])), (3, (AO.var 3 [(AV.lit (.int .i64 (K)))])), (4, (AO.var 26 [(AV.lit (.slice none 0 0))])), (5, (AO.var 27 [(nm .i64 (3))])), (6, (AO.var 26 [(AV.row 707)])), (707, (AO.row 9 1 (strs zs)))] Gd.none Wn_tZ27 rfl rfl rfl rfl rfl rfl ?_
                refine aops_end ?_
                refine hK14 _ ?_
                refine awp_ret ?_
                exact ⟨[(9002, (.blk (.deferred (some [])))), (9003, (pinA [(3, (AV.ref 2 (0))), (5, (AV.ref 3 (0))), (6, (AV.ref 4 (0))), (7, (AV.ref 5 (0))), (8, (AV.ref 6 (0))), (30, (AV.clo 99 [(AV.ref 8001 (0)), (AV.ref 8002 (0))]))] tmps)), (9004, (pinL l D)), (4, (AO.var 26 [(AV.lit (.slice none 0 0))])), (5, (AO.var 27 [(nm .i64 (3))]))], Wk.sub (trivial) (And.intro (by first | rfl | exact row_ns (by simp) | exact congrArg (fun x => some (AO.blk (.stringIter _ x))) (by omega)) (And.intro (by first | rfl | exact row_ns (by simp) | exact congrArg (fun x => some (AO.blk (.stringIter _ x))) (by omega)) (And.intro (by first | rfl | exact row_ns (by simp) | exact congrArg (fun x => some (AO.blk (.stringIter _ x))) (by omega)) (And.intro (by first | rfl | exact row_ns (by simp) | exact congrArg (fun x => some (AO.blk (.stringIter _ x))) (by omega)) (And.intro (by first | rfl | exact row_ns (by simp) | exact congrArg (fun x => some (AO.blk (.stringIter _ x))) (by omega)) (And.intro (by first | rfl | exact row_ns (by simp) | exact congrArg (fun x => some (AO.blk (.stringIter _ x))) (by omega)) (And.intro (by first | rfl | exact row_ns (by simp) | exact congrArg (fun x => some (AO.blk (.stringIter _ x))) (by omega)) (trivial)))))))), rfl, rfl, _, rfl, .inl ⟨(by rw [← hr, runZ_bad h5]; exact h5), rfl, rfl⟩⟩
              · have hF : Fit (iterZ m k (numS a)) := Decidable.not_not.1 h5
                refine awp_skip ?_
                refine hK12 _ ?_
                refine awp_seq fun K15 hK15 => ?_
                refine awp_regionD rfl ?_
                refine o_loadS (AV.row 707) Gd.none Wn_tS26 rfl rfl rfl ?_
                refine o_loadA [(bp ((iterZ m k (numS a)) < 0)), (AV.sl 1 (ns .u32 (digs ((iterZ m k (numS a))).natAbs)))] Gd.none Wn_tA89 rfl rfl rfl rfl rfl ?_
                refine o_call [(AV.agg [(bp ((iterZ m k (numS a)) < 0)), (AV.sl 1 (ns .u32 (digs ((iterZ m k (numS a))).natAbs)))])] (AV.lit (.string (txt ((iterZ m k (numS a)))))) Gd.none Wn_tC71 rfl (c_wText ((iterZ m k (numS a))) (by first | assumption | omega | (simp only [Int.natAbs_neg]; omega))) ?_
                refine o_buildSlice 102 (sbs ([txt ((iterZ m k (numS a)))])) [(0, [(AV.lit (.string (txt ((iterZ m k (numS a))))))])] Gd.none Wn_tE26 rfl Wn_tO9 rfl rfl rfl rfl rfl rfl rfl ?_
                refine o_append 103 ((sbs ([txt ((iterZ m k (numS a)))]))) (strs (zs ++ [(iterZ m k (numS a))])) _ [(102, (AO.row 9 1 (sbs ([txt ((iterZ m k (numS a)))])))), (9001, (AO.blk (.loop (lrec fn tmps _ _ _ D .busy none)))), (101, (AO.var 89 [(bp ((iterZ m k (numS a)) < 0)), (AV.sl 1 (ns .u32 (digs ((iterZ m k (numS a))).natAbs)))])), (9005, (AO.pin [(.lit (.func (.yield l) #[] #[])), (AV.ref 8001 (0)), (AV.ref 8002 (0)), (nm .i64 (k))] us)), (8001, (AO.var 89 [(bp ((iterZ m k (numS a)) < 0)), (AV.sl 1 (ns .u32 (digs ((iterZ m k (numS a))).natAbs)))])), (8002, (AO.var 24 [(AV.lit (.int .i64 (m.mod))), (AV.sl 1 (is .i64 (m.mul))), (AV.sl 1 (is .i64 (m.add)))])), (9002, (.blk (.deferred (some [])))), (9003, (pinA [(3, (AV.ref 2 (0))), (5, (AV.ref 3 (0))), (6, (AV.ref 4 (0))), (7, (AV.ref 5 (0))), (8, (AV.ref 6 (0))), (30, (AV.clo 99 [(AV.ref 8001 (0)), (AV.ref 8002 (0))]))] tmps)), (9004, (pinL l D)), (2, (AO.var 24 [(AV.lit (.int .i64 (m.mod))), (AV.sl 1 (is .i64 (m.mul))), (AV.sl 1 (is .i64 (m.add)))])), (3, (AO.var 3 [(AV.lit (.int .i64 (K)))])), (4, (AO.var 26 [(AV.lit (.slice none 0 0))])), (5, (AO.var 27 [(nm .i64 (0))])), (6, (AO.var 26 [(AV.row 707)]))] Gd.none Wn_tE26 rfl Wn_tO9 rfl rfl rfl (.inr ⟨_, _, rfl, rfl, rfl⟩) (by simp only [strs_len, sbs, List.length_map, List.length_cons, List.length_nil]; omega) (by simp only [strs_len, sbs, List.length_map, List.length_cons, List.length_nil]; omega) (strs_app _ _) rfl rfl ?_
                refine o_store [(103, (AO.row 9 1 (strs (zs ++ [(iterZ m k (numS a))])))), (102, (AO.row 9 1 (sbs ([txt ((iterZ m k (numS a)))])))), (9001, (AO.blk (.loop (lrec fn tmps _ _ _ D .busy none)))), (101, (AO.var 89 [(bp ((iterZ m k (numS a)) < 0)), (AV.sl 1 (ns .u32 (digs ((iterZ m k (numS a))).natAbs)))])), (9005, (AO.pin [(.lit (.func (.yield l) #[] #[])), (AV.ref 8001 (0)), (AV.ref 8002 (0)), (nm .i64 (k))] us)), (8001, (AO.var 89 [(bp ((iterZ m k (numS a)) < 0)), (AV.sl 1 (ns .u32 (digs ((iterZ m k (numS a))).natAbs)))])), (8002, (AO.var 24 [(AV.lit (.int .i64 (m.mod))), (AV.sl 1 (is .i64 (m.mul))), (AV.sl 1 (is .i64 (m.add)))])), (9002, (.blk (.deferred (some [])))), (9003, (pinA [(3, (AV.ref 2 (0))), (5, (AV.ref 3 (0))), (6, (AV.ref 4 (0))), (7, (AV.ref 5 (0))), (8, (AV.ref 6 (0))), (30, (AV.clo 99 [(AV.ref 8001 (0)), (AV.ref 8002 (0))]))] tmps)), (9004, (pinL l D)), (2, (AO.var 24 [(AV.lit (.int .i64 (m.mod))), (AV.sl 1 (is .i64 (m.mul))), (AV.sl 1 (is .i64 (m.add)))])), (3, (AO.var 3 [(AV.lit (.int .i64 (K)))])), (4, (AO.var 26 [(AV.lit (.slice none 0 0))])), (5, (AO.var 27 [(nm .i64 (0))])), (6, (AO.var 26 [(AV.row 103)]))] Gd.none Wn_tZ26 rfl rfl rfl rfl rfl rfl ?_
                refine aops_end ⟨by kernel_rfl, ?_⟩
                refine hK15 _ ?_
                refine awp_seq fun K16 hK16 => ?_
                refine awp_region rfl ?_
                refine o_move (nm .i64 (k)) Gd.none rfl ?_
                refine o_loadS (AV.lit (.int .i64 (K))) Gd.none Wn_tS3 rfl rfl rfl ?_
                refine o_eql (a := (((k : Nat) : Int))) (c := (K)) Gd.none rfl rfl ?_
                refine aops_end ?_
                refine hK16 _ ?_
                refine awp_condQ (q := (((k : Nat) : Int)) = (K)) rfl (fun h6 => ?_) (fun h6 => ?_)
                · refine awp_exit ?_
                  exact ⟨[(9002, (.blk (.deferred (some [])))), (9003, (pinA [(3, (AV.ref 2 (0))), (5, (AV.ref 3 (0))), (6, (AV.ref 4 (0))), (7, (AV.ref 5 (0))), (8, (AV.ref 6 (0))), (30, (AV.clo 99 [(AV.ref 8001 (0)), (AV.ref 8002 (0))]))] tmps)), (9004, (pinL l D)), (2, (AO.var 24 [(AV.lit (.int .i64 (m.mod))), (AV.sl 1 (is .i64 (m.mul))), (AV.sl 1 (is .i64 (m.add)))])), (3, (AO.var 3 [(AV.lit (.int .i64 (K)))])), (4, (AO.var 26 [(AV.lit (.slice none 0 0))])), (5, (AO.var 27 [(nm .i64 (0))])), (6, (AO.var 26 [(AV.row 707)])), (707, (AO.row 9 1 (strs (zs ++ [(iterZ m k (numS a))]))))], Wk.trans (Wk.sub (σ' := ⟨[], [(9005, (AO.pin [(.lit (.func (.yield l) #[] #[])), (AV.ref 8001 (0)), (AV.ref 8002 (0)), (nm .i64 (k))] us)), (9001, (AO.blk (.loop (lrec fn tmps _ _ _ D .busy none)))), (9002, (.blk (.deferred (some [])))), (9003, (pinA [(3, (AV.ref 2 (0))), (5, (AV.ref 3 (0))), (6, (AV.ref 4 (0))), (7, (AV.ref 5 (0))), (8, (AV.ref 6 (0))), (30, (AV.clo 99 [(AV.ref 8001 (0)), (AV.ref 8002 (0))]))] tmps)), (9004, (pinL l D)), (2, (AO.var 24 [(AV.lit (.int .i64 (m.mod))), (AV.sl 1 (is .i64 (m.mul))), (AV.sl 1 (is .i64 (m.add)))])), (3, (AO.var 3 [(AV.lit (.int .i64 (K)))])), (4, (AO.var 26 [(AV.lit (.slice none 0 0))])), (5, (AO.var 27 [(nm .i64 (0))])), (6, (AO.var 26 [(AV.row 103)])), (103, (AO.row 9 1 (strs (zs ++ [(iterZ m k (numS a))]))))]⟩) (trivial) (And.intro rfl (And.intro rfl (And.intro rfl (And.intro rfl (And.intro rfl (And.intro rfl (And.intro rfl (And.intro rfl (And.intro rfl (And.intro rfl (And.intro rfl (trivial))))))))))))) (Wk.trans (Wk.ren (id := 103) (id' := 707) rfl) (Wk.sub (trivial) (And.intro (by first | rfl | exact row_ns (by simp) | exact congrArg (fun x => some (AO.blk (.stringIter _ x))) (by omega)) (And.intro (by first | rfl | exact row_ns (by simp) | exact congrArg (fun x => some (AO.blk (.stringIter _ x))) (by omega)) (And.intro (by first | rfl | exact row_ns (by simp) | exact congrArg (fun x => some (AO.blk (.stringIter _ x))) (by omega)) (And.intro (by first | rfl | exact row_ns (by simp) | exact congrArg (fun x => some (AO.blk (.stringIter _ x))) (by omega)) (And.intro (by first | rfl | exact row_ns (by simp) | exact congrArg (fun x => some (AO.blk (.stringIter _ x))) (by omega)) (And.intro (by first | rfl | exact row_ns (by simp) | exact congrArg (fun x => some (AO.blk (.stringIter _ x))) (by omega)) (And.intro (by first | rfl | exact row_ns (by simp) | exact congrArg (fun x => some (AO.blk (.stringIter _ x))) (by omega)) (And.intro (by first | rfl | exact row_ns (by simp) | exact congrArg (fun x => some (AO.blk (.stringIter _ x))) (by omega)) (And.intro (by first | rfl | exact row_ns (by simp) | exact congrArg (fun x => some (AO.blk (.stringIter _ x))) (by omega)) (And.intro (by first | rfl | exact row_ns (by simp) | exact congrArg (fun x => some (AO.blk (.stringIter _ x))) (by omega)) (And.intro (by first | rfl | exact row_ns (by simp) | exact congrArg (fun x => some (AO.blk (.stringIter _ x))) (by omega)) (trivial)))))))))))))), rfl, rfl, _, rfl, .inr (⟨zs ++ [(iterZ m k (numS a))], (by rw [← hr, show K.toNat - k = 0 by omega]; exact hF), (by rw [← hv, show K.toNat - k = 0 by omega]; rfl), rfl, rfl⟩)⟩
                · refine awp_skip ?_
                  exact ⟨[(8001, (AO.var 89 [(bp ((iterZ m k (numS a)) < 0)), (AV.sl 1 (ns .u32 (digs ((iterZ m k (numS a))).natAbs)))])), (8002, (AO.var 24 [(AV.lit (.int .i64 (m.mod))), (AV.sl 1 (is .i64 (m.mul))), (AV.sl 1 (is .i64 (m.add)))])), (9002, (.blk (.deferred (some [])))), (9003, (pinA [(3, (AV.ref 2 (0))), (5, (AV.ref 3 (0))), (6, (AV.ref 4 (0))), (7, (AV.ref 5 (0))), (8, (AV.ref 6 (0))), (30, (AV.clo 99 [(AV.ref 8001 (0)), (AV.ref 8002 (0))]))] tmps)), (9004, (pinL l D)), (2, (AO.var 24 [(AV.lit (.int .i64 (m.mod))), (AV.sl 1 (is .i64 (m.mul))), (AV.sl 1 (is .i64 (m.add)))])), (3, (AO.var 3 [(AV.lit (.int .i64 (K)))])), (4, (AO.var 26 [(AV.lit (.slice none 0 0))])), (5, (AO.var 27 [(nm .i64 (0))])), (6, (AO.var 26 [(AV.row 707)])), (707, (AO.row 9 1 (strs (zs ++ [(iterZ m k (numS a))]))))], Wk.trans (Wk.sub (σ' := ⟨[], [(9005, (AO.pin [(.lit (.func (.yield l) #[] #[])), (AV.ref 8001 (0)), (AV.ref 8002 (0)), (nm .i64 (k))] us)), (9001, (AO.blk (.loop (lrec fn tmps _ _ _ D .busy none)))), (8001, (AO.var 89 [(bp ((iterZ m k (numS a)) < 0)), (AV.sl 1 (ns .u32 (digs ((iterZ m k (numS a))).natAbs)))])), (8002, (AO.var 24 [(AV.lit (.int .i64 (m.mod))), (AV.sl 1 (is .i64 (m.mul))), (AV.sl 1 (is .i64 (m.add)))])), (9002, (.blk (.deferred (some [])))), (9003, (pinA [(3, (AV.ref 2 (0))), (5, (AV.ref 3 (0))), (6, (AV.ref 4 (0))), (7, (AV.ref 5 (0))), (8, (AV.ref 6 (0))), (30, (AV.clo 99 [(AV.ref 8001 (0)), (AV.ref 8002 (0))]))] tmps)), (9004, (pinL l D)), (2, (AO.var 24 [(AV.lit (.int .i64 (m.mod))), (AV.sl 1 (is .i64 (m.mul))), (AV.sl 1 (is .i64 (m.add)))])), (3, (AO.var 3 [(AV.lit (.int .i64 (K)))])), (4, (AO.var 26 [(AV.lit (.slice none 0 0))])), (5, (AO.var 27 [(nm .i64 (0))])), (6, (AO.var 26 [(AV.row 103)])), (103, (AO.row 9 1 (strs (zs ++ [(iterZ m k (numS a))]))))]⟩) (trivial) (And.intro rfl (And.intro rfl (And.intro rfl (And.intro rfl (And.intro rfl (And.intro rfl (And.intro rfl (And.intro rfl (And.intro rfl (And.intro rfl (And.intro rfl (And.intro rfl (And.intro rfl (trivial))))))))))))))) (Wk.trans (Wk.ren (id := 103) (id' := 707) rfl) (Wk.sub (trivial) (And.intro (by first | rfl | exact row_ns (by simp) | exact congrArg (fun x => some (AO.blk (.stringIter _ x))) (by omega)) (And.intro (by first | rfl | exact row_ns (by simp) | exact congrArg (fun x => some (AO.blk (.stringIter _ x))) (by omega)) (And.intro (by first | rfl | exact row_ns (by simp) | exact congrArg (fun x => some (AO.blk (.stringIter _ x))) (by omega)) (And.intro (by first | rfl | exact row_ns (by simp) | exact congrArg (fun x => some (AO.blk (.stringIter _ x))) (by omega)) (And.intro (by first | rfl | exact row_ns (by simp) | exact congrArg (fun x => some (AO.blk (.stringIter _ x))) (by omega)) (And.intro (by first | rfl | exact row_ns (by simp) | exact congrArg (fun x => some (AO.blk (.stringIter _ x))) (by omega)) (And.intro (by first | rfl | exact row_ns (by simp) | exact congrArg (fun x => some (AO.blk (.stringIter _ x))) (by omega)) (And.intro (by first | rfl | exact row_ns (by simp) | exact congrArg (fun x => some (AO.blk (.stringIter _ x))) (by omega)) (And.intro (by first | rfl | exact row_ns (by simp) | exact congrArg (fun x => some (AO.blk (.stringIter _ x))) (by omega)) (And.intro (by first | rfl | exact row_ns (by simp) | exact congrArg (fun x => some (AO.blk (.stringIter _ x))) (by omega)) (And.intro (by first | rfl | exact row_ns (by simp) | exact congrArg (fun x => some (AO.blk (.stringIter _ x))) (by omega)) (And.intro (by first | rfl | exact row_ns (by simp) | exact congrArg (fun x => some (AO.blk (.stringIter _ x))) (by omega)) (And.intro (by first | rfl | exact row_ns (by simp) | exact congrArg (fun x => some (AO.blk (.stringIter _ x))) (by omega)) (trivial)))))))))))))))), rfl, rfl, _, rfl, zs ++ [(iterZ m k (numS a))], (by omega), (by simp [hl]), (by rw [← hr, show K.toNat - k = (K.toNat - (k + 1)) + 1 by omega, runZ, if_pos hF]; rfl), (by rw [← hv, show K.toNat - k = (K.toNat - (k + 1)) + 1 by omega, orbZ, if_pos hF]; simp [iterZ]), (by have := step_len hM (fit_len hF) (by decide); simp only [iterZ]; omega), rfl⟩
          case nx0 =>
            rintro fn tmps D l pe m' (⟨hbad, rfl, rfl⟩ | ⟨zs, hfit, hz, rfl, rfl⟩)
            · refine postT_ret ⟨[(AV.sl 1 (strs [])), (nm .i64 (3))], And.intro ⟨4, (AO.var 26 [(AV.lit (.slice none 0 0))]), rfl, rfl, rfl, Or.inr ⟨Wn_tS26, _, rfl, AV.le_nil' (by decide) (by first | rfl | simp [digs_zero, ns, is])⟩⟩ (And.intro ⟨5, (AO.var 27 [(nm .i64 (3))]), rfl, rfl, rfl, Or.inr ⟨Wn_tS27, _, rfl, AV.le_refl _⟩⟩ (trivial)), rfl, ?_⟩ rfl rfl
              refine tup_eq2 (by unfold orbS; rw [if_neg (fun h => hbad h.2.2.2.2)]) (by unfold orbE; rw [if_pos ⟨hm', ha'⟩, if_pos (by omega), if_neg hbad])
            · refine hK9 _ _ ?_
              refine awpT_seq fun K17 hK17 => ?_
              refine awpT_lift ?_
              refine awp_region rfl ?_
              refine o_loadS (AV.row 707) Gd.none Wn_tS26 rfl rfl rfl ?_
              refine o_store [(9002, (.blk (.deferred (some [])))), (9004, (pinL l D)), (2, (AO.var 24 [(AV.lit (.int .i64 (m.mod))), (AV.sl 1 (is .i64 (m.mul))), (AV.sl 1 (is .i64 (m.add)))])), (3, (AO.var 3 [(AV.lit (.int .i64 (K)))])), (4, (AO.var 26 [(AV.row 707)])), (5, (AO.var 27 [(nm .i64 (0))])), (6, (AO.var 26 [(AV.row 707)])), (707, (AO.row 9 1 (strs zs)))] Gd.none Wn_tZ26 rfl rfl rfl rfl rfl rfl ?_
              refine o_store [(9002, (.blk (.deferred (some [])))), (9004, (pinL l D)), (2, (AO.var 24 [(AV.lit (.int .i64 (m.mod))), (AV.sl 1 (is .i64 (m.mul))), (AV.sl 1 (is .i64 (m.add)))])), (3, (AO.var 3 [(AV.lit (.int .i64 (K)))])), (4, (AO.var 26 [(AV.row 707)])), (5, (AO.var 27 [(nm .i64 (0))])), (6, (AO.var 26 [(AV.row 707)])), (707, (AO.row 9 1 (strs zs)))] Gd.none Wn_tZ27 rfl rfl rfl rfl rfl rfl ?_
              refine aops_end ?_
              refine hK17 _ _ ?_
              refine awpT_lift ?_
              refine awp_wk (σ' := ⟨[(6, (AV.ref 4 (0))), (7, (AV.ref 5 (0)))], [(4, (AO.var 26 [(AV.row 707)])), (5, (AO.var 27 [(nm .i64 (0))])), (707, (AO.row 9 1 (strs zs))), (9002, (.blk (.deferred (some [])))), (9004, (pinL l D))]⟩) (Wk.sub (And.intro rfl (And.intro rfl (trivial))) (And.intro rfl (And.intro rfl (And.intro rfl (And.intro rfl (And.intro rfl (trivial))))))) ?_
              refine awp_wk (σ' := ⟨[(6, (AV.ref 4 (0))), (7, (AV.ref 5 (0)))], [(4, (AO.var 26 [(AV.sl 1 (strs zs))])), (5, (AO.var 27 [(nm .i64 (0))])), (9002, (.blk (.deferred (some [])))), (9004, (pinL l D))]⟩) (Wk.freeze (id := 707) (e := 9) (sz := 1) (cs := (strs zs)) rfl) ?_
              refine awp_ret ?_
              refine postT_ret ⟨[(AV.sl 1 (strs zs)), (nm .i64 (0))], And.intro ⟨4, (AO.var 26 [(AV.sl 1 (strs zs))]), rfl, rfl, rfl, Or.inr ⟨Wn_tS26, _, rfl, AV.le_refl _⟩⟩ (And.intro ⟨5, (AO.var 27 [(nm .i64 (0))]), rfl, rfl, rfl, Or.inr ⟨Wn_tS27, _, rfl, AV.le_refl _⟩⟩ (trivial)), rfl, ?_⟩ rfl rfl
              refine tup_eq2 (by unfold orbS; rw [if_pos ⟨hm', ha', by omega, by omega, hfit⟩, hz]) (by unfold orbE; rw [if_pos ⟨hm', ha'⟩, if_pos (by omega), if_pos hfit])

theorem c_sRun (m : MapM) (a : ByteArray) (K : Int) (hsz : a.size ≤ 9223372036854775807) : ECalls cx 36 [(mapV m), (AV.lit (.string (a))), (AV.lit (.int .i64 (K)))] (.tup [.lit (.string (runS m a K)), nm .i64 (runE m a K)]) := by
  refine ecalls_of_awpT Tryd.func36 (c := _) rfl (Nat.le_of_ble_eq_true rfl) ?_
  show awpT cx 41 [] _ (postT cx Tryd.f36 _) ⟨[(0, (mapV m)), (1, (AV.lit (.string (a)))), (2, (AV.lit (.int .i64 (K))))], []⟩
  refine awpT_seq fun K0 hK0 => ?_
  refine awpT_lift ?_
  refine awp_region rfl ?_
  refine o_box 2 [(AV.lit (.int .i64 (m.mod))), (AV.sl 1 (is .i64 (m.mul))), (AV.sl 1 (is .i64 (m.add)))] Gd.none rfl rfl ?_
  refine o_box 3 [(AV.lit (.int .i64 (K)))] Gd.none rfl rfl ?_
  refine o_alloc 4 [(AV.lit (.string (({data := #[]} : ByteArray))))] Gd.none Wn_tO9 rfl rfl rfl ?_
  refine o_alloc 5 [(nm .i64 (0))] Gd.none Wn_tO27 rfl rfl rfl ?_
  refine aops_end ?_
  refine hK0 _ _ ?_
  refine awpT_seq fun K1 hK1 => ?_
  refine awpT_lift ?_
  refine awp_block ?_
  refine awp_seq fun K2 hK2 => ?_
  refine awp_region rfl ?_
  refine o_loadA [(AV.lit (.int .i64 (m.mod))), (AV.sl 1 (is .i64 (m.mul))), (AV.sl 1 (is .i64 (m.add)))] Gd.none Wn_tA24 rfl rfl rfl rfl rfl ?_
  refine o_call [(AV.agg [(AV.lit (.int .i64 (m.mod))), (AV.sl 1 (is .i64 (m.mul))), (AV.sl 1 (is .i64 (m.add)))])] (AV.lit (.bool (okM m))) Gd.none Wn_tC39 rfl (c_sValid m) ?_
  refine o_not (b := okM m) Gd.none rfl ?_
  refine o_move (AV.lit (.bool (!(okM m)))) Gd.none rfl ?_
  refine o_split (b := !(okM m)) 14 rfl (fun h1 => ?_) (fun h1 => ?_)
  · have hm' : okM m = false := by simpa using h1
    refine o_skip (b := !(okM m)) rfl rfl h1 ?_
    refine o_skip (b := !(okM m)) rfl rfl h1 ?_
    refine o_skip (b := !(okM m)) rfl rfl h1 ?_
    refine o_pickT (b := !(okM m)) (AV.lit (.bool true)) Gd.none rfl h1 rfl ?_
    refine o_assign (AV.lit (.bool true)) Gd.none rfl ?_
    refine aops_end ?_
    refine hK2 _ ?_
    refine awp_condB (b := true) rfl (fun _ => ?_) (fun hh => absurd (hh.symm.trans rfl) (by decide))
    refine awp_seq fun K3 hK3 => ?_
    refine awp_region rfl ?_
    refine o_store [(5, (AO.var 27 [(nm .i64 (0))])), (4, (AO.var 9 [(AV.lit (.string (({data := #[]} : ByteArray))))])), (3, (AO.var 3 [(AV.lit (.int .i64 (K)))])), (2, (AO.var 24 [(AV.lit (.int .i64 (m.mod))), (AV.sl 1 (is .i64 (m.mul))), (AV.sl 1 (is .i64 (m.add)))]))] Gd.none Wn_tZ9 rfl rfl rfl rfl rfl rfl ?_
    refine o_store [(5, (AO.var 27 [(nm .i64 (1))])), (4, (AO.var 9 [(AV.lit (.string (({data := #[]} : ByteArray))))])), (3, (AO.var 3 [(AV.lit (.int .i64 (K)))])), (2, (AO.var 24 [(AV.lit (.int .i64 (m.mod))), (AV.sl 1 (is .i64 (m.mul))), (AV.sl 1 (is .i64 (m.add)))]))] Gd.none Wn_tZ27 rfl rfl rfl rfl rfl rfl ?_
    refine aops_end ?_
    refine hK3 _ ?_
    refine awp_ret ?_
    refine postT_ret0 ⟨[(AV.lit (.string (({data := #[]} : ByteArray)))), (nm .i64 (1))], And.intro ⟨4, (AO.var 9 [(AV.lit (.string (({data := #[]} : ByteArray))))]), rfl, rfl, rfl, Or.inr ⟨Wn_tS9, _, rfl, AV.le_refl _⟩⟩ (And.intro ⟨5, (AO.var 27 [(nm .i64 (1))]), rfl, rfl, rfl, Or.inr ⟨Wn_tS27, _, rfl, AV.le_refl _⟩⟩ (trivial)), rfl, ?_⟩
    refine tup_eq2 (by unfold runS; rw [if_neg (by simp [hm'])]) (by unfold runE; rw [if_neg (by simp [hm'])])
  · have hm' : okM m = true := by simpa using h1
    have hM := okM_iff.1 hm'
    refine o_move (AV.lit (.string (a))) (Gd.yes rfl rfl h1) rfl ?_
    refine o_call [(AV.lit (.string (a)))] (AV.lit (.bool (okS (a)))) (Gd.yes rfl rfl h1) Wn_tC65 rfl (c_nValid (a) (by first | assumption | omega)) ?_
    refine o_not (b := okS (a)) (Gd.yes rfl rfl h1) rfl ?_
    refine o_pickF (b := !(okM m)) (AV.lit (.bool (!(okS (a))))) Gd.none rfl h1 rfl ?_
    refine o_assign (AV.lit (.bool (!(okS (a))))) Gd.none rfl ?_
    refine aops_end ?_
    refine hK2 _ ?_
    refine awp_condB (b := !(okS (a))) rfl (fun h2 => ?_) (fun h2 => ?_)
    · have ha' : okS a = false := by simpa using h2
      refine awp_seq fun K4 hK4 => ?_
      refine awp_region rfl ?_
      refine o_store [(5, (AO.var 27 [(nm .i64 (0))])), (4, (AO.var 9 [(AV.lit (.string (({data := #[]} : ByteArray))))])), (3, (AO.var 3 [(AV.lit (.int .i64 (K)))])), (2, (AO.var 24 [(AV.lit (.int .i64 (m.mod))), (AV.sl 1 (is .i64 (m.mul))), (AV.sl 1 (is .i64 (m.add)))]))] Gd.none Wn_tZ9 rfl rfl rfl rfl rfl rfl ?_
      refine o_store [(5, (AO.var 27 [(nm .i64 (1))])), (4, (AO.var 9 [(AV.lit (.string (({data := #[]} : ByteArray))))])), (3, (AO.var 3 [(AV.lit (.int .i64 (K)))])), (2, (AO.var 24 [(AV.lit (.int .i64 (m.mod))), (AV.sl 1 (is .i64 (m.mul))), (AV.sl 1 (is .i64 (m.add)))]))] Gd.none Wn_tZ27 rfl rfl rfl rfl rfl rfl ?_
      refine aops_end ?_
      refine hK4 _ ?_
      refine awp_ret ?_
      refine postT_ret0 ⟨[(AV.lit (.string (({data := #[]} : ByteArray)))), (nm .i64 (1))], And.intro ⟨4, (AO.var 9 [(AV.lit (.string (({data := #[]} : ByteArray))))]), rfl, rfl, rfl, Or.inr ⟨Wn_tS9, _, rfl, AV.le_refl _⟩⟩ (And.intro ⟨5, (AO.var 27 [(nm .i64 (1))]), rfl, rfl, rfl, Or.inr ⟨Wn_tS27, _, rfl, AV.le_refl _⟩⟩ (trivial)), rfl, ?_⟩
      refine tup_eq2 (by unfold runS; rw [if_neg (by simp [ha'])]) (by unfold runE; rw [if_neg (by simp [ha'])])
    · have ha' : okS a = true := by simpa using h2
      have hlz := len_numS (okS_iff.1 ha')
      refine awp_seq fun K5 hK5 => ?_
      refine awp_region rfl ?_
      refine o_loadS (AV.lit (.int .i64 (K))) Gd.none Wn_tS3 rfl rfl rfl ?_
      refine o_lss (a := (K)) (c := (((0 : Nat) : Int))) Gd.none rfl rfl ?_
      refine o_move (bp ((K) < (((0 : Nat) : Int)))) Gd.none rfl ?_
      refine o_splitP (q := (K) < (((0 : Nat) : Int))) 22 rfl (fun h3 => ?_) (fun h3 => ?_)
      · refine o_skip (b := decide ((K) < (((0 : Nat) : Int)))) rfl rfl (decide_eq_true h3) ?_
        refine o_skip (b := decide ((K) < (((0 : Nat) : Int)))) rfl rfl (decide_eq_true h3) ?_
        refine o_pickT (b := decide ((K) < (((0 : Nat) : Int)))) (AV.lit (.bool true)) Gd.none rfl (decide_eq_true h3) rfl ?_
        refine o_assign (AV.lit (.bool true)) Gd.none rfl ?_
        refine aops_end ?_
        refine hK5 _ ?_
        refine awp_condB (b := true) rfl (fun _ => ?_) (fun hh => absurd (hh.symm.trans rfl) (by decide))
        refine awp_seq fun K6 hK6 => ?_
        refine awp_region rfl ?_
        refine o_store [(5, (AO.var 27 [(nm .i64 (0))])), (4, (AO.var 9 [(AV.lit (.string (({data := #[]} : ByteArray))))])), (3, (AO.var 3 [(AV.lit (.int .i64 (K)))])), (2, (AO.var 24 [(AV.lit (.int .i64 (m.mod))), (AV.sl 1 (is .i64 (m.mul))), (AV.sl 1 (is .i64 (m.add)))]))] Gd.none Wn_tZ9 rfl rfl rfl rfl rfl rfl ?_
        refine o_store [(5, (AO.var 27 [(nm .i64 (2))])), (4, (AO.var 9 [(AV.lit (.string (({data := #[]} : ByteArray))))])), (3, (AO.var 3 [(AV.lit (.int .i64 (K)))])), (2, (AO.var 24 [(AV.lit (.int .i64 (m.mod))), (AV.sl 1 (is .i64 (m.mul))), (AV.sl 1 (is .i64 (m.add)))]))] Gd.none Wn_tZ27 rfl rfl rfl rfl rfl rfl ?_
        refine aops_end ?_
        refine hK6 _ ?_
        refine awp_ret ?_
        refine postT_ret0 ⟨[(AV.lit (.string (({data := #[]} : ByteArray)))), (nm .i64 (2))], And.intro ⟨4, (AO.var 9 [(AV.lit (.string (({data := #[]} : ByteArray))))]), rfl, rfl, rfl, Or.inr ⟨Wn_tS9, _, rfl, AV.le_refl _⟩⟩ (And.intro ⟨5, (AO.var 27 [(nm .i64 (2))]), rfl, rfl, rfl, Or.inr ⟨Wn_tS27, _, rfl, AV.le_refl _⟩⟩ (trivial)), rfl, ?_⟩
        refine tup_eq2 (by unfold runS; rw [if_neg (by omega)]) (by unfold runE; rw [if_pos ⟨hm', ha'⟩, if_neg (by omega)])
      · refine o_loadS (AV.lit (.int .i64 (K))) (Gd.yes rfl rfl (decide_eq_false h3)) Wn_tS3 rfl rfl rfl ?_
        refine o_gtr (a := (K)) (c := (((20000 : Nat) : Int))) (Gd.yes rfl rfl (decide_eq_false h3)) rfl rfl ?_
        refine o_pickF (b := decide ((K) < (((0 : Nat) : Int)))) (bp ((((20000 : Nat) : Int)) < (K))) Gd.none rfl (decide_eq_false h3) rfl ?_
        refine o_assign (bp ((((20000 : Nat) : Int)) < (K))) Gd.none rfl ?_
        refine aops_end ?_
        refine hK5 _ ?_
        refine awp_condQ (q := (((20000 : Nat) : Int)) < (K)) rfl (fun h4 => ?_) (fun h4 => ?_)
        · refine awp_seq fun K7 hK7 => ?_
          refine awp_region rfl ?_
          refine o_store [(5, (AO.var 27 [(nm .i64 (0))])), (4, (AO.var 9 [(AV.lit (.string (({data := #[]} : ByteArray))))])), (3, (AO.var 3 [(AV.lit (.int .i64 (K)))])), (2, (AO.var 24 [(AV.lit (.int .i64 (m.mod))), (AV.sl 1 (is .i64 (m.mul))), (AV.sl 1 (is .i64 (m.add)))]))] Gd.none Wn_tZ9 rfl rfl rfl rfl rfl rfl ?_
          refine o_store [(5, (AO.var 27 [(nm .i64 (2))])), (4, (AO.var 9 [(AV.lit (.string (({data := #[]} : ByteArray))))])), (3, (AO.var 3 [(AV.lit (.int .i64 (K)))])), (2, (AO.var 24 [(AV.lit (.int .i64 (m.mod))), (AV.sl 1 (is .i64 (m.mul))), (AV.sl 1 (is .i64 (m.add)))]))] Gd.none Wn_tZ27 rfl rfl rfl rfl rfl rfl ?_
          refine aops_end ?_
          refine hK7 _ ?_
          refine awp_ret ?_
          refine postT_ret0 ⟨[(AV.lit (.string (({data := #[]} : ByteArray)))), (nm .i64 (2))], And.intro ⟨4, (AO.var 9 [(AV.lit (.string (({data := #[]} : ByteArray))))]), rfl, rfl, rfl, Or.inr ⟨Wn_tS9, _, rfl, AV.le_refl _⟩⟩ (And.intro ⟨5, (AO.var 27 [(nm .i64 (2))]), rfl, rfl, rfl, Or.inr ⟨Wn_tS27, _, rfl, AV.le_refl _⟩⟩ (trivial)), rfl, ?_⟩
          refine tup_eq2 (by unfold runS; rw [if_neg (by omega)]) (by unfold runE; rw [if_pos ⟨hm', ha'⟩, if_neg (by omega)])
        · refine awp_skip ?_
          refine hK1 _ _ ?_
          refine awpT_seq fun K8 hK8 => ?_
          refine awpT_seq fun K9 hK9 => ?_
          refine awpT_lift ?_
          refine awp_regionD rfl ?_
          refine o_loadA [(AV.lit (.int .i64 (m.mod))), (AV.sl 1 (is .i64 (m.mul))), (AV.sl 1 (is .i64 (m.add)))] Gd.none Wn_tA24 rfl rfl rfl rfl rfl ?_
          refine o_move (AV.lit (.string (a))) Gd.none rfl ?_
          refine o_call [(AV.lit (.string (a)))] (intW ((numS (a)))) Gd.none Wn_tC69 rfl (c_wParse (a) (by first | assumption | exact okS_iff.1 (by assumption))) ?_
          refine o_callW 8001 8002 [(AV.agg [(AV.lit (.int .i64 (m.mod))), (AV.sl 1 (is .i64 (m.mul))), (AV.sl 1 (is .i64 (m.add)))]), (intW ((numS (a))))] Gd.none Wn_tC68 rfl rfl rfl rfl (c_sWalk m (numS (a))) rfl rfl ?_
          refine aops_end ⟨by kernel_rfl, ?_⟩
          refine hK9 _ _ ?_
          refine awpT_block ?_
          refine awpT_wk (σ' := ⟨[(5, (AV.ref 3 (0))), (6, (AV.ref 4 (0))), (7, (AV.ref 5 (0))), (29, (AV.clo 99 [(AV.ref 8001 (0)), (AV.ref 8002 (0))]))], [(8001, (AO.var 89 [(bp ((numS (a)) < 0)), (AV.sl 1 (ns .u32 (digs ((numS (a))).natAbs)))])), (8002, (AO.var 24 [(AV.lit (.int .i64 (m.mod))), (AV.sl 1 (is .i64 (m.mul))), (AV.sl 1 (is .i64 (m.add)))])), (3, (AO.var 3 [(AV.lit (.int .i64 (K)))])), (4, (AO.var 9 [(AV.lit (.string (({data := #[]} : ByteArray))))])), (5, (AO.var 27 [(nm .i64 (0))]))]⟩) (Wk.sub (And.intro rfl (And.intro rfl (And.intro rfl (And.intro rfl (trivial))))) (And.intro rfl (And.intro rfl (And.intro rfl (And.intro rfl (And.intro rfl (trivial))))))) ?_
          refine awpT_range (C := cx) rfl (gf := 99) (fnI := Tryd.f99) (caps := [.ref 8001 0, .ref 8002 0]) (so := [(5, (AV.ref 3 (0))), (6, (AV.ref 4 (0))), (7, (AV.ref 5 (0))), (29, (AV.clo 99 [(AV.ref 8001 (0)), (AV.ref 8002 (0))]))]) (And.intro rfl (And.intro rfl (And.intro rfl (And.intro rfl (trivial))))) Tryd.func99 rfl Wn_tC99 (by decide) rfl rfl rfl rfl rfl (fun (fn : FuncId) (tmps : Array Value) (D l : Nat) (pe : Option Code) (m' : List (Nat × AO)) => ((¬ Fit (runZ m K.toNat (numS a))) ∧ pe = some .ret ∧ m' = [(4, (AO.var 9 [(AV.lit (.string (({ data := #[] } : ByteArray))))])), (5, (AO.var 27 [(nm .i64 (3))]))]) ∨ ((Fit (runZ m K.toNat (numS a))) ∧ pe = some .ret ∧ m' = [(4, (AO.var 9 [(AV.lit (.string (txt (runZ m K.toNat (numS a)))))])), (5, (AO.var 27 [(nm .i64 (0))]))])) ?it0 ?nx0
          case it0 =>
            intro fn tmps D l hsz
            refine awp_mono (it_Walk m (numS a) hM l D fn tmps _ _ _ (20000) (fun (k : Nat) (mm : List (Nat × AO)) => ((k : Int) ≤ K) ∧ (runZ m (K.toNat - k) (iterZ m k (numS a)) = runZ m K.toNat (numS a)) ∧ ((digs (iterZ m k (numS a)).natAbs).length ≤ 1000000) ∧ mm = (((9002, (.blk (.deferred (some [])))) :: (9003, (pinA [(5, (AV.ref 3 (0))), (6, (AV.ref 4 (0))), (7, (AV.ref 5 (0))), (29, (AV.clo 99 [(AV.ref 8001 (0)), (AV.ref 8002 (0))]))] tmps)) :: (9004, (pinL l D)) :: (3, (AO.var 3 [(AV.lit (.int .i64 (K)))])) :: (4, (AO.var 9 [(AV.lit (.string (({data := #[]} : ByteArray))))])) :: (5, (AO.var 27 [(nm .i64 (0))])) :: []))) (fun c mm => ∃ m2, mm = (((9002, (.blk (.deferred (some [])))) :: (9003, (pinA [(5, (AV.ref 3 (0))), (6, (AV.ref 4 (0))), (7, (AV.ref 5 (0))), (29, (AV.clo 99 [(AV.ref 8001 (0)), (AV.ref 8002 (0))]))] tmps)) :: (9004, (pinL l D)) :: m2)) ∧ (fun (fn : FuncId) (tmps : Array Value) (D l : Nat) (pe : Option Code) (m' : List (Nat × AO)) => ((¬ Fit (runZ m K.toNat (numS a))) ∧ pe = some .ret ∧ m' = [(4, (AO.var 9 [(AV.lit (.string (({ data := #[] } : ByteArray))))])), (5, (AO.var 27 [(nm .i64 (3))]))]) ∨ ((Fit (runZ m K.toNat (numS a))) ∧ pe = some .ret ∧ m' = [(4, (AO.var 9 [(AV.lit (.string (txt (runZ m K.toNat (numS a)))))])), (5, (AO.var 27 [(nm .i64 (0))]))])) fn tmps D l (some c) m2) ?R0 ⟨(by omega), rfl, (by have := hlz; simp only [iterZ]; omega), rfl⟩ (Wk.sub (And.intro rfl (And.intro rfl (And.intro rfl (trivial)))) (And.intro rfl (And.intro rfl (And.intro rfl (And.intro rfl (And.intro rfl (And.intro rfl (And.intro rfl (And.intro rfl (And.intro rfl (trivial))))))))))) (by omega) rfl) ?fin0
            case fin0 =>
              rintro e σ ⟨rfl, c, mm', ⟨m2, rfl, hX⟩, hwk⟩
              exact ⟨.inl rfl, .done, some c, m2, (by decide), hX, (by rcases hX with ⟨_, _, rfl⟩ | ⟨_, _, rfl⟩ <;> rfl), (by rcases hX with ⟨_, _, rfl⟩ | ⟨_, _, rfl⟩ <;> rfl), hwk⟩
            case R0 =>
              rintro k _ ⟨hk, hr, hln, rfl⟩
              refine ⟨(by omega), hln, yldAt_of_round (so := [(5, (AV.ref 3 (0))), (6, (AV.ref 4 (0))), (7, (AV.ref 5 (0))), (29, (AV.clo 99 [(AV.ref 8001 (0)), (AV.ref 8002 (0))]))]) (n := 41) (D' := D) rfl hsz (by decide) rfl rfl rfl rfl rfl rfl fun us => ?_⟩
              show awp cx 41 _ _ ⟨[(31, (AV.agg [(bp ((iterZ m k (numS a)) < 0)), (AV.sl 1 (ns .u32 (digs ((iterZ m k (numS a))).natAbs)))])), (30, (nm .i64 (k))), (5, (AV.ref 3 (0))), (6, (AV.ref 4 (0))), (7, (AV.ref 5 (0))), (29, (AV.clo 99 [(AV.ref 8001 (0)), (AV.ref 8002 (0))]))], [(9005, (AO.pin [(.lit (.func (.yield l) #[] #[])), (AV.ref 8001 (0)), (AV.ref 8002 (0)), (nm .i64 (k))] us)), (9001, (AO.blk (.loop (lrec fn tmps _ _ _ D .ready none)))), (8001, (AO.var 89 [(bp ((iterZ m k (numS a)) < 0)), (AV.sl 1 (ns .u32 (digs ((iterZ m k (numS a))).natAbs)))])), (8002, (AO.var 24 [(AV.lit (.int .i64 (m.mod))), (AV.sl 1 (is .i64 (m.mul))), (AV.sl 1 (is .i64 (m.add)))])), (9002, (.blk (.deferred (some [])))), (9003, (pinA [(5, (AV.ref 3 (0))), (6, (AV.ref 4 (0))), (7, (AV.ref 5 (0))), (29, (AV.clo 99 [(AV.ref 8001 (0)), (AV.ref 8002 (0))]))] tmps)), (9004, (pinL l D)), (3, (AO.var 3 [(AV.lit (.int .i64 (K)))])), (4, (AO.var 9 [(AV.lit (.string (({data := #[]} : ByteArray))))])), (5, (AO.var 27 [(nm .i64 (0))]))]⟩
              refine awp_seq fun K10 hK10 => ?_
              refine awp_region rfl ?_
              refine o_assign (nm .i64 (k)) Gd.none rfl ?_
              refine aops_end ?_
              refine hK10 _ ?_
              refine awp_region rfl ?_
              refine o_alloc 101 [(AV.lit (.bool false)), (AV.lit (.slice none 0 0))] Gd.none Wn_tO89 rfl rfl rfl ?_
              refine o_store [(101, (AO.var 89 [(bp ((iterZ m k (numS a)) < 0)), (AV.sl 1 (ns .u32 (digs ((iterZ m k (numS a))).natAbs)))])), (9005, (AO.pin [(.lit (.func (.yield l) #[] #[])), (AV.ref 8001 (0)), (AV.ref 8002 (0)), (nm .i64 (k))] us)), (9001, (AO.blk (.loop (lrec fn tmps _ _ _ D .ready none)))), (8001, (AO.var 89 [(bp ((iterZ m k (numS a)) < 0)), (AV.sl 1 (ns .u32 (digs ((iterZ m k (numS a))).natAbs)))])), (8002, (AO.var 24 [(AV.lit (.int .i64 (m.mod))), (AV.sl 1 (is .i64 (m.mul))), (AV.sl 1 (is .i64 (m.add)))])), (9002, (.blk (.deferred (some [])))), (9003, (pinA [(5, (AV.ref 3 (0))), (6, (AV.ref 4 (0))), (7, (AV.ref 5 (0))), (29, (AV.clo 99 [(AV.ref 8001 (0)), (AV.ref 8002 (0))]))] tmps)), (9004, (pinL l D)), (3, (AO.var 3 [(AV.lit (.int .i64 (K)))])), (4, (AO.var 9 [(AV.lit (.string (({data := #[]} : ByteArray))))])), (5, (AO.var 27 [(nm .i64 (0))]))] Gd.none Wn_tZ89 rfl rfl rfl rfl rfl rfl ?_
              refine aops_end ?_
              refine ⟨[(31, (AV.agg [(bp ((iterZ m k (numS a)) < 0)), (AV.sl 1 (ns .u32 (digs ((iterZ m k (numS a))).natAbs)))])), (30, (nm .i64 (k))), (5, (AV.ref 3 (0))), (6, (AV.ref 4 (0))), (7, (AV.ref 5 (0))), (29, (AV.clo 99 [(AV.ref 8001 (0)), (AV.ref 8002 (0))])), (8, (nm .i64 (k))), (9, (AV.ref 101 (0)))], [(101, (AO.var 89 [(bp ((iterZ m k (numS a)) < 0)), (AV.sl 1 (ns .u32 (digs ((iterZ m k (numS a))).natAbs)))])), (9005, (AO.pin [(.lit (.func (.yield l) #[] #[])), (AV.ref 8001 (0)), (AV.ref 8002 (0)), (nm .i64 (k))] us)), (8001, (AO.var 89 [(bp ((iterZ m k (numS a)) < 0)), (AV.sl 1 (ns .u32 (digs ((iterZ m k (numS a))).natAbs)))])), (8002, (AO.var 24 [(AV.lit (.int .i64 (m.mod))), (AV.sl 1 (is .i64 (m.mul))), (AV.sl 1 (is .i64 (m.add)))])), (9002, (.blk (.deferred (some [])))), (9003, (pinA [(5, (AV.ref 3 (0))), (6, (AV.ref 4 (0))), (7, (AV.ref 5 (0))), (29, (AV.clo 99 [(AV.ref 8001 (0)), (AV.ref 8002 (0))]))] tmps)), (9004, (pinL l D)), (3, (AO.var 3 [(AV.lit (.int .i64 (K)))])), (4, (AO.var 9 [(AV.lit (.string (({data := #[]} : ByteArray))))])), (5, (AO.var 27 [(nm .i64 (0))]))], Wk.sub (And.intro rfl (And.intro rfl (And.intro rfl (And.intro rfl (And.intro rfl (And.intro rfl (And.intro rfl (And.intro rfl (trivial))))))))) (And.intro rfl (And.intro rfl (And.intro rfl (And.intro rfl (And.intro rfl (And.intro rfl (And.intro rfl (And.intro rfl (And.intro rfl (And.intro rfl (And.intro rfl (trivial)))))))))))), rfl, ?_⟩
              refine awp_block ?_
              refine awp_block ?_
              refine awp_seq fun K11 hK11 => ?_
              refine awp_region rfl ?_
              refine o_loadA [(bp ((iterZ m k (numS a)) < 0)), (AV.sl 1 (ns .u32 (digs ((iterZ m k (numS a))).natAbs)))] Gd.none Wn_tA89 rfl rfl rfl rfl rfl ?_
              refine o_call [(AV.agg [(bp ((iterZ m k (numS a)) < 0)), (AV.sl 1 (ns .u32 (digs ((iterZ m k (numS a))).natAbs)))])] (bp (¬ Fit ((iterZ m k (numS a))))) Gd.none Wn_tC70 rfl (c_sLong ((iterZ m k (numS a))) (by first | assumption | omega | (simp only [Int.natAbs_neg]; omega))) ?_
              refine o_assign (bp (¬ Fit ((iterZ m k (numS a))))) Gd.none rfl ?_
              refine aops_end ?_
              refine hK11 _ ?_
              refine awp_condQ (q := ¬ Fit ((iterZ m k (numS a)))) rfl (fun h5 => ?_) (fun h5 => ?_)
              · refine awp_seq fun K12 hK12 => ?_
                refine awp_region rfl ?_
                refine o_store [(9001, (AO.blk (.loop (lrec fn tmps _ _ _ D .busy none)))), (101, (AO.var 89 [(bp ((iterZ m k (numS a)) < 0)), (AV.sl 1 (ns .u32 (digs ((iterZ m k (numS a))).natAbs)))])), (9005, (AO.pin [(.lit (.func (.yield l) #[] #[])), (AV.ref 8001 (0)), (AV.ref 8002 (0)), (nm .i64 (k))] us)), (8001, (AO.var 89 [(bp ((iterZ m k (numS a)) < 0)), (AV.sl 1 (ns .u32 (digs ((iterZ m k (numS a))).natAbs)))])), (8002, (AO.var 24 [(AV.lit (.int .i64 (m.mod))), (AV.sl 1 (is .i64 (m.mul))), (AV.sl 1 (is .i64 (m.add)))])), (9002, (.blk (.deferred (some [])))), (9003, (pinA [(5, (AV.ref 3 (0))), (6, (AV.ref 4 (0))), (7, (AV.ref 5 (0))), (29, (AV.clo 99 [(AV.ref 8001 (0)), (AV.ref 8002 (0))]))] tmps)), (9004, (pinL l D)), (3, (AO.var 3 [(AV.lit (.int .i64 (K)))])), (4, (AO.var 9 [(AV.lit (.string (({data := #[]} : ByteArray))))])), (5, (AO.var 27 [(nm .i64 (0))]))] Gd.none Wn_tZ9 rfl rfl rfl rfl rfl rfl ?_
                refine o_store [(9001, (AO.blk (.loop (lrec fn tmps _ _ _ D .busy none)))), (101, (AO.var 89 [(bp ((iterZ m k (numS a)) < 0)), (AV.sl 1 (ns .u32 (digs ((iterZ m k (numS a))).natAbs)))])), (9005, (AO.pin [(.lit (.func (.yield l) #[] #[])), (AV.ref 8001 (0)), (AV.ref 8002 (0)), (nm .i64 (k))] us)), (8001, (AO.var 89 [(bp ((iterZ m k (numS a)) < 0)), (AV.sl 1 (ns .u32 (digs ((iterZ m k (numS a))).natAbs)))])), (8002, (AO.var 24 [(AV.lit (.int .i64 (m.mod))), (AV.sl 1 (is .i64 (m.mul))), (AV.sl 1 (is .i64 (m.add)))])), (9002, (.blk (.deferred (some [])))), (9003, (pinA [(5, (AV.ref 3 (0))), (6, (AV.ref 4 (0))), (7, (AV.ref 5 (0))), (29, (AV.clo 99 [(AV.ref 8001 (0)), (AV.ref 8002 (0))]))] tmps)), (9004, (pinL l D)), (3, (AO.var 3 [(AV.lit (.int .i64 (K)))])), (4, (AO.var 9 [(AV.lit (.string (({data := #[]} : ByteArray))))])), (5, (AO.var 27 [(nm .i64 (3))]))] Gd.none Wn_tZ27 rfl rfl rfl rfl rfl rfl ?_
                refine aops_end ?_
                refine hK12 _ ?_
                refine awp_ret ?_
                exact ⟨[(9002, (.blk (.deferred (some [])))), (9003, (pinA [(5, (AV.ref 3 (0))), (6, (AV.ref 4 (0))), (7, (AV.ref 5 (0))), (29, (AV.clo 99 [(AV.ref 8001 (0)), (AV.ref 8002 (0))]))] tmps)), (9004, (pinL l D)), (4, (AO.var 9 [(AV.lit (.string (({ data := #[] } : ByteArray))))])), (5, (AO.var 27 [(nm .i64 (3))]))], Wk.sub (trivial) (And.intro (by first | rfl | exact row_ns (by simp) | exact congrArg (fun x => some (AO.blk (.stringIter _ x))) (by omega) | (rw [← hz]; first | done | rfl)) (And.intro (by first | rfl | exact row_ns (by simp) | exact congrArg (fun x => some (AO.blk (.stringIter _ x))) (by omega) | (rw [← hz]; first | done | rfl)) (And.intro (by first | rfl | exact row_ns (by simp) | exact congrArg (fun x => some (AO.blk (.stringIter _ x))) (by omega) | (rw [← hz]; first | done | rfl)) (And.intro (by first | rfl | exact row_ns (by simp) | exact congrArg (fun x => some (AO.blk (.stringIter _ x))) (by omega) | (rw [← hz]; first | done | rfl)) (And.intro (by first | rfl | exact row_ns (by simp) | exact congrArg (fun x => some (AO.blk (.stringIter _ x))) (by omega) | (rw [← hz]; first | done | rfl)) (And.intro (by first | rfl | exact row_ns (by simp) | exact congrArg (fun x => some (AO.blk (.stringIter _ x))) (by omega) | (rw [← hz]; first | done | rfl)) (And.intro (by first | rfl | exact row_ns (by simp) | exact congrArg (fun x => some (AO.blk (.stringIter _ x))) (by omega) | (rw [← hz]; first | done | rfl)) (trivial)))))))), rfl, rfl, _, rfl, .inl ⟨(by rw [← hr, runZ_bad h5]; exact h5), rfl, rfl⟩⟩
              · have hF : Fit (iterZ m k (numS a)) := Decidable.not_not.1 h5
                refine awp_seq fun K13 hK13 => ?_
                refine awp_region rfl ?_
                refine o_move (nm .i64 (k)) Gd.none rfl ?_
                refine o_loadS (AV.lit (.int .i64 (K))) Gd.none Wn_tS3 rfl rfl rfl ?_
                refine o_eql (a := (((k : Nat) : Int))) (c := (K)) Gd.none rfl rfl ?_
                refine o_assign (bp ((((k : Nat) : Int)) = (K))) Gd.none rfl ?_
                refine aops_end ?_
                refine hK13 _ ?_
                refine awp_condQ (q := (((k : Nat) : Int)) = (K)) rfl (fun h6 => ?_) (fun h6 => ?_)
                · have hz : (iterZ m k (numS a)) = runZ m K.toNat (numS a) := by rw [← hr, show K.toNat - k = 0 by omega]; rfl
                  have hfz : Fit (runZ m K.toNat (numS a)) := by rw [← hz]; exact hF
                  refine awp_seq fun K14 hK14 => ?_
                  refine awp_region rfl ?_
                  refine o_loadA [(bp ((iterZ m k (numS a)) < 0)), (AV.sl 1 (ns .u32 (digs ((iterZ m k (numS a))).natAbs)))] Gd.none Wn_tA89 rfl rfl rfl rfl rfl ?_
                  refine o_call [(AV.agg [(bp ((iterZ m k (numS a)) < 0)), (AV.sl 1 (ns .u32 (digs ((iterZ m k (numS a))).natAbs)))])] (AV.lit (.string (txt ((iterZ m k (numS a)))))) Gd.none Wn_tC71 rfl (c_wText ((iterZ m k (numS a))) (by first | assumption | omega | (simp only [Int.natAbs_neg]; omega))) ?_
                  refine o_store [(9001, (AO.blk (.loop (lrec fn tmps _ _ _ D .busy none)))), (101, (AO.var 89 [(bp ((iterZ m k (numS a)) < 0)), (AV.sl 1 (ns .u32 (digs ((iterZ m k (numS a))).natAbs)))])), (9005, (AO.pin [(.lit (.func (.yield l) #[] #[])), (AV.ref 8001 (0)), (AV.ref 8002 (0)), (nm .i64 (k))] us)), (8001, (AO.var 89 [(bp ((iterZ m k (numS a)) < 0)), (AV.sl 1 (ns .u32 (digs ((iterZ m k (numS a))).natAbs)))])), (8002, (AO.var 24 [(AV.lit (.int .i64 (m.mod))), (AV.sl 1 (is .i64 (m.mul))), (AV.sl 1 (is .i64 (m.add)))])), (9002, (.blk (.deferred (some [])))), (9003, (pinA [(5, (AV.ref 3 (0))), (6, (AV.ref 4 (0))), (7, (AV.ref 5 (0))), (29, (AV.clo 99 [(AV.ref 8001 (0)), (AV.ref 8002 (0))]))] tmps)), (9004, (pinL l D)), (3, (AO.var 3 [(AV.lit (.int .i64 (K)))])), (4, (AO.var 9 [(AV.lit (.string (txt ((iterZ m k (numS a))))))])), (5, (AO.var 27 [(nm .i64 (0))]))] Gd.none Wn_tZ9 rfl rfl rfl rfl rfl rfl ?_
                  refine o_store [(9001, (AO.blk (.loop (lrec fn tmps _ _ _ D .busy none)))), (101, (AO.var 89 [(bp ((iterZ m k (numS a)) < 0)), (AV.sl 1 (ns .u32 (digs ((iterZ m k (numS a))).natAbs)))])), (9005, (AO.pin [(.lit (.func (.yield l) #[] #[])), (AV.ref 8001 (0)), (AV.ref 8002 (0)), (nm .i64 (k))] us)), (8001, (AO.var 89 [(bp ((iterZ m k (numS a)) < 0)), (AV.sl 1 (ns .u32 (digs ((iterZ m k (numS a))).natAbs)))])), (8002, (AO.var 24 [(AV.lit (.int .i64 (m.mod))), (AV.sl 1 (is .i64 (m.mul))), (AV.sl 1 (is .i64 (m.add)))])), (9002, (.blk (.deferred (some [])))), (9003, (pinA [(5, (AV.ref 3 (0))), (6, (AV.ref 4 (0))), (7, (AV.ref 5 (0))), (29, (AV.clo 99 [(AV.ref 8001 (0)), (AV.ref 8002 (0))]))] tmps)), (9004, (pinL l D)), (3, (AO.var 3 [(AV.lit (.int .i64 (K)))])), (4, (AO.var 9 [(AV.lit (.string (txt ((iterZ m k (numS a))))))])), (5, (AO.var 27 [(nm .i64 (0))]))] Gd.none Wn_tZ27 rfl rfl rfl rfl rfl rfl ?_
                  refine aops_end ?_
                  refine hK14 _ ?_
                  refine awp_ret ?_
                  exact ⟨[(9002, (.blk (.deferred (some [])))), (9003, (pinA [(5, (AV.ref 3 (0))), (6, (AV.ref 4 (0))), (7, (AV.ref 5 (0))), (29, (AV.clo 99 [(AV.ref 8001 (0)), (AV.ref 8002 (0))]))] tmps)), (9004, (pinL l D)), (4, (AO.var 9 [(AV.lit (.string (txt (runZ m K.toNat (numS a)))))])), (5, (AO.var 27 [(nm .i64 (0))]))], Wk.sub (trivial) (And.intro (by first | rfl | exact row_ns (by simp) | exact congrArg (fun x => some (AO.blk (.stringIter _ x))) (by omega) | (rw [← hz]; first | done | rfl)) (And.intro (by first | rfl | exact row_ns (by simp) | exact congrArg (fun x => some (AO.blk (.stringIter _ x))) (by omega) | (rw [← hz]; first | done | rfl)) (And.intro (by first | rfl | exact row_ns (by simp) | exact congrArg (fun x => some (AO.blk (.stringIter _ x))) (by omega) | (rw [← hz]; first | done | rfl)) (And.intro (by first | rfl | exact row_ns (by simp) | exact congrArg (fun x => some (AO.blk (.stringIter _ x))) (by omega) | (rw [← hz]; first | done | rfl)) (And.intro (by first | rfl | exact row_ns (by simp) | exact congrArg (fun x => some (AO.blk (.stringIter _ x))) (by omega) | (rw [← hz]; first | done | rfl)) (And.intro (by first | rfl | exact row_ns (by simp) | exact congrArg (fun x => some (AO.blk (.stringIter _ x))) (by omega) | (rw [← hz]; first | done | rfl)) (And.intro (by first | rfl | exact row_ns (by simp) | exact congrArg (fun x => some (AO.blk (.stringIter _ x))) (by omega) | (rw [← hz]; first | done | rfl)) (trivial)))))))), rfl, rfl, _, rfl, .inr (⟨hfz, rfl, rfl⟩)⟩
                · refine awp_skip ?_
                  exact ⟨[(8001, (AO.var 89 [(bp ((iterZ m k (numS a)) < 0)), (AV.sl 1 (ns .u32 (digs ((iterZ m k (numS a))).natAbs)))])), (8002, (AO.var 24 [(AV.lit (.int .i64 (m.mod))), (AV.sl 1 (is .i64 (m.mul))), (AV.sl 1 (is .i64 (m.add)))])), (9002, (.blk (.deferred (some [])))), (9003, (pinA [(5, (AV.ref 3 (0))), (6, (AV.ref 4 (0))), (7, (AV.ref 5 (0))), (29, (AV.clo 99 [(AV.ref 8001 (0)), (AV.ref 8002 (0))]))] tmps)), (9004, (pinL l D)), (3, (AO.var 3 [(AV.lit (.int .i64 (K)))])), (4, (AO.var 9 [(AV.lit (.string (({data := #[]} : ByteArray))))])), (5, (AO.var 27 [(nm .i64 (0))]))], Wk.sub (trivial) (And.intro (by first | rfl | exact row_ns (by simp) | exact congrArg (fun x => some (AO.blk (.stringIter _ x))) (by omega) | (rw [← hz]; first | done | rfl)) (And.intro (by first | rfl | exact row_ns (by simp) | exact congrArg (fun x => some (AO.blk (.stringIter _ x))) (by omega) | (rw [← hz]; first | done | rfl)) (And.intro (by first | rfl | exact row_ns (by simp) | exact congrArg (fun x => some (AO.blk (.stringIter _ x))) (by omega) | (rw [← hz]; first | done | rfl)) (And.intro (by first | rfl | exact row_ns (by simp) | exact congrArg (fun x => some (AO.blk (.stringIter _ x))) (by omega) | (rw [← hz]; first | done | rfl)) (And.intro (by first | rfl | exact row_ns (by simp) | exact congrArg (fun x => some (AO.blk (.stringIter _ x))) (by omega) | (rw [← hz]; first | done | rfl)) (And.intro (by first | rfl | exact row_ns (by simp) | exact congrArg (fun x => some (AO.blk (.stringIter _ x))) (by omega) | (rw [← hz]; first | done | rfl)) (And.intro (by first | rfl | exact row_ns (by simp) | exact congrArg (fun x => some (AO.blk (.stringIter _ x))) (by omega) | (rw [← hz]; first | done | rfl)) (And.intro (by first | rfl | exact row_ns (by simp) | exact congrArg (fun x => some (AO.blk (.stringIter _ x))) (by omega) | (rw [← hz]; first | done | rfl)) (And.intro (by first | rfl | exact row_ns (by simp) | exact congrArg (fun x => some (AO.blk (.stringIter _ x))) (by omega) | (rw [← hz]; first | done | rfl)) (And.intro (by first | rfl | exact row_ns (by simp) | exact congrArg (fun x => some (AO.blk (.stringIter _ x))) (by omega) | (rw [← hz]; first | done | rfl)) (trivial))))))))))), rfl, rfl, _, rfl, (by omega), (by rw [← hr, show K.toNat - k = (K.toNat - (k + 1)) + 1 by omega, runZ, if_pos hF]; rfl), (by have := step_len hM (fit_len hF) (by decide); simp only [iterZ]; omega), rfl⟩
          case nx0 =>
            rintro fn tmps D l pe m' (⟨hbad, rfl, rfl⟩ | ⟨hfit, rfl, rfl⟩)
            · refine postT_ret ⟨[(AV.lit (.string (({ data := #[] } : ByteArray)))), (nm .i64 (3))], And.intro ⟨4, (AO.var 9 [(AV.lit (.string (({ data := #[] } : ByteArray))))]), rfl, rfl, rfl, Or.inr ⟨Wn_tS9, _, rfl, AV.le_refl _⟩⟩ (And.intro ⟨5, (AO.var 27 [(nm .i64 (3))]), rfl, rfl, rfl, Or.inr ⟨Wn_tS27, _, rfl, AV.le_refl _⟩⟩ (trivial)), rfl, ?_⟩ rfl rfl
              refine tup_eq2 (by unfold runS; rw [if_pos ⟨hm', ha', by omega, by omega⟩, toldS, if_neg hbad]) (by unfold runE; rw [if_pos ⟨hm', ha'⟩, if_pos (by omega), toldE, if_neg hbad])
            · refine postT_ret ⟨[(AV.lit (.string (txt (runZ m K.toNat (numS a))))), (nm .i64 (0))], And.intro ⟨4, (AO.var 9 [(AV.lit (.string (txt (runZ m K.toNat (numS a)))))]), rfl, rfl, rfl, Or.inr ⟨Wn_tS9, _, rfl, AV.le_refl _⟩⟩ (And.intro ⟨5, (AO.var 27 [(nm .i64 (0))]), rfl, rfl, rfl, Or.inr ⟨Wn_tS27, _, rfl, AV.le_refl _⟩⟩ (trivial)), rfl, ?_⟩ rfl rfl
              refine tup_eq2 (by unfold runS; rw [if_pos ⟨hm', ha', by omega, by omega⟩, toldS, if_pos hfit]) (by unfold runE; rw [if_pos ⟨hm', ha'⟩, if_pos (by omega), toldE, if_pos hfit])

theorem c_sFalls (m : MapM) (a : ByteArray) (K : Int) (hsz : a.size ≤ 9223372036854775807) : ECalls cx 27 [(mapV m), (AV.lit (.string (a))), (AV.lit (.int .i64 (K)))] (.tup [nm .i64 (fallK m a K), .lit (.string (fallT m a K)), nm .i64 (fallE m a K)]) := by
  refine ecalls_of_awpT Tryd.func27 (c := _) rfl (Nat.le_of_ble_eq_true rfl) ?_
  show awpT cx 50 [] _ (postT cx Tryd.f27 _) ⟨[(0, (mapV m)), (1, (AV.lit (.string (a)))), (2, (AV.lit (.int .i64 (K))))], []⟩
  refine awpT_seq fun K0 hK0 => ?_
  refine awpT_lift ?_
  refine awp_region rfl ?_
  refine o_box 2 [(AV.lit (.int .i64 (m.mod))), (AV.sl 1 (is .i64 (m.mul))), (AV.sl 1 (is .i64 (m.add)))] Gd.none rfl rfl ?_
  refine o_box 3 [(AV.lit (.int .i64 (K)))] Gd.none rfl rfl ?_
  refine o_alloc 4 [(nm .i64 (0))] Gd.none Wn_tO3 rfl rfl rfl ?_
  refine o_alloc 5 [(AV.lit (.string (({data := #[]} : ByteArray))))] Gd.none Wn_tO9 rfl rfl rfl ?_
  refine o_alloc 6 [(nm .i64 (0))] Gd.none Wn_tO27 rfl rfl rfl ?_
  refine aops_end ?_
  refine hK0 _ _ ?_
  refine awpT_seq fun K1 hK1 => ?_
  refine awpT_lift ?_
  refine awp_block ?_
  refine awp_seq fun K2 hK2 => ?_
  refine awp_region rfl ?_
  refine o_loadA [(AV.lit (.int .i64 (m.mod))), (AV.sl 1 (is .i64 (m.mul))), (AV.sl 1 (is .i64 (m.add)))] Gd.none Wn_tA24 rfl rfl rfl rfl rfl ?_
  refine o_call [(AV.agg [(AV.lit (.int .i64 (m.mod))), (AV.sl 1 (is .i64 (m.mul))), (AV.sl 1 (is .i64 (m.add)))])] (AV.lit (.bool (okM m))) Gd.none Wn_tC39 rfl (c_sValid m) ?_
  refine o_not (b := okM m) Gd.none rfl ?_
  refine o_move (AV.lit (.bool (!(okM m)))) Gd.none rfl ?_
  refine o_split (b := !(okM m)) 16 rfl (fun h1 => ?_) (fun h1 => ?_)
  · have hm' : okM m = false := by simpa using h1
    refine o_skip (b := !(okM m)) rfl rfl h1 ?_
    refine o_skip (b := !(okM m)) rfl rfl h1 ?_
    refine o_skip (b := !(okM m)) rfl rfl h1 ?_
    refine o_pickT (b := !(okM m)) (AV.lit (.bool true)) Gd.none rfl h1 rfl ?_
    refine o_assign (AV.lit (.bool true)) Gd.none rfl ?_
    refine aops_end ?_
    refine hK2 _ ?_
    refine awp_condB (b := true) rfl (fun _ => ?_) (fun hh => absurd (hh.symm.trans rfl) (by decide))
    refine awp_seq fun K3 hK3 => ?_
    refine awp_region rfl ?_
    refine o_store [(6, (AO.var 27 [(nm .i64 (0))])), (5, (AO.var 9 [(AV.lit (.string (({data := #[]} : ByteArray))))])), (4, (AO.var 3 [(nm .i64 (0))])), (3, (AO.var 3 [(AV.lit (.int .i64 (K)))])), (2, (AO.var 24 [(AV.lit (.int .i64 (m.mod))), (AV.sl 1 (is .i64 (m.mul))), (AV.sl 1 (is .i64 (m.add)))]))] Gd.none Wn_tZ3 rfl rfl rfl rfl rfl rfl ?_
    refine o_store [(6, (AO.var 27 [(nm .i64 (0))])), (5, (AO.var 9 [(AV.lit (.string (({data := #[]} : ByteArray))))])), (4, (AO.var 3 [(nm .i64 (0))])), (3, (AO.var 3 [(AV.lit (.int .i64 (K)))])), (2, (AO.var 24 [(AV.lit (.int .i64 (m.mod))), (AV.sl 1 (is .i64 (m.mul))), (AV.sl 1 (is .i64 (m.add)))]))] Gd.none Wn_tZ9 rfl rfl rfl rfl rfl rfl ?_
    refine o_store [(6, (AO.var 27 [(nm .i64 (1))])), (5, (AO.var 9 [(AV.lit (.string (({data := #[]} : ByteArray))))])), (4, (AO.var 3 [(nm .i64 (0))])), (3, (AO.var 3 [(AV.lit (.int .i64 (K)))])), (2, (AO.var 24 [(AV.lit (.int .i64 (m.mod))), (AV.sl 1 (is .i64 (m.mul))), (AV.sl 1 (is .i64 (m.add)))]))] Gd.none Wn_tZ27 rfl rfl rfl rfl rfl rfl ?_
    refine aops_end ?_
    refine hK3 _ ?_
    refine awp_ret ?_
    refine postT_ret0 ⟨[(nm .i64 (0)), (AV.lit (.string (({data := #[]} : ByteArray)))), (nm .i64 (1))], And.intro ⟨4, (AO.var 3 [(nm .i64 (0))]), rfl, rfl, rfl, Or.inr ⟨Wn_tS3, _, rfl, AV.le_refl _⟩⟩ (And.intro ⟨5, (AO.var 9 [(AV.lit (.string (({data := #[]} : ByteArray))))]), rfl, rfl, rfl, Or.inr ⟨Wn_tS9, _, rfl, AV.le_refl _⟩⟩ (And.intro ⟨6, (AO.var 27 [(nm .i64 (1))]), rfl, rfl, rfl, Or.inr ⟨Wn_tS27, _, rfl, AV.le_refl _⟩⟩ (trivial))), rfl, ?_⟩
    exact tup_eq3 (by unfold fallK fallF; rw [if_neg (by simp [hm'])]) (by unfold fallT fallF; rw [if_neg (by simp [hm'])]) (by unfold fallE fallF; rw [if_neg (by simp [hm'])])
  · have hm' : okM m = true := by simpa using h1
    have hM := okM_iff.1 hm'
    refine o_move (AV.lit (.string (a))) (Gd.yes rfl rfl h1) rfl ?_
    refine o_call [(AV.lit (.string (a)))] (AV.lit (.bool (okS (a)))) (Gd.yes rfl rfl h1) Wn_tC65 rfl (c_nValid (a) (by first | assumption | omega)) ?_
    refine o_not (b := okS (a)) (Gd.yes rfl rfl h1) rfl ?_
    refine o_pickF (b := !(okM m)) (AV.lit (.bool (!(okS (a))))) Gd.none rfl h1 rfl ?_
    refine o_assign (AV.lit (.bool (!(okS (a))))) Gd.none rfl ?_
    refine aops_end ?_
    refine hK2 _ ?_
    refine awp_condB (b := !(okS (a))) rfl (fun h2 => ?_) (fun h2 => ?_)
    · have ha' : okS a = false := by simpa using h2
      refine awp_seq fun K4 hK4 => ?_
      refine awp_region rfl ?_
      refine o_store [(6, (AO.var 27 [(nm .i64 (0))])), (5, (AO.var 9 [(AV.lit (.string (({data := #[]} : ByteArray))))])), (4, (AO.var 3 [(nm .i64 (0))])), (3, (AO.var 3 [(AV.lit (.int .i64 (K)))])), (2, (AO.var 24 [(AV.lit (.int .i64 (m.mod))), (AV.sl 1 (is .i64 (m.mul))), (AV.sl 1 (is .i64 (m.add)))]))] Gd.none Wn_tZ3 rfl rfl rfl rfl rfl rfl ?_
      refine o_store [(6, (AO.var 27 [(nm .i64 (0))])), (5, (AO.var 9 [(AV.lit (.string (({data := #[]} : ByteArray))))])), (4, (AO.var 3 [(nm .i64 (0))])), (3, (AO.var 3 [(AV.lit (.int .i64 (K)))])), (2, (AO.var 24 [(AV.lit (.int .i64 (m.mod))), (AV.sl 1 (is .i64 (m.mul))), (AV.sl 1 (is .i64 (m.add)))]))] Gd.none Wn_tZ9 rfl rfl rfl rfl rfl rfl ?_
      refine o_store [(6, (AO.var 27 [(nm .i64 (1))])), (5, (AO.var 9 [(AV.lit (.string (({data := #[]} : ByteArray))))])), (4, (AO.var 3 [(nm .i64 (0))])), (3, (AO.var 3 [(AV.lit (.int .i64 (K)))])), (2, (AO.var 24 [(AV.lit (.int .i64 (m.mod))), (AV.sl 1 (is .i64 (m.mul))), (AV.sl 1 (is .i64 (m.add)))]))] Gd.none Wn_tZ27 rfl rfl rfl rfl rfl rfl ?_
      refine aops_end ?_
      refine hK4 _ ?_
      refine awp_ret ?_
      refine postT_ret0 ⟨[(nm .i64 (0)), (AV.lit (.string (({data := #[]} : ByteArray)))), (nm .i64 (1))], And.intro ⟨4, (AO.var 3 [(nm .i64 (0))]), rfl, rfl, rfl, Or.inr ⟨Wn_tS3, _, rfl, AV.le_refl _⟩⟩ (And.intro ⟨5, (AO.var 9 [(AV.lit (.string (({data := #[]} : ByteArray))))]), rfl, rfl, rfl, Or.inr ⟨Wn_tS9, _, rfl, AV.le_refl _⟩⟩ (And.intro ⟨6, (AO.var 27 [(nm .i64 (1))]), rfl, rfl, rfl, Or.inr ⟨Wn_tS27, _, rfl, AV.le_refl _⟩⟩ (trivial))), rfl, ?_⟩
      exact tup_eq3 (by unfold fallK fallF; rw [if_neg (by simp [ha'])]) (by unfold fallT fallF; rw [if_neg (by simp [ha'])]) (by unfold fallE fallF; rw [if_neg (by simp [ha'])])
    · have ha' : okS a = true := by simpa using h2
      have hlz := len_numS (okS_iff.1 ha')
      refine awp_seq fun K5 hK5 => ?_
      refine awp_region rfl ?_
      refine o_loadS (AV.lit (.int .i64 (K))) Gd.none Wn_tS3 rfl rfl rfl ?_
      refine o_lss (a := (K)) (c := (((1 : Nat) : Int))) Gd.none rfl rfl ?_
      refine o_move (bp ((K) < (((1 : Nat) : Int)))) Gd.none rfl ?_
      refine o_splitP (q := (K) < (((1 : Nat) : Int))) 24 rfl (fun h3 => ?_) (fun h3 => ?_)
      · refine o_skip (b := decide ((K) < (((1 : Nat) : Int)))) rfl rfl (decide_eq_true h3) ?_
        refine o_skip (b := decide ((K) < (((1 : Nat) : Int)))) rfl rfl (decide_eq_true h3) ?_
        refine o_pickT (b := decide ((K) < (((1 : Nat) : Int)))) (AV.lit (.bool true)) Gd.none rfl (decide_eq_true h3) rfl ?_
        refine o_assign (AV.lit (.bool true)) Gd.none rfl ?_
        refine aops_end ?_
        refine hK5 _ ?_
        refine awp_condB (b := true) rfl (fun _ => ?_) (fun hh => absurd (hh.symm.trans rfl) (by decide))
        refine awp_seq fun K6 hK6 => ?_
        refine awp_region rfl ?_
        refine o_store [(6, (AO.var 27 [(nm .i64 (0))])), (5, (AO.var 9 [(AV.lit (.string (({data := #[]} : ByteArray))))])), (4, (AO.var 3 [(nm .i64 (0))])), (3, (AO.var 3 [(AV.lit (.int .i64 (K)))])), (2, (AO.var 24 [(AV.lit (.int .i64 (m.mod))), (AV.sl 1 (is .i64 (m.mul))), (AV.sl 1 (is .i64 (m.add)))]))] Gd.none Wn_tZ3 rfl rfl rfl rfl rfl rfl ?_
        refine o_store [(6, (AO.var 27 [(nm .i64 (0))])), (5, (AO.var 9 [(AV.lit (.string (({data := #[]} : ByteArray))))])), (4, (AO.var 3 [(nm .i64 (0))])), (3, (AO.var 3 [(AV.lit (.int .i64 (K)))])), (2, (AO.var 24 [(AV.lit (.int .i64 (m.mod))), (AV.sl 1 (is .i64 (m.mul))), (AV.sl 1 (is .i64 (m.add)))]))] Gd.none Wn_tZ9 rfl rfl rfl rfl rfl rfl ?_
        refine o_store [(6, (AO.var 27 [(nm .i64 (2))])), (5, (AO.var 9 [(AV.lit (.string (({data := #[]} : ByteArray))))])), (4, (AO.var 3 [(nm .i64 (0))])), (3, (AO.var 3 [(AV.lit (.int .i64 (K)))])), (2, (AO.var 24 [(AV.lit (.int .i64 (m.mod))), (AV.sl 1 (is .i64 (m.mul))), (AV.sl 1 (is .i64 (m.add)))]))] Gd.none Wn_tZ27 rfl rfl rfl rfl rfl rfl ?_
        refine aops_end ?_
        refine hK6 _ ?_
        refine awp_ret ?_
        refine postT_ret0 ⟨[(nm .i64 (0)), (AV.lit (.string (({data := #[]} : ByteArray)))), (nm .i64 (2))], And.intro ⟨4, (AO.var 3 [(nm .i64 (0))]), rfl, rfl, rfl, Or.inr ⟨Wn_tS3, _, rfl, AV.le_refl _⟩⟩ (And.intro ⟨5, (AO.var 9 [(AV.lit (.string (({data := #[]} : ByteArray))))]), rfl, rfl, rfl, Or.inr ⟨Wn_tS9, _, rfl, AV.le_refl _⟩⟩ (And.intro ⟨6, (AO.var 27 [(nm .i64 (2))]), rfl, rfl, rfl, Or.inr ⟨Wn_tS27, _, rfl, AV.le_refl _⟩⟩ (trivial))), rfl, ?_⟩
        exact tup_eq3 (by unfold fallK fallF; rw [if_neg (by omega)]) (by unfold fallT fallF; rw [if_neg (by omega)]) (by unfold fallE fallF; rw [if_pos ⟨hm', ha'⟩, if_neg (by omega)])
      · refine o_loadS (AV.lit (.int .i64 (K))) (Gd.yes rfl rfl (decide_eq_false h3)) Wn_tS3 rfl rfl rfl ?_
        refine o_gtr (a := (K)) (c := (((20000 : Nat) : Int))) (Gd.yes rfl rfl (decide_eq_false h3)) rfl rfl ?_
        refine o_pickF (b := decide ((K) < (((1 : Nat) : Int)))) (bp ((((20000 : Nat) : Int)) < (K))) Gd.none rfl (decide_eq_false h3) rfl ?_
        refine o_assign (bp ((((20000 : Nat) : Int)) < (K))) Gd.none rfl ?_
        refine aops_end ?_
        refine hK5 _ ?_
        refine awp_condQ (q := (((20000 : Nat) : Int)) < (K)) rfl (fun h4 => ?_) (fun h4 => ?_)
        · refine awp_seq fun K7 hK7 => ?_
          refine awp_region rfl ?_
          refine o_store [(6, (AO.var 27 [(nm .i64 (0))])), (5, (AO.var 9 [(AV.lit (.string (({data := #[]} : ByteArray))))])), (4, (AO.var 3 [(nm .i64 (0))])), (3, (AO.var 3 [(AV.lit (.int .i64 (K)))])), (2, (AO.var 24 [(AV.lit (.int .i64 (m.mod))), (AV.sl 1 (is .i64 (m.mul))), (AV.sl 1 (is .i64 (m.add)))]))] Gd.none Wn_tZ3 rfl rfl rfl rfl rfl rfl ?_
          refine o_store [(6, (AO.var 27 [(nm .i64 (0))])), (5, (AO.var 9 [(AV.lit (.string (({data := #[]} : ByteArray))))])), (4, (AO.var 3 [(nm .i64 (0))])), (3, (AO.var 3 [(AV.lit (.int .i64 (K)))])), (2, (AO.var 24 [(AV.lit (.int .i64 (m.mod))), (AV.sl 1 (is .i64 (m.mul))), (AV.sl 1 (is .i64 (m.add)))]))] Gd.none Wn_tZ9 rfl rfl rfl rfl rfl rfl ?_
          refine o_store [(6, (AO.var 27 [(nm .i64 (2))])), (5, (AO.var 9 [(AV.lit (.string (({data := #[]} : ByteArray))))])), (4, (AO.var 3 [(nm .i64 (0))])), (3, (AO.var 3 [(AV.lit (.int .i64 (K)))])), (2, (AO.var 24 [(AV.lit (.int .i64 (m.mod))), (AV.sl 1 (is .i64 (m.mul))), (AV.sl 1 (is .i64 (m.add)))]))] Gd.none Wn_tZ27 rfl rfl rfl rfl rfl rfl ?_
          refine aops_end ?_
          refine hK7 _ ?_
          refine awp_ret ?_
          refine postT_ret0 ⟨[(nm .i64 (0)), (AV.lit (.string (({data := #[]} : ByteArray)))), (nm .i64 (2))], And.intro ⟨4, (AO.var 3 [(nm .i64 (0))]), rfl, rfl, rfl, Or.inr ⟨Wn_tS3, _, rfl, AV.le_refl _⟩⟩ (And.intro ⟨5, (AO.var 9 [(AV.lit (.string (({data := #[]} : ByteArray))))]), rfl, rfl, rfl, Or.inr ⟨Wn_tS9, _, rfl, AV.le_refl _⟩⟩ (And.intro ⟨6, (AO.var 27 [(nm .i64 (2))]), rfl, rfl, rfl, Or.inr ⟨Wn_tS27, _, rfl, AV.le_refl _⟩⟩ (trivial))), rfl, ?_⟩
          exact tup_eq3 (by unfold fallK fallF; rw [if_neg (by omega)]) (by unfold fallT fallF; rw [if_neg (by omega)]) (by unfold fallE fallF; rw [if_pos ⟨hm', ha'⟩, if_neg (by omega)])
        · refine awp_skip ?_
          refine hK1 _ _ ?_
          refine awpT_seq fun K8 hK8 => ?_
          refine awpT_lift ?_
          refine awp_region rfl ?_
          refine o_move (AV.lit (.string (a))) Gd.none rfl ?_
          refine o_call [(AV.lit (.string (a)))] (intW ((numS (a)))) Gd.none Wn_tC69 rfl (c_wParse (a) (by first | assumption | exact okS_iff.1 (by assumption))) ?_
          refine o_alloc 7 [(AV.lit (.bool false)), (AV.lit (.slice none 0 0))] Gd.none Wn_tO89 rfl rfl rfl ?_
          refine o_store [(7, (AO.var 89 [(bp ((numS (a)) < 0)), (AV.sl 1 (ns .u32 (digs ((numS (a))).natAbs)))])), (6, (AO.var 27 [(nm .i64 (0))])), (5, (AO.var 9 [(AV.lit (.string (({data := #[]} : ByteArray))))])), (4, (AO.var 3 [(nm .i64 (0))])), (3, (AO.var 3 [(AV.lit (.int .i64 (K)))])), (2, (AO.var 24 [(AV.lit (.int .i64 (m.mod))), (AV.sl 1 (is .i64 (m.mul))), (AV.sl 1 (is .i64 (m.add)))]))] Gd.none Wn_tZ89 rfl rfl rfl rfl rfl rfl ?_
          refine aops_end ?_
          refine hK8 _ _ ?_
          refine awpT_seq fun K9 hK9 => ?_
          refine awpT_seq fun K10 hK10 => ?_
          refine awpT_lift ?_
          refine awp_region rfl ?_
          refine o_loadA [(AV.lit (.int .i64 (m.mod))), (AV.sl 1 (is .i64 (m.mul))), (AV.sl 1 (is .i64 (m.add)))] Gd.none Wn_tA24 rfl rfl rfl rfl rfl ?_
          refine o_loadA [(bp ((numS (a)) < 0)), (AV.sl 1 (ns .u32 (digs ((numS (a))).natAbs)))] Gd.none Wn_tA89 rfl rfl rfl rfl rfl ?_
          refine o_callW 8001 8002 [(AV.agg [(AV.lit (.int .i64 (m.mod))), (AV.sl 1 (is .i64 (m.mul))), (AV.sl 1 (is .i64 (m.add)))]), (AV.agg [(bp ((numS (a)) < 0)), (AV.sl 1 (ns .u32 (digs ((numS (a))).natAbs)))])] Gd.none Wn_tC68 rfl rfl rfl rfl (c_sWalk m (numS (a))) rfl rfl ?_
          refine aops_end ?_
          refine hK10 _ _ ?_
          refine awpT_block ?_
          refine awpT_wk (σ' := ⟨[(5, (AV.ref 3 (0))), (6, (AV.ref 4 (0))), (7, (AV.ref 5 (0))), (8, (AV.ref 6 (0))), (9, (AV.ref 7 (0))), (32, (AV.clo 99 [(AV.ref 8001 (0)), (AV.ref 8002 (0))]))], [(8001, (AO.var 89 [(bp ((numS (a)) < 0)), (AV.sl 1 (ns .u32 (digs ((numS (a))).natAbs)))])), (8002, (AO.var 24 [(AV.lit (.int .i64 (m.mod))), (AV.sl 1 (is .i64 (m.mul))), (AV.sl 1 (is .i64 (m.add)))])), (3, (AO.var 3 [(AV.lit (.int .i64 (K)))])), (4, (AO.var 3 [(nm .i64 (0))])), (5, (AO.var 9 [(AV.lit (.string (({data := #[]} : ByteArray))))])), (6, (AO.var 27 [(nm .i64 (0))])), (7, (AO.var 89 [(bp ((numS (a)) < 0)), (AV.sl 1 (ns .u32 (digs ((numS (a))).natAbs)))]))]⟩) (Wk.sub (And.intro rfl (And.intro rfl (And.intro rfl (And.intro rfl (And.intro rfl (And.intro rfl (trivial))))))) (And.intro rfl (And.intro rfl (And.intro rfl (And.intro rfl (And.intro rfl (And.intro rfl (And.intro rfl (trivial))))))))) ?_
          refine awpT_range (C := cx) rfl (gf := 99) (fnI := Tryd.f99) (caps := [.ref 8001 0, .ref 8002 0]) (so := [(5, (AV.ref 3 (0))), (6, (AV.ref 4 (0))), (7, (AV.ref 5 (0))), (8, (AV.ref 6 (0))), (9, (AV.ref 7 (0))), (32, (AV.clo 99 [(AV.ref 8001 (0)), (AV.ref 8002 (0))]))]) (And.intro rfl (And.intro rfl (And.intro rfl (And.intro rfl (And.intro rfl (And.intro rfl (trivial))))))) Tryd.func99 rfl Wn_tC99 (by decide) rfl rfl rfl rfl rfl (fun (fn : FuncId) (tmps : Array Value) (D l : Nat) (pe : Option Code) (m' : List (Nat × AO)) => ((fallZ m (numS a) K.toNat (numS a) 1 = (0, 0, 3)) ∧ pe = some .ret ∧ m' = [(4, (AO.var 3 [(nm .i64 (0))])), (5, (AO.var 9 [(AV.lit (.string (({ data := #[] } : ByteArray))))])), (6, (AO.var 27 [(nm .i64 (3))]))]) ∨ (∃ (q : Nat), ∃ (x : Int), (fallZ m (numS a) K.toNat (numS a) 1 = (q, x, 0)) ∧ pe = some .ret ∧ m' = [(4, (AO.var 3 [(nm .i64 (q))])), (5, (AO.var 9 [(AV.lit (.string (txt x)))])), (6, (AO.var 27 [(nm .i64 (0))]))]) ∨ ((fallZ m (numS a) K.toNat (numS a) 1 = (0, 0, 4)) ∧ pe = some .ret ∧ m' = [(4, (AO.var 3 [(nm .i64 (0))])), (5, (AO.var 9 [(AV.lit (.string (({ data := #[] } : ByteArray))))])), (6, (AO.var 27 [(nm .i64 (4))]))])) ?it0 ?nx0
          case it0 =>
            intro fn tmps D l hsz
            refine awp_mono (it_Walk m (numS a) hM l D fn tmps _ _ _ (20000) (fun (k : Nat) (mm : List (Nat × AO)) => ((k : Int) ≤ K) ∧ (∀ j, k = j + 1 → fallZ m (numS a) (K.toNat - j) (iterZ m j (numS a)) (j + 1) = fallZ m (numS a) K.toNat (numS a) 1) ∧ ((digs (iterZ m k (numS a)).natAbs).length ≤ 1000000) ∧ mm = (((9002, (.blk (.deferred (some [])))) :: (9003, (pinA [(5, (AV.ref 3 (0))), (6, (AV.ref 4 (0))), (7, (AV.ref 5 (0))), (8, (AV.ref 6 (0))), (9, (AV.ref 7 (0))), (32, (AV.clo 99 [(AV.ref 8001 (0)), (AV.ref 8002 (0))]))] tmps)) :: (9004, (pinL l D)) :: (3, (AO.var 3 [(AV.lit (.int .i64 (K)))])) :: (4, (AO.var 3 [(nm .i64 (0))])) :: (5, (AO.var 9 [(AV.lit (.string (({data := #[]} : ByteArray))))])) :: (6, (AO.var 27 [(nm .i64 (0))])) :: (7, (AO.var 89 [(bp ((numS (a)) < 0)), (AV.sl 1 (ns .u32 (digs ((numS (a))).natAbs)))])) :: []))) (fun c mm => ∃ m2, mm = (((9002, (.blk (.deferred (some [])))) :: (9003, (pinA [(5, (AV.ref 3 (0))), (6, (AV.ref 4 (0))), (7, (AV.ref 5 (0))), (8, (AV.ref 6 (0))), (9, (AV.ref 7 (0))), (32, (AV.clo 99 [(AV.ref 8001 (0)), (AV.ref 8002 (0))]))] tmps)) :: (9004, (pinL l D)) :: m2)) ∧ (fun (fn : FuncId) (tmps : Array Value) (D l : Nat) (pe : Option Code) (m' : List (Nat × AO)) => ((fallZ m (numS a) K.toNat (numS a) 1 = (0, 0, 3)) ∧ pe = some .ret ∧ m' = [(4, (AO.var 3 [(nm .i64 (0))])), (5, (AO.var 9 [(AV.lit (.string (({ data := #[] } : ByteArray))))])), (6, (AO.var 27 [(nm .i64 (3))]))]) ∨ (∃ (q : Nat), ∃ (x : Int), (fallZ m (numS a) K.toNat (numS a) 1 = (q, x, 0)) ∧ pe = some .ret ∧ m' = [(4, (AO.var 3 [(nm .i64 (q))])), (5, (AO.var 9 [(AV.lit (.string (txt x)))])), (6, (AO.var 27 [(nm .i64 (0))]))]) ∨ ((fallZ m (numS a) K.toNat (numS a) 1 = (0, 0, 4)) ∧ pe = some .ret ∧ m' = [(4, (AO.var 3 [(nm .i64 (0))])), (5, (AO.var 9 [(AV.lit (.string (({ data := #[] } : ByteArray))))])), (6, (AO.var 27 [(nm .i64 (4))]))])) fn tmps D l (some c) m2) ?R0 ⟨(by omega), (fun j hj => by omega), (by have := hlz; simp only [iterZ]; omega), rfl⟩ (Wk.sub (And.intro rfl (And.intro rfl (And.intro rfl (trivial)))) (And.intro rfl (And.intro rfl (And.intro rfl (And.intro rfl (And.intro rfl (And.intro rfl (And.intro rfl (And.intro rfl (And.intro rfl (And.intro rfl (And.intro rfl (trivial))))))))))))) (by omega) rfl) ?fin0
            case fin0 =>
              rintro e σ ⟨rfl, c, mm', ⟨m2, rfl, hX⟩, hwk⟩
              exact ⟨.inl rfl, .done, some c, m2, (by decide), hX, (by rcases hX with ⟨_, _, rfl⟩ | ⟨_, _, _, _, rfl⟩ | ⟨_, _, rfl⟩ <;> rfl), (by rcases hX with ⟨_, _, rfl⟩ | ⟨_, _, _, _, rfl⟩ | ⟨_, _, rfl⟩ <;> rfl), hwk⟩
            case R0 =>
              rintro k _ ⟨hk, hv, hln, rfl⟩
              refine ⟨(by omega), hln, yldAt_of_round (so := [(5, (AV.ref 3 (0))), (6, (AV.ref 4 (0))), (7, (AV.ref 5 (0))), (8, (AV.ref 6 (0))), (9, (AV.ref 7 (0))), (32, (AV.clo 99 [(AV.ref 8001 (0)), (AV.ref 8002 (0))]))]) (n := 50) (D' := D) rfl hsz (by decide) rfl rfl rfl rfl rfl rfl fun us => ?_⟩
              show awp cx 50 _ _ ⟨[(34, (AV.agg [(bp ((iterZ m k (numS a)) < 0)), (AV.sl 1 (ns .u32 (digs ((iterZ m k (numS a))).natAbs)))])), (33, (nm .i64 (k))), (5, (AV.ref 3 (0))), (6, (AV.ref 4 (0))), (7, (AV.ref 5 (0))), (8, (AV.ref 6 (0))), (9, (AV.ref 7 (0))), (32, (AV.clo 99 [(AV.ref 8001 (0)), (AV.ref 8002 (0))]))], [(9005, (AO.pin [(.lit (.func (.yield l) #[] #[])), (AV.ref 8001 (0)), (AV.ref 8002 (0)), (nm .i64 (k))] us)), (9001, (AO.blk (.loop (lrec fn tmps _ _ _ D .ready none)))), (8001, (AO.var 89 [(bp ((iterZ m k (numS a)) < 0)), (AV.sl 1 (ns .u32 (digs ((iterZ m k (numS a))).natAbs)))])), (8002, (AO.var 24 [(AV.lit (.int .i64 (m.mod))), (AV.sl 1 (is .i64 (m.mul))), (AV.sl 1 (is .i64 (m.add)))])), (9002, (.blk (.deferred (some [])))), (9003, (pinA [(5, (AV.ref 3 (0))), (6, (AV.ref 4 (0))), (7, (AV.ref 5 (0))), (8, (AV.ref 6 (0))), (9, (AV.ref 7 (0))), (32, (AV.clo 99 [(AV.ref 8001 (0)), (AV.ref 8002 (0))]))] tmps)), (9004, (pinL l D)), (3, (AO.var 3 [(AV.lit (.int .i64 (K)))])), (4, (AO.var 3 [(nm .i64 (0))])), (5, (AO.var 9 [(AV.lit (.string (({data := #[]} : ByteArray))))])), (6, (AO.var 27 [(nm .i64 (0))])), (7, (AO.var 89 [(bp ((numS (a)) < 0)), (AV.sl 1 (ns .u32 (digs ((numS (a))).natAbs)))]))]⟩
              refine awp_seq fun K11 hK11 => ?_
              refine awp_region rfl ?_
              refine o_assign (nm .i64 (k)) Gd.none rfl ?_
              refine aops_end ?_
              refine hK11 _ ?_
              refine awp_region rfl ?_
              refine o_alloc 101 [(AV.lit (.bool false)), (AV.lit (.slice none 0 0))] Gd.none Wn_tO89 rfl rfl rfl ?_
              refine o_store [(101, (AO.var 89 [(bp ((iterZ m k (numS a)) < 0)), (AV.sl 1 (ns .u32 (digs ((iterZ m k (numS a))).natAbs)))])), (9005, (AO.pin [(.lit (.func (.yield l) #[] #[])), (AV.ref 8001 (0)), (AV.ref 8002 (0)), (nm .i64 (k))] us)), (9001, (AO.blk (.loop (lrec fn tmps _ _ _ D .ready none)))), (8001, (AO.var 89 [(bp ((iterZ m k (numS a)) < 0)), (AV.sl 1 (ns .u32 (digs ((iterZ m k (numS a))).natAbs)))])), (8002, (AO.var 24 [(AV.lit (.int .i64 (m.mod))), (AV.sl 1 (is .i64 (m.mul))), (AV.sl 1 (is .i64 (m.add)))])), (9002, (.blk (.deferred (some [])))), (9003, (pinA [(5, (AV.ref 3 (0))), (6, (AV.ref 4 (0))), (7, (AV.ref 5 (0))), (8, (AV.ref 6 (0))), (9, (AV.ref 7 (0))), (32, (AV.clo 99 [(AV.ref 8001 (0)), (AV.ref 8002 (0))]))] tmps)), (9004, (pinL l D)), (3, (AO.var 3 [(AV.lit (.int .i64 (K)))])), (4, (AO.var 3 [(nm .i64 (0))])), (5, (AO.var 9 [(AV.lit (.string (({data := #[]} : ByteArray))))])), (6, (AO.var 27 [(nm .i64 (0))])), (7, (AO.var 89 [(bp ((numS (a)) < 0)), (AV.sl 1 (ns .u32 (digs ((numS (a))).natAbs)))]))] Gd.none Wn_tZ89 rfl rfl rfl rfl rfl rfl ?_
              refine aops_end ?_
              refine ⟨[(34, (AV.agg [(bp ((iterZ m k (numS a)) < 0)), (AV.sl 1 (ns .u32 (digs ((iterZ m k (numS a))).natAbs)))])), (33, (nm .i64 (k))), (5, (AV.ref 3 (0))), (6, (AV.ref 4 (0))), (7, (AV.ref 5 (0))), (8, (AV.ref 6 (0))), (9, (AV.ref 7 (0))), (32, (AV.clo 99 [(AV.ref 8001 (0)), (AV.ref 8002 (0))])), (10, (nm .i64 (k))), (11, (AV.ref 101 (0)))], [(101, (AO.var 89 [(bp ((iterZ m k (numS a)) < 0)), (AV.sl 1 (ns .u32 (digs ((iterZ m k (numS a))).natAbs)))])), (9005, (AO.pin [(.lit (.func (.yield l) #[] #[])), (AV.ref 8001 (0)), (AV.ref 8002 (0)), (nm .i64 (k))] us)), (8001, (AO.var 89 [(bp ((iterZ m k (numS a)) < 0)), (AV.sl 1 (ns .u32 (digs ((iterZ m k (numS a))).natAbs)))])), (8002, (AO.var 24 [(AV.lit (.int .i64 (m.mod))), (AV.sl 1 (is .i64 (m.mul))), (AV.sl 1 (is .i64 (m.add)))])), (9002, (.blk (.deferred (some [])))), (9003, (pinA [(5, (AV.ref 3 (0))), (6, (AV.ref 4 (0))), (7, (AV.ref 5 (0))), (8, (AV.ref 6 (0))), (9, (AV.ref 7 (0))), (32, (AV.clo 99 [(AV.ref 8001 (0)), (AV.ref 8002 (0))]))] tmps)), (9004, (pinL l D)), (3, (AO.var 3 [(AV.lit (.int .i64 (K)))])), (4, (AO.var 3 [(nm .i64 (0))])), (5, (AO.var 9 [(AV.lit (.string (({data := #[]} : ByteArray))))])), (6, (AO.var 27 [(nm .i64 (0))])), (7, (AO.var 89 [(bp ((numS (a)) < 0)), (AV.sl 1 (ns .u32 (digs ((numS (a))).natAbs)))]))], Wk.sub (And.intro rfl (And.intro rfl (And.intro rfl (And.intro rfl (And.intro rfl (And.intro rfl (And.intro rfl (And.intro rfl (And.intro rfl (And.intro rfl (trivial))))))))))) (And.intro rfl (And.intro rfl (And.intro rfl (And.intro rfl (And.intro rfl (And.intro rfl (And.intro rfl (And.intro rfl (And.intro rfl (And.intro rfl (And.intro rfl (And.intro rfl (And.intro rfl (trivial)))))))))))))), rfl, ?_⟩
              refine awp_block ?_
              refine awp_block ?_
              refine awp_seq fun K12 hK12 => ?_
              refine awp_region rfl ?_
              refine o_loadA [(bp ((iterZ m k (numS a)) < 0)), (AV.sl 1 (ns .u32 (digs ((iterZ m k (numS a))).natAbs)))] Gd.none Wn_tA89 rfl rfl rfl rfl rfl ?_
              refine o_call [(AV.agg [(bp ((iterZ m k (numS a)) < 0)), (AV.sl 1 (ns .u32 (digs ((iterZ m k (numS a))).natAbs)))])] (bp (¬ Fit ((iterZ m k (numS a))))) Gd.none Wn_tC70 rfl (c_sLong ((iterZ m k (numS a))) (by first | assumption | omega | (simp only [Int.natAbs_neg]; omega))) ?_
              refine o_assign (bp (¬ Fit ((iterZ m k (numS a))))) Gd.none rfl ?_
              refine aops_end ?_
              refine hK12 _ ?_
              refine awp_condQ (q := ¬ Fit ((iterZ m k (numS a)))) rfl (fun h5 => ?_) (fun h5 => ?_)
              · refine awp_seq fun K13 hK13 => ?_
                refine awp_region rfl ?_
                refine o_store [(9001, (AO.blk (.loop (lrec fn tmps _ _ _ D .busy none)))), (101, (AO.var 89 [(bp ((iterZ m k (numS a)) < 0)), (AV.sl 1 (ns .u32 (digs ((iterZ m k (numS a))).natAbs)))])), (9005, (AO.pin [(.lit (.func (.yield l) #[] #[])), (AV.ref 8001 (0)), (AV.ref 8002 (0)), (nm .i64 (k))] us)), (8001, (AO.var 89 [(bp ((iterZ m k (numS a)) < 0)), (AV.sl 1 (ns .u32 (digs ((iterZ m k (numS a))).natAbs)))])), (8002, (AO.var 24 [(AV.lit (.int .i64 (m.mod))), (AV.sl 1 (is .i64 (m.mul))), (AV.sl 1 (is .i64 (m.add)))])), (9002, (.blk (.deferred (some [])))), (9003, (pinA [(5, (AV.ref 3 (0))), (6, (AV.ref 4 (0))), (7, (AV.ref 5 (0))), (8, (AV.ref 6 (0))), (9, (AV.ref 7 (0))), (32, (AV.clo 99 [(AV.ref 8001 (0)), (AV.ref 8002 (0))]))] tmps)), (9004, (pinL l D)), (3, (AO.var 3 [(AV.lit (.int .i64 (K)))])), (4, (AO.var 3 [(nm .i64 (0))])), (5, (AO.var 9 [(AV.lit (.string (({data := #[]} : ByteArray))))])), (6, (AO.var 27 [(nm .i64 (0))])), (7, (AO.var 89 [(bp ((numS (a)) < 0)), (AV.sl 1 (ns .u32 (digs ((numS (a))).natAbs)))]))] Gd.none Wn_tZ3 rfl rfl rfl rfl rfl rfl ?_
                refine o_store [(9001, (AO.blk (.loop (lrec fn tmps _ _ _ D .busy none)))), (101, (AO.var 89 [(bp ((iterZ m k (numS a)) < 0)), (AV.sl 1 (ns .u32 (digs ((iterZ m k (numS a))).natAbs)))])), (9005, (AO.pin [(.lit (.func (.yield l) #[] #[])), (AV.ref 8001 (0)), (AV.ref 8002 (0)), (nm .i64 (k))] us)), (8001, (AO.var 89 [(bp ((iterZ m k (numS a)) < 0)), (AV.sl 1 (ns .u32 (digs ((iterZ m k (numS a))).natAbs)))])), (8002, (AO.var 24 [(AV.lit (.int .i64 (m.mod))), (AV.sl 1 (is .i64 (m.mul))), (AV.sl 1 (is .i64 (m.add)))])), (9002, (.blk (.deferred (some [])))), (9003, (pinA [(5, (AV.ref 3 (0))), (6, (AV.ref 4 (0))), (7, (AV.ref 5 (0))), (8, (AV.ref 6 (0))), (9, (AV.ref 7 (0))), (32, (AV.clo 99 [(AV.ref 8001 (0)), (AV.ref 8002 (0))]))] tmps)), (9004, (pinL l D)), (3, (AO.var 3 [(AV.lit (.int .i64 (K)))])), (4, (AO.var 3 [(nm .i64 (0))])), (5, (AO.var 9 [(AV.lit (.string (({data := #[]} : ByteArray))))])), (6, (AO.var 27 [(nm .i64 (0))])), (7, (AO.var 89 [(bp ((numS (a)) < 0)), (AV.sl 1 (ns .u32 (digs ((numS (a))).natAbs)))]))] Gd.none Wn_tZ9 rfl rfl rfl rfl rfl rfl ?_
                refine o_store [(9001, (AO.blk (.loop (lrec fn tmps _ _ _ D .busy none)))), (101, (AO.var 89 [(bp ((iterZ m k (numS a)) < 0)), (AV.sl 1 (ns .u32 (digs ((iterZ m k (numS a))).natAbs)))])), (9005, (AO.pin [(.lit (.func (.yield l) #[] #[])), (AV.ref 8001 (0)), (AV.ref 8002 (0)), (nm .i64 (k))] us)), (8001, (AO.var 89 [(bp ((iterZ m k (numS a)) < 0)), (AV.sl 1 (ns .u32 (digs ((iterZ m k (numS a))).natAbs)))])), (8002, (AO.var 24 [(AV.lit (.int .i64 (m.mod))), (AV.sl 1 (is .i64 (m.mul))), (AV.sl 1 (is .i64 (m.add)))])), (9002, (.blk (.deferred (some [])))), (9003, (pinA [(5, (AV.ref 3 (0))), (6, (AV.ref 4 (0))), (7, (AV.ref 5 (0))), (8, (AV.ref 6 (0))), (9, (AV.ref 7 (0))), (32, (AV.clo 99 [(AV.ref 8001 (0)), (AV.ref 8002 (0))]))] tmps)), (9004, (pinL l D)), (3, (AO.var 3 [(AV.lit (.int .i64 (K)))])), (4, (AO.var 3 [(nm .i64 (0))])), (5, (AO.var 9 [(AV.lit (.string (({data := #[]} : ByteArray))))])), (6, (AO.var 27 [(nm .i64 (3))])), (7, (AO.var 89 [(bp ((numS (a)) < 0)), (AV.sl 1 (ns .u32 (digs ((numS (a))).natAbs)))]))] Gd.none Wn_tZ27 rfl rfl rfl rfl rfl rfl ?_
                refine aops_end ?_
                refine hK13 _ ?_
                refine awp_ret ?_
                exact ⟨[(9002, (.blk (.deferred (some [])))), (9003, (pinA [(5, (AV.ref 3 (0))), (6, (AV.ref 4 (0))), (7, (AV.ref 5 (0))), (8, (AV.ref 6 (0))), (9, (AV.ref 7 (0))), (32, (AV.clo 99 [(AV.ref 8001 (0)), (AV.ref 8002 (0))]))] tmps)), (9004, (pinL l D)), (4, (AO.var 3 [(nm .i64 (0))])), (5, (AO.var 9 [(AV.lit (.string (({ data := #[] } : ByteArray))))])), (6, (AO.var 27 [(nm .i64 (3))]))], Wk.sub (trivial) (And.intro (by first | rfl | exact row_ns (by simp) | exact congrArg (fun x => some (AO.blk (.stringIter _ x))) (by omega)) (And.intro (by first | rfl | exact row_ns (by simp) | exact congrArg (fun x => some (AO.blk (.stringIter _ x))) (by omega)) (And.intro (by first | rfl | exact row_ns (by simp) | exact congrArg (fun x => some (AO.blk (.stringIter _ x))) (by omega)) (And.intro (by first | rfl | exact row_ns (by simp) | exact congrArg (fun x => some (AO.blk (.stringIter _ x))) (by omega)) (And.intro (by first | rfl | exact row_ns (by simp) | exact congrArg (fun x => some (AO.blk (.stringIter _ x))) (by omega)) (And.intro (by first | rfl | exact row_ns (by simp) | exact congrArg (fun x => some (AO.blk (.stringIter _ x))) (by omega)) (And.intro (by first | rfl | exact row_ns (by simp) | exact congrArg (fun x => some (AO.blk (.stringIter _ x))) (by omega)) (And.intro (by first | rfl | exact row_ns (by simp) | exact congrArg (fun x => some (AO.blk (.stringIter _ x))) (by omega)) (trivial))))))))), rfl, rfl, _, rfl, .inl ⟨(by cases k with | zero => exact absurd (fit_numS (okS_iff.1 ha')) h5 | succ j => rw [← hv j rfl, show K.toNat - j = (K.toNat - (j + 1)) + 1 by omega]; exact fallZ_bad h5), rfl, rfl⟩⟩
              · have hF : Fit (iterZ m k (numS a)) := Decidable.not_not.1 h5
                refine awp_seq fun K14 hK14 => ?_
                refine awp_region rfl ?_
                refine o_loadA [(bp ((iterZ m k (numS a)) < 0)), (AV.sl 1 (ns .u32 (digs ((iterZ m k (numS a))).natAbs)))] Gd.none Wn_tA89 rfl rfl rfl rfl rfl ?_
                refine o_loadA [(bp ((numS (a)) < 0)), (AV.sl 1 (ns .u32 (digs ((numS (a))).natAbs)))] Gd.none Wn_tA89 rfl rfl rfl rfl rfl ?_
                refine o_call [(AV.agg [(bp ((iterZ m k (numS a)) < 0)), (AV.sl 1 (ns .u32 (digs ((iterZ m k (numS a))).natAbs)))]), (AV.agg [(bp ((numS (a)) < 0)), (AV.sl 1 (ns .u32 (digs ((numS (a))).natAbs)))])] (AV.lit (.int .i64 (cmpZ ((iterZ m k (numS a))) ((numS (a)))))) Gd.none Wn_tC76 rfl (c_wCmp ((iterZ m k (numS a))) ((numS (a)))) ?_
                refine o_lss (a := (cmpZ ((iterZ m k (numS a))) ((numS (a))))) (c := (((0 : Nat) : Int))) Gd.none rfl rfl ?_
                refine o_assign (bp ((cmpZ ((iterZ m k (numS a))) ((numS (a)))) < (((0 : Nat) : Int)))) Gd.none rfl ?_
                refine aops_end ?_
                refine hK14 _ ?_
                refine awp_condQ (q := (cmpZ ((iterZ m k (numS a))) ((numS (a)))) < (((0 : Nat) : Int))) rfl (fun h6 => ?_) (fun h6 => ?_)
                · refine awp_seq fun K15 hK15 => ?_
                  refine awp_region rfl ?_
                  refine o_move (nm .i64 (k)) Gd.none rfl ?_
                  refine o_loadA [(bp ((iterZ m k (numS a)) < 0)), (AV.sl 1 (ns .u32 (digs ((iterZ m k (numS a))).natAbs)))] Gd.none Wn_tA89 rfl rfl rfl rfl rfl ?_
                  refine o_call [(AV.agg [(bp ((iterZ m k (numS a)) < 0)), (AV.sl 1 (ns .u32 (digs ((iterZ m k (numS a))).natAbs)))])] (AV.lit (.string (txt ((iterZ m k (numS a)))))) Gd.none Wn_tC71 rfl (c_wText ((iterZ m k (numS a))) (by first | assumption | omega | (simp only [Int.natAbs_neg]; omega))) ?_
                  refine o_store [(9001, (AO.blk (.loop (lrec fn tmps _ _ _ D .busy none)))), (101, (AO.var 89 [(bp ((iterZ m k (numS a)) < 0)), (AV.sl 1 (ns .u32 (digs ((iterZ m k (numS a))).natAbs)))])), (9005, (AO.pin [(.lit (.func (.yield l) #[] #[])), (AV.ref 8001 (0)), (AV.ref 8002 (0)), (nm .i64 (k))] us)), (8001, (AO.var 89 [(bp ((iterZ m k (numS a)) < 0)), (AV.sl 1 (ns .u32 (digs ((iterZ m k (numS a))).natAbs)))])), (8002, (AO.var 24 [(AV.lit (.int .i64 (m.mod))), (AV.sl 1 (is .i64 (m.mul))), (AV.sl 1 (is .i64 (m.add)))])), (9002, (.blk (.deferred (some [])))), (9003, (pinA [(5, (AV.ref 3 (0))), (6, (AV.ref 4 (0))), (7, (AV.ref 5 (0))), (8, (AV.ref 6 (0))), (9, (AV.ref 7 (0))), (32, (AV.clo 99 [(AV.ref 8001 (0)), (AV.ref 8002 (0))]))] tmps)), (9004, (pinL l D)), (3, (AO.var 3 [(AV.lit (.int .i64 (K)))])), (4, (AO.var 3 [(nm .i64 (k))])), (5, (AO.var 9 [(AV.lit (.string (({data := #[]} : ByteArray))))])), (6, (AO.var 27 [(nm .i64 (0))])), (7, (AO.var 89 [(bp ((numS (a)) < 0)), (AV.sl 1 (ns .u32 (digs ((numS (a))).natAbs)))]))] Gd.none Wn_tZ3 rfl rfl rfl rfl rfl rfl ?_
                  refine o_store [(9001, (AO.blk (.loop (lrec fn tmps _ _ _ D .busy none)))), (101, (AO.var 89 [(bp ((iterZ m k (numS a)) < 0)), (AV.sl 1 (ns .u32 (digs ((iterZ m k (numS a))).natAbs)))])), (9005, (AO.pin [(.lit (.func (.yield l) #[] #[])), (AV.ref 8001 (0)), (AV.ref 8002 (0)), (nm .i64 (k))] us)), (8001, (AO.var 89 [(bp ((iterZ m k (numS a)) < 0)), (AV.sl 1 (ns .u32 (digs ((iterZ m k (numS a))).natAbs)))])), (8002, (AO.var 24 [(AV.lit (.int .i64 (m.mod))), (AV.sl 1 (is .i64 (m.mul))), (AV.sl 1 (is .i64 (m.add)))])), (9002, (.blk (.deferred (some [])))), (9003, (pinA [(5, (AV.ref 3 (0))), (6, (AV.ref 4 (0))), (7, (AV.ref 5 (0))), (8, (AV.ref 6 (0))), (9, (AV.ref 7 (0))), (32, (AV.clo 99 [(AV.ref 8001 (0)), (AV.ref 8002 (0))]))] tmps)), (9004, (pinL l D)), (3, (AO.var 3 [(AV.lit (.int .i64 (K)))])), (4, (AO.var 3 [(nm .i64 (k))])), (5, (AO.var 9 [(AV.lit (.string (txt ((iterZ m k (numS a))))))])), (6, (AO.var 27 [(nm .i64 (0))])), (7, (AO.var 89 [(bp ((numS (a)) < 0)), (AV.sl 1 (ns .u32 (digs ((numS (a))).natAbs)))]))] Gd.none Wn_tZ9 rfl rfl rfl rfl rfl rfl ?_
                  refine o_store [(9001, (AO.blk (.loop (lrec fn tmps _ _ _ D .busy none)))), (101, (AO.var 89 [(bp ((iterZ m k (numS a)) < 0)), (AV.sl 1 (ns .u32 (digs ((iterZ m k (numS a))).natAbs)))])), (9005, (AO.pin [(.lit (.func (.yield l) #[] #[])), (AV.ref 8001 (0)), (AV.ref 8002 (0)), (nm .i64 (k))] us)), (8001, (AO.var 89 [(bp ((iterZ m k (numS a)) < 0)), (AV.sl 1 (ns .u32 (digs ((iterZ m k (numS a))).natAbs)))])), (8002, (AO.var 24 [(AV.lit (.int .i64 (m.mod))), (AV.sl 1 (is .i64 (m.mul))), (AV.sl 1 (is .i64 (m.add)))])), (9002, (.blk (.deferred (some [])))), (9003, (pinA [(5, (AV.ref 3 (0))), (6, (AV.ref 4 (0))), (7, (AV.ref 5 (0))), (8, (AV.ref 6 (0))), (9, (AV.ref 7 (0))), (32, (AV.clo 99 [(AV.ref 8001 (0)), (AV.ref 8002 (0))]))] tmps)), (9004, (pinL l D)), (3, (AO.var 3 [(AV.lit (.int .i64 (K)))])), (4, (AO.var 3 [(nm .i64 (k))])), (5, (AO.var 9 [(AV.lit (.string (txt ((iterZ m k (numS a))))))])), (6, (AO.var 27 [(nm .i64 (0))])), (7, (AO.var 89 [(bp ((numS (a)) < 0)), (AV.sl 1 (ns .u32 (digs ((numS (a))).natAbs)))]))] Gd.none Wn_tZ27 rfl rfl rfl rfl rfl rfl ?_
                  refine aops_end ?_
                  refine hK15 _ ?_
                  refine awp_ret ?_
                  exact ⟨[(9002, (.blk (.deferred (some [])))), (9003, (pinA [(5, (AV.ref 3 (0))), (6, (AV.ref 4 (0))), (7, (AV.ref 5 (0))), (8, (AV.ref 6 (0))), (9, (AV.ref 7 (0))), (32, (AV.clo 99 [(AV.ref 8001 (0)), (AV.ref 8002 (0))]))] tmps)), (9004, (pinL l D)), (4, (AO.var 3 [(nm .i64 (k))])), (5, (AO.var 9 [(AV.lit (.string (txt (iterZ m k (numS a)))))])), (6, (AO.var 27 [(nm .i64 (0))]))], Wk.sub (trivial) (And.intro (by first | rfl | exact row_ns (by simp) | exact congrArg (fun x => some (AO.blk (.stringIter _ x))) (by omega)) (And.intro (by first | rfl | exact row_ns (by simp) | exact congrArg (fun x => some (AO.blk (.stringIter _ x))) (by omega)) (And.intro (by first | rfl | exact row_ns (by simp) | exact congrArg (fun x => some (AO.blk (.stringIter _ x))) (by omega)) (And.intro (by first | rfl | exact row_ns (by simp) | exact congrArg (fun x => some (AO.blk (.stringIter _ x))) (by omega)) (And.intro (by first | rfl | exact row_ns (by simp) | exact congrArg (fun x => some (AO.blk (.stringIter _ x))) (by omega)) (And.intro (by first | rfl | exact row_ns (by simp) | exact congrArg (fun x => some (AO.blk (.stringIter _ x))) (by omega)) (And.intro (by first | rfl | exact row_ns (by simp) | exact congrArg (fun x => some (AO.blk (.stringIter _ x))) (by omega)) (And.intro (by first | rfl | exact row_ns (by simp) | exact congrArg (fun x => some (AO.blk (.stringIter _ x))) (by omega)) (trivial))))))))), rfl, rfl, _, rfl, .inr (.inl ⟨k, (iterZ m k (numS a)), (by cases k with | zero => exact absurd (cmpZ_lt.1 h6) (by simp only [iterZ]; omega) | succ j => rw [← hv j rfl, show K.toNat - j = (K.toNat - (j + 1)) + 1 by omega]; exact fallZ_yes hF (cmpZ_lt.1 h6)), rfl, rfl⟩)⟩
                · refine awp_seq fun K16 hK16 => ?_
                  refine awp_region rfl ?_
                  refine o_move (nm .i64 (k)) Gd.none rfl ?_
                  refine o_loadS (AV.lit (.int .i64 (K))) Gd.none Wn_tS3 rfl rfl rfl ?_
                  refine o_eql (a := (((k : Nat) : Int))) (c := (K)) Gd.none rfl rfl ?_
                  refine o_assign (bp ((((k : Nat) : Int)) = (K))) Gd.none rfl ?_
                  refine aops_end ?_
                  refine hK16 _ ?_
                  refine awp_condQ (q := (((k : Nat) : Int)) = (K)) rfl (fun h7 => ?_) (fun h7 => ?_)
                  · refine awp_seq fun K17 hK17 => ?_
                    refine awp_region rfl ?_
                    refine o_store [(9001, (AO.blk (.loop (lrec fn tmps _ _ _ D .busy none)))), (101, (AO.var 89 [(bp ((iterZ m k (numS a)) < 0)), (AV.sl 1 (ns .u32 (digs ((iterZ m k (numS a))).natAbs)))])), (9005, (AO.pin [(.lit (.func (.yield l) #[] #[])), (AV.ref 8001 (0)), (AV.ref 8002 (0)), (nm .i64 (k))] us)), (8001, (AO.var 89 [(bp ((iterZ m k (numS a)) < 0)), (AV.sl 1 (ns .u32 (digs ((iterZ m k (numS a))).natAbs)))])), (8002, (AO.var 24 [(AV.lit (.int .i64 (m.mod))), (AV.sl 1 (is .i64 (m.mul))), (AV.sl 1 (is .i64 (m.add)))])), (9002, (.blk (.deferred (some [])))), (9003, (pinA [(5, (AV.ref 3 (0))), (6, (AV.ref 4 (0))), (7, (AV.ref 5 (0))), (8, (AV.ref 6 (0))), (9, (AV.ref 7 (0))), (32, (AV.clo 99 [(AV.ref 8001 (0)), (AV.ref 8002 (0))]))] tmps)), (9004, (pinL l D)), (3, (AO.var 3 [(AV.lit (.int .i64 (K)))])), (4, (AO.var 3 [(nm .i64 (0))])), (5, (AO.var 9 [(AV.lit (.string (({data := #[]} : ByteArray))))])), (6, (AO.var 27 [(nm .i64 (0))])), (7, (AO.var 89 [(bp ((numS (a)) < 0)), (AV.sl 1 (ns .u32 (digs ((numS (a))).natAbs)))]))] Gd.none Wn_tZ3 rfl rfl rfl rfl rfl rfl ?_
                    refine o_store [(9001, (AO.blk (.loop (lrec fn tmps _ _ _ D .busy none)))), (101, (AO.var 89 [(bp ((iterZ m k (numS a)) < 0)), (AV.sl 1 (ns .u32 (digs ((iterZ m k (numS a))).natAbs)))])), (9005, (AO.pin [(.lit (.func (.yield l) #[] #[])), (AV.ref 8001 (0)), (AV.ref 8002 (0)), (nm .i64 (k))] us)), (8001, (AO.var 89 [(bp ((iterZ m k (numS a)) < 0)), (AV.sl 1 (ns .u32 (digs ((iterZ m k (numS a))).natAbs)))])), (8002, (AO.var 24 [(AV.lit (.int .i64 (m.mod))), (AV.sl 1 (is .i64 (m.mul))), (AV.sl 1 (is .i64 (m.add)))])), (9002, (.blk (.deferred (some [])))), (9003, (pinA [(5, (AV.ref 3 (0))), (6, (AV.ref 4 (0))), (7, (AV.ref 5 (0))), (8, (AV.ref 6 (0))), (9, (AV.ref 7 (0))), (32, (AV.clo 99 [(AV.ref 8001 (0)), (AV.ref 8002 (0))]))] tmps)), (9004, (pinL l D)), (3, (AO.var 3 [(AV.lit (.int .i64 (K)))])), (4, (AO.var 3 [(nm .i64 (0))])), (5, (AO.var 9 [(AV.lit (.string (({data := #[]} : ByteArray))))])), (6, (AO.var 27 [(nm .i64 (0))])), (7, (AO.var 89 [(bp ((numS (a)) < 0)), (AV.sl 1 (ns .u32 (digs ((numS (a))).natAbs)))]))] Gd.none Wn_tZ9 rfl rfl rfl rfl rfl rfl ?_
                    refine o_store [(9001, (AO.blk (.loop (lrec fn tmps _ _ _ D .busy none)))), (101, (AO.var 89 [(bp ((iterZ m k (numS a)) < 0)), (AV.sl 1 (ns .u32 (digs ((iterZ m k (numS a))).natAbs)))])), (9005, (AO.pin [(.lit (.func (.yield l) #[] #[])), (AV.ref 8001 (0)), (AV.ref 8002 (0)), (nm .i64 (k))] us)), (8001, (AO.var 89 [(bp ((iterZ m k (numS a)) < 0)), (AV.sl 1 (ns .u32 (digs ((iterZ m k (numS a))).natAbs)))])), (8002, (AO.var 24 [(AV.lit (.int .i64 (m.mod))), (AV.sl 1 (is .i64 (m.mul))), (AV.sl 1 (is .i64 (m.add)))])), (9002, (.blk (.deferred (some [])))), (9003, (pinA [(5, (AV.ref 3 (0))), (6, (AV.ref 4 (0))), (7, (AV.ref 5 (0))), (8, (AV.ref 6 (0))), (9, (AV.ref 7 (0))), (32, (AV.clo 99 [(AV.ref 8001 (0)), (AV.ref 8002 (0))]))] tmps)), (9004, (pinL l D)), (3, (AO.var 3 [(AV.lit (.int .i64 (K)))])), (4, (AO.var 3 [(nm .i64 (0))])), (5, (AO.var 9 [(AV.lit (.string (({data := #[]} : ByteArray))))])), (6, (AO.var 27 [(nm .i64 (4))])), (7, (AO.var 89 [(bp ((numS (a)) < 0)), (AV.sl 1 (ns .u32 (digs ((numS (a))).natAbs)))]))] Gd.none Wn_tZ27 rfl rfl rfl rfl rfl rfl ?_
                    refine aops_end ?_
                    refine hK17 _ ?_
                    refine awp_ret ?_
                    exact ⟨[(9002, (.blk (.deferred (some [])))), (9003, (pinA [(5, (AV.ref 3 (0))), (6, (AV.ref 4 (0))), (7, (AV.ref 5 (0))), (8, (AV.ref 6 (0))), (9, (AV.ref 7 (0))), (32, (AV.clo 99 [(AV.ref 8001 (0)), (AV.ref 8002 (0))]))] tmps)), (9004, (pinL l D)), (4, (AO.var 3 [(nm .i64 (0))])), (5, (AO.var 9 [(AV.lit (.string (({ data := #[] } : ByteArray))))])), (6, (AO.var 27 [(nm .i64 (4))]))], Wk.sub (trivial) (And.intro (by first | rfl | exact row_ns (by simp) | exact congrArg (fun x => some (AO.blk (.stringIter _ x))) (by omega)) (And.intro (by first | rfl | exact row_ns (by simp) | exact congrArg (fun x => some (AO.blk (.stringIter _ x))) (by omega)) (And.intro (by first | rfl | exact row_ns (by simp) | exact congrArg (fun x => some (AO.blk (.stringIter _ x))) (by omega)) (And.intro (by first | rfl | exact row_ns (by simp) | exact congrArg (fun x => some (AO.blk (.stringIter _ x))) (by omega)) (And.intro (by first | rfl | exact row_ns (by simp) | exact congrArg (fun x => some (AO.blk (.stringIter _ x))) (by omega)) (And.intro (by first | rfl | exact row_ns (by simp) | exact congrArg (fun x => some (AO.blk (.stringIter _ x))) (by omega)) (And.intro (by first | rfl | exact row_ns (by simp) | exact congrArg (fun x => some (AO.blk (.stringIter _ x))) (by omega)) (And.intro (by first | rfl | exact row_ns (by simp) | exact congrArg (fun x => some (AO.blk (.stringIter _ x))) (by omega)) (trivial))))))))), rfl, rfl, _, rfl, .inr (.inr (⟨(by cases k with | zero => omega | succ j => rw [← hv j rfl, show K.toNat - j = 0 + 1 by omega]; exact fallZ_go hF (fun h => h6 (cmpZ_lt.2 h))), rfl, rfl⟩))⟩
                  · refine awp_skip ?_
                    exact ⟨[(8001, (AO.var 89 [(bp ((iterZ m k (numS a)) < 0)), (AV.sl 1 (ns .u32 (digs ((iterZ m k (numS a))).natAbs)))])), (8002, (AO.var 24 [(AV.lit (.int .i64 (m.mod))), (AV.sl 1 (is .i64 (m.mul))), (AV.sl 1 (is .i64 (m.add)))])), (9002, (.blk (.deferred (some [])))), (9003, (pinA [(5, (AV.ref 3 (0))), (6, (AV.ref 4 (0))), (7, (AV.ref 5 (0))), (8, (AV.ref 6 (0))), (9, (AV.ref 7 (0))), (32, (AV.clo 99 [(AV.ref 8001 (0)), (AV.ref 8002 (0))]))] tmps)), (9004, (pinL l D)), (3, (AO.var 3 [(AV.lit (.int .i64 (K)))])), (4, (AO.var 3 [(nm .i64 (0))])), (5, (AO.var 9 [(AV.lit (.string (({data := #[]} : ByteArray))))])), (6, (AO.var 27 [(nm .i64 (0))])), (7, (AO.var 89 [(bp ((numS (a)) < 0)), (AV.sl 1 (ns .u32 (digs ((numS (a))).natAbs)))]))], Wk.sub (trivial) (And.intro (by first | rfl | exact row_ns (by simp) | exact congrArg (fun x => some (AO.blk (.stringIter _ x))) (by omega)) (And.intro (by first | rfl | exact row_ns (by simp) | exact congrArg (fun x => some (AO.blk (.stringIter _ x))) (by omega)) (And.intro (by first | rfl | exact row_ns (by simp) | exact congrArg (fun x => some (AO.blk (.stringIter _ x))) (by omega)) (And.intro (by first | rfl | exact row_ns (by simp) | exact congrArg (fun x => some (AO.blk (.stringIter _ x))) (by omega)) (And.intro (by first | rfl | exact row_ns (by simp) | exact congrArg (fun x => some (AO.blk (.stringIter _ x))) (by omega)) (And.intro (by first | rfl | exact row_ns (by simp) | exact congrArg (fun x => some (AO.blk (.stringIter _ x))) (by omega)) (And.intro (by first | rfl | exact row_ns (by simp) | exact congrArg (fun x => some (AO.blk (.stringIter _ x))) (by omega)) (And.intro (by first | rfl | exact row_ns (by simp) | exact congrArg (fun x => some (AO.blk (.stringIter _ x))) (by omega)) (And.intro (by first | rfl | exact row_ns (by simp) | exact congrArg (fun x => some (AO.blk (.stringIter _ x))) (by omega)) (And.intro (by first | rfl | exact row_ns (by simp) | exact congrArg (fun x => some (AO.blk (.stringIter _ x))) (by omega)) (And.intro (by first | rfl | exact row_ns (by simp) | exact congrArg (fun x => some (AO.blk (.stringIter _ x))) (by omega)) (And.intro (by first | rfl | exact row_ns (by simp) | exact congrArg (fun x => some (AO.blk (.stringIter _ x))) (by omega)) (trivial))))))))))))), rfl, rfl, _, rfl, (by omega), (fun j hj => by cases k with | zero => (have : j = 0 := by omega); subst this; rfl | succ i => (have : j = i + 1 := by omega); subst this; rw [← hv i rfl, show K.toNat - i = (K.toNat - (i + 1)) + 1 by omega]; exact (fallZ_go hF (fun h => h6 (cmpZ_lt.2 h))).symm), (by have := step_len hM (fit_len hF) (by decide); simp only [iterZ]; omega), rfl⟩
          case nx0 =>
            rintro fn tmps D l pe m' (⟨hf, rfl, rfl⟩ | ⟨q, x, hf, rfl, rfl⟩ | ⟨hf, rfl, rfl⟩)
            · refine postT_ret ⟨[(nm .i64 (0)), (AV.lit (.string (({ data := #[] } : ByteArray)))), (nm .i64 (3))], And.intro ⟨4, (AO.var 3 [(nm .i64 (0))]), rfl, rfl, rfl, Or.inr ⟨Wn_tS3, _, rfl, AV.le_refl _⟩⟩ (And.intro ⟨5, (AO.var 9 [(AV.lit (.string (({ data := #[] } : ByteArray))))]), rfl, rfl, rfl, Or.inr ⟨Wn_tS9, _, rfl, AV.le_refl _⟩⟩ (And.intro ⟨6, (AO.var 27 [(nm .i64 (3))]), rfl, rfl, rfl, Or.inr ⟨Wn_tS27, _, rfl, AV.le_refl _⟩⟩ (trivial))), rfl, ?_⟩ rfl rfl
              exact tup_eq3 (by unfold fallK fallF; rw [if_pos ⟨hm', ha', by omega, by omega⟩, hf]) (by unfold fallT fallF; rw [if_neg (by rw [hf]; simp)]) (by unfold fallE fallF; rw [if_pos ⟨hm', ha'⟩, if_pos (by omega), hf])
            · refine postT_ret ⟨[(nm .i64 (q)), (AV.lit (.string (txt x))), (nm .i64 (0))], And.intro ⟨4, (AO.var 3 [(nm .i64 (q))]), rfl, rfl, rfl, Or.inr ⟨Wn_tS3, _, rfl, AV.le_refl _⟩⟩ (And.intro ⟨5, (AO.var 9 [(AV.lit (.string (txt x)))]), rfl, rfl, rfl, Or.inr ⟨Wn_tS9, _, rfl, AV.le_refl _⟩⟩ (And.intro ⟨6, (AO.var 27 [(nm .i64 (0))]), rfl, rfl, rfl, Or.inr ⟨Wn_tS27, _, rfl, AV.le_refl _⟩⟩ (trivial))), rfl, ?_⟩ rfl rfl
              exact tup_eq3 (by unfold fallK fallF; rw [if_pos ⟨hm', ha', by omega, by omega⟩, hf]) (by unfold fallT fallF; rw [if_pos ⟨hm', ha', by omega, by omega, by rw [hf]⟩, hf]) (by unfold fallE fallF; rw [if_pos ⟨hm', ha'⟩, if_pos (by omega), hf])
            · refine postT_ret ⟨[(nm .i64 (0)), (AV.lit (.string (({ data := #[] } : ByteArray)))), (nm .i64 (4))], And.intro ⟨4, (AO.var 3 [(nm .i64 (0))]), rfl, rfl, rfl, Or.inr ⟨Wn_tS3, _, rfl, AV.le_refl _⟩⟩ (And.intro ⟨5, (AO.var 9 [(AV.lit (.string (({ data := #[] } : ByteArray))))]), rfl, rfl, rfl, Or.inr ⟨Wn_tS9, _, rfl, AV.le_refl _⟩⟩ (And.intro ⟨6, (AO.var 27 [(nm .i64 (4))]), rfl, rfl, rfl, Or.inr ⟨Wn_tS27, _, rfl, AV.le_refl _⟩⟩ (trivial))), rfl, ?_⟩ rfl rfl
              exact tup_eq3 (by unfold fallK fallF; rw [if_pos ⟨hm', ha', by omega, by omega⟩, hf]) (by unfold fallT fallF; rw [if_neg (by rw [hf]; simp)]) (by unfold fallE fallF; rw [if_pos ⟨hm', ha'⟩, if_pos (by omega), hf])

end Go.Proofs.YtkngglpnejdicaaDoor
