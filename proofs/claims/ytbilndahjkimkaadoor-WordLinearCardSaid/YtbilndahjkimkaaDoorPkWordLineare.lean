/- The law 'katabasislaw03.WordLinear' is true for every map, string and number: a number is mapped by the linear map of its word as by Run. Its condition: none but the row's own (the listed tables of the library). -/
import Derived.Test.YtbilndahjkimkaaDoorPkWordLineard
set_option linter.unusedVariables false
set_option linter.unusedSimpArgs false
namespace Go.Proofs.YtbilndahjkimkaaDoor
open Go Go.Ab Go.Mth
theorem Wn_tO9 : tyZero cx.P 9 = some [(Go.Value.string {data := #[]})] := by kernel_rfl
theorem Wn_tO26 : tyZero cx.P 26 = some [(Go.Value.int IntKind.i64 0)] := by kernel_rfl
theorem Wn_tA24 : tyAgg cx.P 24 = some 3 := by kernel_rfl
theorem Wn_tC46 : callable cx.P 46 = true := by kernel_rfl
theorem Wn_tZ9 : tySize cx.P 9 = some 1 := by kernel_rfl
theorem Wn_tZ26 : tySize cx.P 26 = some 1 := by kernel_rfl
theorem Wn_tS26 : tySc cx.P 26 = true := by kernel_rfl
theorem Wn_tS9 : tySc cx.P 9 = true := by kernel_rfl
theorem Wn_tC47 : callable cx.P 47 = true := by kernel_rfl
theorem Wn_tS3 : tySc cx.P 3 = true := by kernel_rfl
theorem Wn_tC48 : callable cx.P 48 = true := by kernel_rfl
theorem Wn_tC76 : callable cx.P 76 = true := by kernel_rfl
theorem Wn_tC91 : callable cx.P 91 = true := by kernel_rfl
theorem Wn_tO79 : tyZero cx.P 79 = some [(Go.Value.bool false), (Go.Value.slice none 0 0)] := by kernel_rfl
theorem Wn_tZ79 : tySize cx.P 79 = some 2 := by kernel_rfl
theorem Wn_tA79 : tyAgg cx.P 79 = some 2 := by kernel_rfl
theorem Wn_tC77 : callable cx.P 77 = true := by kernel_rfl
theorem Wn_tC64 : callable cx.P 64 = true := by kernel_rfl
theorem c_sRun (m : MapM) (a : ByteArray) (K : Int) (hsz : a.size ≤ 9223372036854775807) : ECalls cx 39 [(mapV m), (AV.lit (.string (a))), (AV.lit (.int .i64 (K)))] (.tup [.lit (.string (runS m a K)), nm .i64 (runE m a K)]) := by
  refine ecalls_of_awpT Tryd.func39 (c := _) rfl (Nat.le_of_ble_eq_true rfl) ?_
  show awpT cx 41 [] _ (postT cx Tryd.f39 _) ⟨[(0, (mapV m)), (1, (AV.lit (.string (a)))), (2, (AV.lit (.int .i64 (K))))], []⟩
  refine awpT_seq fun K0 hK0 => ?_
  refine awpT_lift ?_
  refine awp_region rfl ?_
  refine o_box 2 [(AV.lit (.int .i64 (m.mod))), (AV.sl 1 (is .i64 (m.mul))), (AV.sl 1 (is .i64 (m.add)))] Gd.none rfl rfl ?_
  refine o_box 3 [(AV.lit (.int .i64 (K)))] Gd.none rfl rfl ?_
  refine o_alloc 4 [(AV.lit (.string (({data := #[]} : ByteArray))))] Gd.none Wn_tO9 rfl rfl rfl ?_
  refine o_alloc 5 [(nm .i64 (0))] Gd.none Wn_tO26 rfl rfl rfl ?_
  refine aops_end ?_
  refine hK0 _ _ ?_
  refine awpT_seq fun K1 hK1 => ?_
  refine awpT_lift ?_
  refine awp_block ?_
  refine awp_seq fun K2 hK2 => ?_
  refine awp_region rfl ?_
  refine o_loadA [(AV.lit (.int .i64 (m.mod))), (AV.sl 1 (is .i64 (m.mul))), (AV.sl 1 (is .i64 (m.add)))] Gd.none Wn_tA24 rfl rfl rfl rfl rfl ?_
  refine o_call [(AV.agg [(AV.lit (.int .i64 (m.mod))), (AV.sl 1 (is .i64 (m.mul))), (AV.sl 1 (is .i64 (m.add)))])] (AV.lit (.bool (okM m))) Gd.none Wn_tC46 rfl (c_sValid m) ?_
  refine o_not (b := okM m) Gd.none rfl ?_
  refine o_move (AV.lit (.bool (!(okM m)))) Gd.none rfl ?_
  refine o_split (b := !(okM m)) 14 rfl (fun h1 => ?_) (fun h1 => ?_)
  · have hm' : okM m = false := by simpa using h1
    refine o_skip (b := !(okM m)) rfl rfl h1 ?_
    refine o_skip (b := !(okM m)) rfl rfl h1 ?_
    refine o_skip (b := !(okM m)) rfl rfl h1 ?_
    refine o_pickT (b := !(okM m)) (AV.lit (.bool true)) Gd.none rfl h1 rfl ?_
    refine o_assign (AV.lit (.bool true)) Gd.none rfl ?_
    refine aops_end ?_
    refine hK2 _ ?_
    refine awp_condB (b := true) rfl (fun _ => ?_) (fun hh => absurd (hh.symm.trans rfl) (by decide))
    refine awp_seq fun K3 hK3 => ?_
    refine awp_region rfl ?_
    refine o_store [(5, (AO.var 26 [(nm .i64 (0))])), (4, (AO.var 9 [(AV.lit (.string (({data := #[]} : ByteArray))))])), (3, (AO.var 3 [(AV.lit (.int .i64 (K)))])), (2, (AO.var 24 [(AV.lit (.int .i64 (m.mod))), (AV.sl 1 (is .i64 (m.mul))), (AV.sl 1 (is .i64 (m.add)))]))] Gd.none Wn_tZ9 rfl rfl rfl rfl rfl rfl ?_
    refine o_store [(5, (AO.var 26 [(nm .i64 (1))])), (4, (AO.var 9 [(AV.lit (.string (({data := #[]} : ByteArray))))])), (3, (AO.var 3 [(AV.lit (.int .i64 (K)))])), (2, (AO.var 24 [(AV.lit (.int .i64 (m.mod))), (AV.sl 1 (is .i64 (m.mul))), (AV.sl 1 (is .i64 (m.add)))]))] Gd.none Wn_tZ26 rfl rfl rfl rfl rfl rfl ?_
    refine aops_end ?_
    refine hK3 _ ?_
    refine awp_ret ?_
    refine postT_ret0 ⟨[(AV.lit (.string (({data := #[]} : ByteArray)))), (nm .i64 (1))], And.intro ⟨4, (AO.var 9 [(AV.lit (.string (({data := #[]} : ByteArray))))]), rfl, rfl, rfl, Or.inr ⟨Wn_tS9, _, rfl, AV.le_refl _⟩⟩ (And.intro ⟨5, (AO.var 26 [(nm .i64 (1))]), rfl, rfl, rfl, Or.inr ⟨Wn_tS26, _, rfl, AV.le_refl _⟩⟩ (trivial)), rfl, ?_⟩
    refine tup_eq2 (by unfold runS; rw [if_neg (by simp [hm'])]) (by unfold runE; rw [if_neg (by simp [hm'])])
  · have hm' : okM m = true := by simpa using h1
    have hM := okM_iff.1 hm'
    refine o_move (AV.lit (.string (a))) (Gd.yes rfl rfl h1) rfl ?_
    refine o_call [(AV.lit (.string (a)))] (AV.lit (.bool (okS (a)))) (Gd.yes rfl rfl h1) Wn_tC47 rfl (c_nValid (a) (by first | assumption | decide | omega)) ?_
    refine o_not (b := okS (a)) (Gd.yes rfl rfl h1) rfl ?_
    refine o_pickF (b := !(okM m)) (AV.lit (.bool (!(okS (a))))) Gd.none rfl h1 rfl ?_
    refine o_assign (AV.lit (.bool (!(okS (a))))) Gd.none rfl ?_
    refine aops_end ?_
    refine hK2 _ ?_
    refine awp_condB (b := !(okS (a))) rfl (fun h2 => ?_) (fun h2 => ?_)
    · have ha' : okS a = false := by simpa using h2
      refine awp_seq fun K4 hK4 => ?_
      refine awp_region rfl ?_
      refine o_store [(5, (AO.var 26 [(nm .i64 (0))])), (4, (AO.var 9 [(AV.lit (.string (({data := #[]} : ByteArray))))])), (3, (AO.var 3 [(AV.lit (.int .i64 (K)))])), (2, (AO.var 24 [(AV.lit (.int .i64 (m.mod))), (AV.sl 1 (is .i64 (m.mul))), (AV.sl 1 (is .i64 (m.add)))]))] Gd.none Wn_tZ9 rfl rfl rfl rfl rfl rfl ?_
      refine o_store [(5, (AO.var 26 [(nm .i64 (1))])), (4, (AO.var 9 [(AV.lit (.string (({data := #[]} : ByteArray))))])), (3, (AO.var 3 [(AV.lit (.int .i64 (K)))])), (2, (AO.var 24 [(AV.lit (.int .i64 (m.mod))), (AV.sl 1 (is .i64 (m.mul))), (AV.sl 1 (is .i64 (m.add)))]))] Gd.none Wn_tZ26 rfl rfl rfl rfl rfl rfl ?_
      refine aops_end ?_
      refine hK4 _ ?_
      refine awp_ret ?_
      refine postT_ret0 ⟨[(AV.lit (.string (({data := #[]} : ByteArray)))), (nm .i64 (1))], And.intro ⟨4, (AO.var 9 [(AV.lit (.string (({data := #[]} : ByteArray))))]), rfl, rfl, rfl, Or.inr ⟨Wn_tS9, _, rfl, AV.le_refl _⟩⟩ (And.intro ⟨5, (AO.var 26 [(nm .i64 (1))]), rfl, rfl, rfl, Or.inr ⟨Wn_tS26, _, rfl, AV.le_refl _⟩⟩ (trivial)), rfl, ?_⟩
      refine tup_eq2 (by unfold runS; rw [if_neg (by simp [ha'])]) (by unfold runE; rw [if_neg (by simp [ha'])])
    · have ha' : okS a = true := by simpa using h2
      have hlz := len_numS (okS_iff.1 ha')
      refine awp_seq fun K5 hK5 => ?_
      refine awp_region rfl ?_
      refine o_loadS (AV.lit (.int .i64 (K))) Gd.none Wn_tS3 rfl rfl rfl ?_
      refine o_lss (a := (K)) (c := (((0 : Nat) : Int))) Gd.none rfl rfl ?_
      refine o_move (bp ((K) < (((0 : Nat) : Int)))) Gd.none rfl ?_
      refine o_splitP (q := (K) < (((0 : Nat) : Int))) 22 rfl (fun h3 => ?_) (fun h3 => ?_)
      · refine o_skip (b := decide ((K) < (((0 : Nat) : Int)))) rfl rfl (decide_eq_true h3) ?_
        refine o_skip (b := decide ((K) < (((0 : Nat) : Int)))) rfl rfl (decide_eq_true h3) ?_
        refine o_pickT (b := decide ((K) < (((0 : Nat) : Int)))) (AV.lit (.bool true)) Gd.none rfl (decide_eq_true h3) rfl ?_
        refine o_assign (AV.lit (.bool true)) Gd.none rfl ?_
        refine aops_end ?_
        refine hK5 _ ?_
        refine awp_condB (b := true) rfl (fun _ => ?_) (fun hh => absurd (hh.symm.trans rfl) (by decide))
        refine awp_seq fun K6 hK6 => ?_
        refine awp_region rfl ?_
        refine o_store [(5, (AO.var 26 [(nm .i64 (0))])), (4, (AO.var 9 [(AV.lit (.string (({data := #[]} : ByteArray))))])), (3, (AO.var 3 [(AV.lit (.int .i64 (K)))])), (2, (AO.var 24 [(AV.lit (.int .i64 (m.mod))), (AV.sl 1 (is .i64 (m.mul))), (AV.sl 1 (is .i64 (m.add)))]))] Gd.none Wn_tZ9 rfl rfl rfl rfl rfl rfl ?_
        refine o_store [(5, (AO.var 26 [(nm .i64 (2))])), (4, (AO.var 9 [(AV.lit (.string (({data := #[]} : ByteArray))))])), (3, (AO.var 3 [(AV.lit (.int .i64 (K)))])), (2, (AO.var 24 [(AV.lit (.int .i64 (m.mod))), (AV.sl 1 (is .i64 (m.mul))), (AV.sl 1 (is .i64 (m.add)))]))] Gd.none Wn_tZ26 rfl rfl rfl rfl rfl rfl ?_
        refine aops_end ?_
        refine hK6 _ ?_
        refine awp_ret ?_
        refine postT_ret0 ⟨[(AV.lit (.string (({data := #[]} : ByteArray)))), (nm .i64 (2))], And.intro ⟨4, (AO.var 9 [(AV.lit (.string (({data := #[]} : ByteArray))))]), rfl, rfl, rfl, Or.inr ⟨Wn_tS9, _, rfl, AV.le_refl _⟩⟩ (And.intro ⟨5, (AO.var 26 [(nm .i64 (2))]), rfl, rfl, rfl, Or.inr ⟨Wn_tS26, _, rfl, AV.le_refl _⟩⟩ (trivial)), rfl, ?_⟩
        refine tup_eq2 (by unfold runS; rw [if_neg (by omega)]) (by unfold runE; rw [if_pos ⟨hm', ha'⟩, if_neg (by omega)])
      · refine o_loadS (AV.lit (.int .i64 (K))) (Gd.yes rfl rfl (decide_eq_false h3)) Wn_tS3 rfl rfl rfl ?_
        refine o_gtr (a := (K)) (c := (((20000 : Nat) : Int))) (Gd.yes rfl rfl (decide_eq_false h3)) rfl rfl ?_
        refine o_pickF (b := decide ((K) < (((0 : Nat) : Int)))) (bp ((((20000 : Nat) : Int)) < (K))) Gd.none rfl (decide_eq_false h3) rfl ?_
        refine o_assign (bp ((((20000 : Nat) : Int)) < (K))) Gd.none rfl ?_
        refine aops_end ?_
        refine hK5 _ ?_
        refine awp_condQ (q := (((20000 : Nat) : Int)) < (K)) rfl (fun h4 => ?_) (fun h4 => ?_)
        · refine awp_seq fun K7 hK7 => ?_
          refine awp_region rfl ?_
          refine o_store [(5, (AO.var 26 [(nm .i64 (0))])), (4, (AO.var 9 [(AV.lit (.string (({data := #[]} : ByteArray))))])), (3, (AO.var 3 [(AV.lit (.int .i64 (K)))])), (2, (AO.var 24 [(AV.lit (.int .i64 (m.mod))), (AV.sl 1 (is .i64 (m.mul))), (AV.sl 1 (is .i64 (m.add)))]))] Gd.none Wn_tZ9 rfl rfl rfl rfl rfl rfl ?_
          refine o_store [(5, (AO.var 26 [(nm .i64 (2))])), (4, (AO.var 9 [(AV.lit (.string (({data := #[]} : ByteArray))))])), (3, (AO.var 3 [(AV.lit (.int .i64 (K)))])), (2, (AO.var 24 [(AV.lit (.int .i64 (m.mod))), (AV.sl 1 (is .i64 (m.mul))), (AV.sl 1 (is .i64 (m.add)))]))] Gd.none Wn_tZ26 rfl rfl rfl rfl rfl rfl ?_
          refine aops_end ?_
          refine hK7 _ ?_
          refine awp_ret ?_
          refine postT_ret0 ⟨[(AV.lit (.string (({data := #[]} : ByteArray)))), (nm .i64 (2))], And.intro ⟨4, (AO.var 9 [(AV.lit (.string (({data := #[]} : ByteArray))))]), rfl, rfl, rfl, Or.inr ⟨Wn_tS9, _, rfl, AV.le_refl _⟩⟩ (And.intro ⟨5, (AO.var 26 [(nm .i64 (2))]), rfl, rfl, rfl, Or.inr ⟨Wn_tS26, _, rfl, AV.le_refl _⟩⟩ (trivial)), rfl, ?_⟩
          refine tup_eq2 (by unfold runS; rw [if_neg (by omega)]) (by unfold runE; rw [if_pos ⟨hm', ha'⟩, if_neg (by omega)])
        · refine awp_skip ?_
          refine hK1 _ _ ?_
          refine awpT_seq fun K8 hK8 => ?_
          refine awpT_seq fun K9 hK9 => ?_
          refine awpT_lift ?_
          refine awp_regionD rfl ?_
          refine o_loadA [(AV.lit (.int .i64 (m.mod))), (AV.sl 1 (is .i64 (m.mul))), (AV.sl 1 (is .i64 (m.add)))] Gd.none Wn_tA24 rfl rfl rfl rfl rfl ?_
          refine o_move (AV.lit (.string (a))) Gd.none rfl ?_
          refine o_call [(AV.lit (.string (a)))] (intW ((numS (a)))) Gd.none Wn_tC48 rfl (c_wParse (a) (by first | assumption | exact okS_iff.1 (by assumption))) ?_
          refine o_callW 8001 8002 [(AV.agg [(AV.lit (.int .i64 (m.mod))), (AV.sl 1 (is .i64 (m.mul))), (AV.sl 1 (is .i64 (m.add)))]), (intW ((numS (a))))] Gd.none Wn_tC76 rfl rfl rfl rfl (c_sWalk m (numS (a))) rfl rfl ?_
          refine aops_end ⟨by kernel_rfl, ?_⟩
          refine hK9 _ _ ?_
          refine awpT_block ?_
          refine awpT_wk (σ' := ⟨[(5, (AV.ref 3 (0))), (6, (AV.ref 4 (0))), (7, (AV.ref 5 (0))), (29, (AV.clo 91 [(AV.ref 8001 (0)), (AV.ref 8002 (0))]))], [(8001, (AO.var 79 [(bp ((numS (a)) < 0)), (AV.sl 1 (ns .u32 (digs ((numS (a))).natAbs)))])), (8002, (AO.var 24 [(AV.lit (.int .i64 (m.mod))), (AV.sl 1 (is .i64 (m.mul))), (AV.sl 1 (is .i64 (m.add)))])), (3, (AO.var 3 [(AV.lit (.int .i64 (K)))])), (4, (AO.var 9 [(AV.lit (.string (({data := #[]} : ByteArray))))])), (5, (AO.var 26 [(nm .i64 (0))]))]⟩) (Wk.sub (And.intro rfl (And.intro rfl (And.intro rfl (And.intro rfl (trivial))))) (And.intro rfl (And.intro rfl (And.intro rfl (And.intro rfl (And.intro rfl (trivial))))))) ?_
          refine awpT_range (C := cx) rfl (gf := 91) (fnI := Tryd.f91) (caps := [.ref 8001 0, .ref 8002 0]) (so := [(5, (AV.ref 3 (0))), (6, (AV.ref 4 (0))), (7, (AV.ref 5 (0))), (29, (AV.clo 91 [(AV.ref 8001 (0)), (AV.ref 8002 (0))]))]) (And.intro rfl (And.intro rfl (And.intro rfl (And.intro rfl (trivial))))) Tryd.func91 rfl Wn_tC91 (by decide) rfl rfl rfl rfl rfl (fun (fn : FuncId) (tmps : Array Value) (D l : Nat) (pe : Option Code) (m' : List (Nat × AO)) => ((¬ Fit (runZ m K.toNat (numS a))) ∧ pe = some .ret ∧ m' = [(4, (AO.var 9 [(AV.lit (.string (({ data := #[] } : ByteArray))))])), (5, (AO.var 26 [(nm .i64 (3))]))]) ∨ ((Fit (runZ m K.toNat (numS a))) ∧ pe = some .ret ∧ m' = [(4, (AO.var 9 [(AV.lit (.string (txt (runZ m K.toNat (numS a)))))])), (5, (AO.var 26 [(nm .i64 (0))]))])) ?it0 ?nx0
          case it0 =>
            intro fn tmps D l hsz
            refine awp_mono (it_Walk m (numS a) hM l D fn tmps _ _ _ (20000) (fun (k : Nat) (mm : List (Nat × AO)) => ((k : Int) ≤ K) ∧ (runZ m (K.toNat - k) (iterZ m k (numS a)) = runZ m K.toNat (numS a)) ∧ ((digs (iterZ m k (numS a)).natAbs).length ≤ 1000000) ∧ mm = (((9002, (.blk (.deferred (some [])))) :: (9003, (pinA [(5, (AV.ref 3 (0))), (6, (AV.ref 4 (0))), (7, (AV.ref 5 (0))), (29, (AV.clo 91 [(AV.ref 8001 (0)), (AV.ref 8002 (0))]))] tmps)) :: (9004, (pinL l D)) :: (3, (AO.var 3 [(AV.lit (.int .i64 (K)))])) :: (4, (AO.var 9 [(AV.lit (.string (({data := #[]} : ByteArray))))])) :: (5, (AO.var 26 [(nm .i64 (0))])) :: []))) (fun c mm => ∃ m2, mm = (((9002, (.blk (.deferred (some [])))) :: (9003, (pinA [(5, (AV.ref 3 (0))), (6, (AV.ref 4 (0))), (7, (AV.ref 5 (0))), (29, (AV.clo 91 [(AV.ref 8001 (0)), (AV.ref 8002 (0))]))] tmps)) :: (9004, (pinL l D)) :: m2)) ∧ (fun (fn : FuncId) (tmps : Array Value) (D l : Nat) (pe : Option Code) (m' : List (Nat × AO)) => ((¬ Fit (runZ m K.toNat (numS a))) ∧ pe = some .ret ∧ m' = [(4, (AO.var 9 [(AV.lit (.string (({ data := #[] } : ByteArray))))])), (5, (AO.var 26 [(nm .i64 (3))]))]) ∨ ((Fit (runZ m K.toNat (numS a))) ∧ pe = some .ret ∧ m' = [(4, (AO.var 9 [(AV.lit (.string (txt (runZ m K.toNat (numS a)))))])), (5, (AO.var 26 [(nm .i64 (0))]))])) fn tmps D l (some c) m2) ?R0 ⟨(by omega), rfl, (by have := hlz; simp only [iterZ]; omega), rfl⟩ (Wk.sub (And.intro rfl (And.intro rfl (And.intro rfl (trivial)))) (And.intro rfl (And.intro rfl (And.intro rfl (And.intro rfl (And.intro rfl (And.intro rfl (And.intro rfl (And.intro rfl (And.intro rfl (trivial))))))))))) (by omega) rfl) ?fin0
            case fin0 =>
              rintro e σ ⟨rfl, c, mm', ⟨m2, rfl, hX⟩, hwk⟩
              exact ⟨.inl rfl, .done, some c, m2, (by decide), hX, (by rcases hX with ⟨_, _, rfl⟩ | ⟨_, _, rfl⟩ <;> rfl), (by rcases hX with ⟨_, _, rfl⟩ | ⟨_, _, rfl⟩ <;> rfl), hwk⟩
            case R0 =>
              rintro k _ ⟨hk, hr, hln, rfl⟩
              refine ⟨(by omega), hln, yldAt_of_round (so := [(5, (AV.ref 3 (0))), (6, (AV.ref 4 (0))), (7, (AV.ref 5 (0))), (29, (AV.clo 91 [(AV.ref 8001 (0)), (AV.ref 8002 (0))]))]) (n := 41) (D' := D) rfl hsz (by decide) rfl rfl rfl rfl rfl rfl fun us => ?_⟩
              show awp cx 41 _ _ ⟨[(31, (AV.agg [(bp ((iterZ m k (numS a)) < 0)), (AV.sl 1 (ns .u32 (digs ((iterZ m k (numS a))).natAbs)))])), (30, (nm .i64 (k))), (5, (AV.ref 3 (0))), (6, (AV.ref 4 (0))), (7, (AV.ref 5 (0))), (29, (AV.clo 91 [(AV.ref 8001 (0)), (AV.ref 8002 (0))]))], [(9005, (AO.pin [(.lit (.func (.yield l) #[] #[])), (AV.ref 8001 (0)), (AV.ref 8002 (0)), (nm .i64 (k))] us)), (9001, (AO.blk (.loop (lrec fn tmps _ _ _ D .ready none)))), (8001, (AO.var 79 [(bp ((iterZ m k (numS a)) < 0)), (AV.sl 1 (ns .u32 (digs ((iterZ m k (numS a))).natAbs)))])), (8002, (AO.var 24 [(AV.lit (.int .i64 (m.mod))), (AV.sl 1 (is .i64 (m.mul))), (AV.sl 1 (is .i64 (m.add)))])), (9002, (.blk (.deferred (some [])))), (9003, (pinA [(5, (AV.ref 3 (0))), (6, (AV.ref 4 (0))), (7, (AV.ref 5 (0))), (29, (AV.clo 91 [(AV.ref 8001 (0)), (AV.ref 8002 (0))]))] tmps)), (9004, (pinL l D)), (3, (AO.var 3 [(AV.lit (.int .i64 (K)))])), (4, (AO.var 9 [(AV.lit (.string (({data := #[]} : ByteArray))))])), (5, (AO.var 26 [(nm .i64 (0))]))]⟩
              refine awp_seq fun K10 hK10 => ?_
              refine awp_region rfl ?_
              refine o_assign (nm .i64 (k)) Gd.none rfl ?_
              refine aops_end ?_
              refine hK10 _ ?_
              refine awp_region rfl ?_
              refine o_alloc 101 [(AV.lit (.bool false)), (AV.lit (.slice none 0 0))] Gd.none Wn_tO79 rfl rfl rfl ?_
              refine o_store [(101, (AO.var 79 [(bp ((iterZ m k (numS a)) < 0)), (AV.sl 1 (ns .u32 (digs ((iterZ m k (numS a))).natAbs)))])), (9005, (AO.pin [(.lit (.func (.yield l) #[] #[])), (AV.ref 8001 (0)), (AV.ref 8002 (0)), (nm .i64 (k))] us)), (9001, (AO.blk (.loop (lrec fn tmps _ _ _ D .ready none)))), (8001, (AO.var 79 [(bp ((iterZ m k (numS a)) < 0)), (AV.sl 1 (ns .u32 (digs ((iterZ m k (numS a))).natAbs)))])), (8002, (AO.var 24 [(AV.lit (.int .i64 (m.mod))), (AV.sl 1 (is .i64 (m.mul))), (AV.sl 1 (is .i64 (m.add)))])), (9002, (.blk (.deferred (some [])))), (9003, (pinA [(5, (AV.ref 3 (0))), (6, (AV.ref 4 (0))), (7, (AV.ref 5 (0))), (29, (AV.clo 91 [(AV.ref 8001 (0)), (AV.ref 8002 (0))]))] tmps)), (9004, (pinL l D)), (3, (AO.var 3 [(AV.lit (.int .i64 (K)))])), (4, (AO.var 9 [(AV.lit (.string (({data := #[]} : ByteArray))))])), (5, (AO.var 26 [(nm .i64 (0))]))] Gd.none Wn_tZ79 rfl rfl rfl rfl rfl rfl ?_
              refine aops_end ?_
              refine ⟨[(31, (AV.agg [(bp ((iterZ m k (numS a)) < 0)), (AV.sl 1 (ns .u32 (digs ((iterZ m k (numS a))).natAbs)))])), (30, (nm .i64 (k))), (5, (AV.ref 3 (0))), (6, (AV.ref 4 (0))), (7, (AV.ref 5 (0))), (29, (AV.clo 91 [(AV.ref 8001 (0)), (AV.ref 8002 (0))])), (8, (nm .i64 (k))), (9, (AV.ref 101 (0)))], [(101, (AO.var 79 [(bp ((iterZ m k (numS a)) < 0)), (AV.sl 1 (ns .u32 (digs ((iterZ m k (numS a))).natAbs)))])), (9005, (AO.pin [(.lit (.func (.yield l) #[] #[])), (AV.ref 8001 (0)), (AV.ref 8002 (0)), (nm .i64 (k))] us)), (8001, (AO.var 79 [(bp ((iterZ m k (numS a)) < 0)), (AV.sl 1 (ns .u32 (digs ((iterZ m k (numS a))).natAbs)))])), (8002, (AO.var 24 [(AV.lit (.int .i64 (m.mod))), (AV.sl 1 (is .i64 (m.mul))), (AV.sl 1 (is .i64 (m.add)))])), (9002, (.blk (.deferred (some [])))), (9003, (pinA [(5, (AV.ref 3 (0))), (6, (AV.ref 4 (0))), (7, (AV.ref 5 (0))), (29, (AV.clo 91 [(AV.ref 8001 (0)), (AV.ref 8002 (0))]))] tmps)), (9004, (pinL l D)), (3, (AO.var 3 [(AV.lit (.int .i64 (K)))])), (4, (AO.var 9 [(AV.lit (.string (({data := #[]} : ByteArray))))])), (5, (AO.var 26 [(nm .i64 (0))]))], Wk.sub (And.intro rfl (And.intro rfl (And.intro rfl (And.intro rfl (And.intro rfl (And.intro rfl (And.intro rfl (And.intro rfl (trivial))))))))) (And.intro rfl (And.intro rfl (And.intro rfl (And.intro rfl (And.intro rfl (And.intro rfl (And.intro rfl (And.intro rfl (And.intro rfl (And.intro rfl (And.intro rfl (trivial)))))))))))), rfl, ?_⟩
              refine awp_block ?_
              refine awp_block ?_
              refine awp_seq fun K11 hK11 => ?_
              refine awp_region rfl ?_
              refine o_loadA [(bp ((iterZ m k (numS a)) < 0)), (AV.sl 1 (ns .u32 (digs ((iterZ m k (numS a))).natAbs)))] Gd.none Wn_tA79 rfl rfl rfl rfl rfl ?_
              refine o_call [(AV.agg [(bp ((iterZ m k (numS a)) < 0)), (AV.sl 1 (ns .u32 (digs ((iterZ m k (numS a))).natAbs)))])] (bp (¬ Fit ((iterZ m k (numS a))))) Gd.none Wn_tC77 rfl (c_sLong ((iterZ m k (numS a))) (by first | assumption | omega | (simp only [Int.natAbs_neg]; omega))) ?_
              refine o_assign (bp (¬ Fit ((iterZ m k (numS a))))) Gd.none rfl ?_
              refine aops_end ?_
              refine hK11 _ ?_
              refine awp_condQ (q := ¬ Fit ((iterZ m k (numS a)))) rfl (fun h5 => ?_) (fun h5 => ?_)
              · refine awp_seq fun K12 hK12 => ?_
                refine awp_region rfl ?_
                refine o_store [(9001, (AO.blk (.loop (lrec fn tmps _ _ _ D .busy none)))), (101, (AO.var 79 [(bp ((iterZ m k (numS a)) < 0)), (AV.sl 1 (ns .u32 (digs ((iterZ m k (numS a))).natAbs)))])), (9005, (AO.pin [(.lit (.func (.yield l) #[] #[])), (AV.ref 8001 (0)), (AV.ref 8002 (0)), (nm .i64 (k))] us)), (8001, (AO.var 79 [(bp ((iterZ m k (numS a)) < 0)), (AV.sl 1 (ns .u32 (digs ((iterZ m k (numS a))).natAbs)))])), (8002, (AO.var 24 [(AV.lit (.int .i64 (m.mod))), (AV.sl 1 (is .i64 (m.mul))), (AV.sl 1 (is .i64 (m.add)))])), (9002, (.blk (.deferred (some [])))), (9003, (pinA [(5, (AV.ref 3 (0))), (6, (AV.ref 4 (0))), (7, (AV.ref 5 (0))), (29, (AV.clo 91 [(AV.ref 8001 (0)), (AV.ref 8002 (0))]))] tmps)), (9004, (pinL l D)), (3, (AO.var 3 [(AV.lit (.int .i64 (K)))])), (4, (AO.var 9 [(AV.lit (.string (({data := #[]} : ByteArray))))])), (5, (AO.var 26 [(nm .i64 (0))]))] Gd.none Wn_tZ9 rfl rfl rfl rfl rfl rfl ?_
                refine o_store [(9001, (AO.blk (.loop (lrec fn tmps _ _ _ D .busy none)))), (101, (AO.var 79 [(bp ((iterZ m k (numS a)) < 0)), (AV.sl 1 (ns .u32 (digs ((iterZ m k (numS a))).natAbs)))])), (9005, (AO.pin [(.lit (.func (.yield l) #[] #[])), (AV.ref 8001 (0)), (AV.ref 8002 (0)), (nm .i64 (k))] us)), (8001, (AO.var 79 [(bp ((iterZ m k (numS a)) < 0)), (AV.sl 1 (ns .u32 (digs ((iterZ m k (numS a))).natAbs)))])), (8002, (AO.var 24 [(AV.lit (.int .i64 (m.mod))), (AV.sl 1 (is .i64 (m.mul))), (AV.sl 1 (is .i64 (m.add)))])), (9002, (.blk (.deferred (some [])))), (9003, (pinA [(5, (AV.ref 3 (0))), (6, (AV.ref 4 (0))), (7, (AV.ref 5 (0))), (29, (AV.clo 91 [(AV.ref 8001 (0)), (AV.ref 8002 (0))]))] tmps)), (9004, (pinL l D)), (3, (AO.var 3 [(AV.lit (.int .i64 (K)))])), (4, (AO.var 9 [(AV.lit (.string (({data := #[]} : ByteArray))))])), (5, (AO.var 26 [(nm .i64 (3))]))] Gd.none Wn_tZ26 rfl rfl rfl rfl rfl rfl ?_
                refine aops_end ?_
                refine hK12 _ ?_
                refine awp_ret ?_
                exact ⟨[(9002, (.blk (.deferred (some [])))), (9003, (pinA [(5, (AV.ref 3 (0))), (6, (AV.ref 4 (0))), (7, (AV.ref 5 (0))), (29, (AV.clo 91 [(AV.ref 8001 (0)), (AV.ref 8002 (0))]))] tmps)), (9004, (pinL l D)), (4, (AO.var 9 [(AV.lit (.string (({ data := #[] } : ByteArray))))])), (5, (AO.var 26 [(nm .i64 (3))]))], Wk.sub (trivial) (And.intro (by first | rfl | exact row_ns (by simp) | exact congrArg (fun x => some (AO.blk (.stringIter _ x))) (by omega) | (rw [← hz]; first | done | rfl)) (And.intro (by first | rfl | exact row_ns (by simp) | exact congrArg (fun x => some (AO.blk (.stringIter _ x))) (by omega) | (rw [← hz]; first | done | rfl)) (And.intro (by first | rfl | exact row_ns (by simp) | exact congrArg (fun x => some (AO.blk (.stringIter _ x))) (by omega) | (rw [← hz]; first | done | rfl)) (And.intro (by first | rfl | exact row_ns (by simp) | exact congrArg (fun x => some (AO.blk (.stringIter _ x))) (by omega) | (rw [← hz]; first | done | rfl)) (And.intro (by first | rfl | exact row_ns (by simp) | exact congrArg (fun x => some (AO.blk (.stringIter _ x))) (by omega) | (rw [← hz]; first | done | rfl)) (And.intro (by first | rfl | exact row_ns (by simp) | exact congrArg (fun x => some (AO.blk (.stringIter _ x))) (by omega) | (rw [← hz]; first | done | rfl)) (And.intro (by first | rfl | exact row_ns (by simp) | exact congrArg (fun x => some (AO.blk (.stringIter _ x))) (by omega) | (rw [← hz]; first | done | rfl)) (trivial)))))))), rfl, rfl, _, rfl, .inl ⟨(by rw [← hr, runZ_bad h5]; exact h5), rfl, rfl⟩⟩
              · have hF : Fit (iterZ m k (numS a)) := Decidable.not_not.1 h5
                refine awp_seq fun K13 hK13 => ?_
                refine awp_region rfl ?_
                refine o_move (nm .i64 (k)) Gd.none rfl ?_
                refine o_loadS (AV.lit (.int .i64 (K))) Gd.none Wn_tS3 rfl rfl rfl ?_
                refine o_eql (a := (((k : Nat) : Int))) (c := (K)) Gd.none rfl rfl ?_
                refine o_assign (bp ((((k : Nat) : Int)) = (K))) Gd.none rfl ?_
                refine aops_end ?_
                refine hK13 _ ?_
                refine awp_condQ (q := (((k : Nat) : Int)) = (K)) rfl (fun h6 => ?_) (fun h6 => ?_)
                · have hz : (iterZ m k (numS a)) = runZ m K.toNat (numS a) := by rw [← hr, show K.toNat - k = 0 by omega]; rfl
                  have hfz : Fit (runZ m K.toNat (numS a)) := by rw [← hz]; exact hF
                  refine awp_seq fun K14 hK14 => ?_
                  refine awp_region rfl ?_
                  refine o_loadA [(bp ((iterZ m k (numS a)) < 0)), (AV.sl 1 (ns .u32 (digs ((iterZ m k (numS a))).natAbs)))] Gd.none Wn_tA79 rfl rfl rfl rfl rfl ?_
                  refine o_call [(AV.agg [(bp ((iterZ m k (numS a)) < 0)), (AV.sl 1 (ns .u32 (digs ((iterZ m k (numS a))).natAbs)))])] (AV.lit (.string (txt ((iterZ m k (numS a)))))) Gd.none Wn_tC64 rfl (c_wText ((iterZ m k (numS a))) (by first | assumption | omega | (simp only [Int.natAbs_neg]; omega))) ?_
                  refine o_store [(9001, (AO.blk (.loop (lrec fn tmps _ _ _ D .busy none)))), (101, (AO.var 79 [(bp ((iterZ m k (numS a)) < 0)), (AV.sl 1 (ns .u32 (digs ((iterZ m k (numS a))).natAbs)))])), (9005, (AO.pin [(.lit (.func (.yield l) #[] #[])), (AV.ref 8001 (0)), (AV.ref 8002 (0)), (nm .i64 (k))] us)), (8001, (AO.var 79 [(bp ((iterZ m k (numS a)) < 0)), (AV.sl 1 (ns .u32 (digs ((iterZ m k (numS a))).natAbs)))])), (8002, (AO.var 24 [(AV.lit (.int .i64 (m.mod))), (AV.sl 1 (is .i64 (m.mul))), (AV.sl 1 (is .i64 (m.add)))])), (9002, (.blk (.deferred (some [])))), (9003, (pinA [(5, (AV.ref 3 (0))), (6, (AV.ref 4 (0))), (7, (AV.ref 5 (0))), (29, (AV.clo 91 [(AV.ref 8001 (0)), (AV.ref 8002 (0))]))] tmps)), (9004, (pinL l D)), (3, (AO.var 3 [(AV.lit (.int .i64 (K)))])), (4, (AO.var 9 [(AV.lit (.string (txt ((iterZ m k (numS a))))))])), (5, (AO.var 26 [(nm .i64 (0))]))] Gd.none Wn_tZ9 rfl rfl rfl rfl rfl rfl ?_
                  refine o_store [(9001, (AO.blk (.loop (lrec fn tmps _ _ _ D .busy none)))), (101, (AO.var 79 [(bp ((iterZ m k (numS a)) < 0)), (AV.sl 1 (ns .u32 (digs ((iterZ m k (numS a))).natAbs)))])), (9005, (AO.pin [(.lit (.func (.yield l) #[] #[])), (AV.ref 8001 (0)), (AV.ref 8002 (0)), (nm .i64 (k))] us)), (8001, (AO.var 79 [(bp ((iterZ m k (numS a)) < 0)), (AV.sl 1 (ns .u32 (digs ((iterZ m k (numS a))).natAbs)))])), (8002, (AO.var 24 [(AV.lit (.int .i64 (m.mod))), (AV.sl 1 (is .i64 (m.mul))), (AV.sl 1 (is .i64 (m.add)))])), (9002, (.blk (.deferred (some [])))), (9003, (pinA [(5, (AV.ref 3 (0))), (6, (AV.ref 4 (0))), (7, (AV.ref 5 (0))), (29, (AV.clo 91 [(AV.ref 8001 (0)), (AV.ref 8002 (0))]))] tmps)), (9004, (pinL l D)), (3, (AO.var 3 [(AV.lit (.int .i64 (K)))])), (4, (AO.var 9 [(AV.lit (.string (txt ((iterZ m k (numS a))))))])), (5, (AO.var 26 [(nm .i64 (0))]))] Gd.none Wn_tZ26 rfl rfl rfl rfl rfl rfl ?_
                  refine aops_end ?_
                  refine hK14 _ ?_
                  refine awp_ret ?_
                  exact ⟨[(9002, (.blk (.deferred (some [])))), (9003, (pinA [(5, (AV.ref 3 (0))), (6, (AV.ref 4 (0))), (7, (AV.ref 5 (0))), (29, (AV.clo 91 [(AV.ref 8001 (0)), (AV.ref 8002 (0))]))] tmps)), (9004, (pinL l D)), (4, (AO.var 9 [(AV.lit (.string (txt (runZ m K.toNat (numS a)))))])), (5, (AO.var 26 [(nm .i64 (0))]))], Wk.sub (trivial) (And.intro (by first | rfl | exact row_ns (by simp) | exact congrArg (fun x => some (AO.blk (.stringIter _ x))) (by omega) | (rw [← hz]; first | done | rfl)) (And.intro (by first | rfl | exact row_ns (by simp) | exact congrArg (fun x => some (AO.blk (.stringIter _ x))) (by omega) | (rw [← hz]; first | done | rfl)) (And.intro (by first | rfl | exact row_ns (by simp) | exact congrArg (fun x => some (AO.blk (.stringIter _ x))) (by omega) | (rw [← hz]; first | done | rfl)) (And.intro (by first | rfl | exact row_ns (by simp) | exact congrArg (fun x => some (AO.blk (.stringIter _ x))) (by omega) | (rw [← hz]; first | done | rfl)) (And.intro (by first | rfl | exact row_ns (by simp) | exact congrArg (fun x => some (AO.blk (.stringIter _ x))) (by omega) | (rw [← hz]; first | done | rfl)) (And.intro (by first | rfl | exact row_ns (by simp) | exact congrArg (fun x => some (AO.blk (.stringIter _ x))) (by omega) | (rw [← hz]; first | done | rfl)) (And.intro (by first | rfl | exact row_ns (by simp) | exact congrArg (fun x => some (AO.blk (.stringIter _ x))) (by omega) | (rw [← hz]; first | done | rfl)) (trivial)))))))), rfl, rfl, _, rfl, .inr (⟨hfz, rfl, rfl⟩)⟩
                · refine awp_skip ?_
                  exact ⟨[(8001, (AO.var 79 [(bp ((iterZ m k (numS a)) < 0)), (AV.sl 1 (ns .u32 (digs ((iterZ m k (numS a))).natAbs)))])), (8002, (AO.var 24 [(AV.lit (.int .i64 (m.mod))), (AV.sl 1 (is .i64 (m.mul))), (AV.sl 1 (is .i64 (m.add)))])), (9002, (.blk (.deferred (some [])))), (9003, (pinA [(5, (AV.ref 3 (0))), (6, (AV.ref 4 (0))), (7, (AV.ref 5 (0))), (29, (AV.clo 91 [(AV.ref 8001 (0)), (AV.ref 8002 (0))]))] tmps)), (9004, (pinL l D)), (3, (AO.var 3 [(AV.lit (.int .i64 (K)))])), (4, (AO.var 9 [(AV.lit (.string (({data := #[]} : ByteArray))))])), (5, (AO.var 26 [(nm .i64 (0))]))], Wk.sub (trivial) (And.intro (by first | rfl | exact row_ns (by simp) | exact congrArg (fun x => some (AO.blk (.stringIter _ x))) (by omega) | (rw [← hz]; first | done | rfl)) (And.intro (by first | rfl | exact row_ns (by simp) | exact congrArg (fun x => some (AO.blk (.stringIter _ x))) (by omega) | (rw [← hz]; first | done | rfl)) (And.intro (by first | rfl | exact row_ns (by simp) | exact congrArg (fun x => some (AO.blk (.stringIter _ x))) (by omega) | (rw [← hz]; first | done | rfl)) (And.intro (by first | rfl | exact row_ns (by simp) | exact congrArg (fun x => some (AO.blk (.stringIter _ x))) (by omega) | (rw [← hz]; first | done | rfl)) (And.intro (by first | rfl | exact row_ns (by simp) | exact congrArg (fun x => some (AO.blk (.stringIter _ x))) (by omega) | (rw [← hz]; first | done | rfl)) (And.intro (by first | rfl | exact row_ns (by simp) | exact congrArg (fun x => some (AO.blk (.stringIter _ x))) (by omega) | (rw [← hz]; first | done | rfl)) (And.intro (by first | rfl | exact row_ns (by simp) | exact congrArg (fun x => some (AO.blk (.stringIter _ x))) (by omega) | (rw [← hz]; first | done | rfl)) (And.intro (by first | rfl | exact row_ns (by simp) | exact congrArg (fun x => some (AO.blk (.stringIter _ x))) (by omega) | (rw [← hz]; first | done | rfl)) (And.intro (by first | rfl | exact row_ns (by simp) | exact congrArg (fun x => some (AO.blk (.stringIter _ x))) (by omega) | (rw [← hz]; first | done | rfl)) (And.intro (by first | rfl | exact row_ns (by simp) | exact congrArg (fun x => some (AO.blk (.stringIter _ x))) (by omega) | (rw [← hz]; first | done | rfl)) (trivial))))))))))), rfl, rfl, _, rfl, (by omega), (by rw [← hr, show K.toNat - k = (K.toNat - (k + 1)) + 1 by omega, runZ, if_pos hF]; rfl), (by have := step_len hM (fit_len hF) (by decide); simp only [iterZ]; omega), rfl⟩
          case nx0 =>
            rintro fn tmps D l pe m' (⟨hbad, rfl, rfl⟩ | ⟨hfit, rfl, rfl⟩)
            · refine postT_ret ⟨[(AV.lit (.string (({ data := #[] } : ByteArray)))), (nm .i64 (3))], And.intro ⟨4, (AO.var 9 [(AV.lit (.string (({ data := #[] } : ByteArray))))]), rfl, rfl, rfl, Or.inr ⟨Wn_tS9, _, rfl, AV.le_refl _⟩⟩ (And.intro ⟨5, (AO.var 26 [(nm .i64 (3))]), rfl, rfl, rfl, Or.inr ⟨Wn_tS26, _, rfl, AV.le_refl _⟩⟩ (trivial)), rfl, ?_⟩ rfl rfl
              refine tup_eq2 (by unfold runS; rw [if_pos ⟨hm', ha', by omega, by omega⟩, toldS, if_neg hbad]) (by unfold runE; rw [if_pos ⟨hm', ha'⟩, if_pos (by omega), toldE, if_neg hbad])
            · refine postT_ret ⟨[(AV.lit (.string (txt (runZ m K.toNat (numS a))))), (nm .i64 (0))], And.intro ⟨4, (AO.var 9 [(AV.lit (.string (txt (runZ m K.toNat (numS a)))))]), rfl, rfl, rfl, Or.inr ⟨Wn_tS9, _, rfl, AV.le_refl _⟩⟩ (And.intro ⟨5, (AO.var 26 [(nm .i64 (0))]), rfl, rfl, rfl, Or.inr ⟨Wn_tS26, _, rfl, AV.le_refl _⟩⟩ (trivial)), rfl, ?_⟩ rfl rfl
              refine tup_eq2 (by unfold runS; rw [if_pos ⟨hm', ha', by omega, by omega⟩, toldS, if_pos hfit]) (by unfold runE; rw [if_pos ⟨hm', ha'⟩, if_pos (by omega), toldE, if_pos hfit])

end Go.Proofs.YtbilndahjkimkaaDoor

set_option linter.unusedVariables false
set_option linter.unusedSimpArgs false
namespace Go.Proofs.YtbilndahjkimkaaDoor
open Go Go.Ab Go.Mth
theorem Xg2_tA24 : tyAgg cx.P 24 = some 3 := by kernel_rfl
theorem Xg2_tC14 : callable cx.P 14 = true := by kernel_rfl
theorem Xg2_tC16 : callable cx.P 16 = true := by kernel_rfl
theorem Xg2_tC15 : callable cx.P 15 = true := by kernel_rfl
theorem Xg2_tC12 : callable cx.P 12 = true := by kernel_rfl
theorem Xg2_tC39 : callable cx.P 39 = true := by kernel_rfl
theorem Xg2_tC20 : callable cx.P 20 = true := by kernel_rfl
theorem Xg2_tO41 : tyZero cx.P 41 = some [(Go.Value.string {data := #[]}), (Go.Value.string {data := #[]}), (Go.Value.string {data := #[]})] := by kernel_rfl
theorem Xg2_tZ41 : tySize cx.P 41 = some 3 := by kernel_rfl
theorem Xg2_tA41 : tyAgg cx.P 41 = some 3 := by kernel_rfl
theorem Xg2_tC28 : callable cx.P 28 = true := by kernel_rfl
theorem c_WordLinear (m : MapM) (a : ByteArray) (K : Int) (ha : a.size ≤ 9223372036854775807) : ECalls cx 9 [(mapV m), (AV.lit (.string (a))), (AV.lit (.int .i64 (K)))] (.lit (.bool true)) := by
  refine ecalls_of_awp Tryd.func9 (c := _) rfl (Nat.le_of_ble_eq_true rfl) ?_
  show awp cx 101 _ (postF cx Tryd.f9 _) ⟨[(0, (mapV m)), (1, (AV.lit (.string (a)))), (2, (AV.lit (.int .i64 (K))))], []⟩
  refine awp_seq fun K0 hK0 => ?_
  refine awp_region rfl ?_
  refine o_box 2 [(AV.lit (.int .i64 (m.mod))), (AV.sl 1 (is .i64 (m.mul))), (AV.sl 1 (is .i64 (m.add)))] Gd.none rfl rfl ?_
  refine o_assign (AV.lit (.bool false)) Gd.none rfl ?_
  refine aops_end ?_
  refine hK0 _ ?_
  refine awp_seq fun K1 hK1 => ?_
  refine awp_seq fun K2 hK2 => ?_
  refine awp_region rfl ?_
  refine o_loadA [(AV.lit (.int .i64 (m.mod))), (AV.sl 1 (is .i64 (m.mul))), (AV.sl 1 (is .i64 (m.add)))] Gd.none Xg2_tA24 rfl rfl rfl rfl rfl ?_
  refine o_call [(AV.agg [(AV.lit (.int .i64 (m.mod))), (AV.sl 1 (is .i64 (m.mul))), (AV.sl 1 (is .i64 (m.add)))])] (AV.lit (.bool (okM m))) Gd.none Xg2_tC14 rfl (c_gValid m) ?_
  refine o_not (b := okM m) Gd.none rfl ?_
  refine o_move (AV.lit (.bool (!(okM m)))) Gd.none rfl ?_
  refine o_split (b := !(okM m)) 19 rfl (fun h1 => ?_) (fun h1 => ?_)
  · have hm' : ¬ okM m = true := by simpa using h1
    refine o_skip (b := !(okM m)) rfl rfl h1 ?_
    refine o_skip (b := !(okM m)) rfl rfl h1 ?_
    refine o_skip (b := !(okM m)) rfl rfl h1 ?_
    refine o_pickT (b := !(okM m)) (AV.lit (.bool true)) Gd.none rfl h1 rfl ?_
    refine o_move (AV.lit (.bool true)) Gd.none rfl ?_
    refine o_skip (b := true) rfl rfl rfl ?_
    refine o_skip (b := true) rfl rfl rfl ?_
    refine o_pickT (b := true) (AV.lit (.bool true)) Gd.none rfl rfl rfl ?_
    refine o_move (AV.lit (.bool true)) Gd.none rfl ?_
    refine o_skip (b := true) rfl rfl rfl ?_
    refine o_skip (b := true) rfl rfl rfl ?_
    refine o_pickT (b := true) (AV.lit (.bool true)) Gd.none rfl rfl rfl ?_
    refine aops_end ?_
    refine hK2 _ ?_
    refine awp_condB (b := true) rfl (fun _ => ?_) (fun hh => absurd (hh.symm.trans rfl) (by decide))
    refine awp_seq fun K3 hK3 => ?_
    refine awp_region rfl ?_
    refine o_call [] (AV.lit (.bool true)) Gd.none Xg2_tC16 rfl c_l3Awake ?_
    refine o_assign (AV.lit (.bool true)) Gd.none rfl ?_
    refine aops_end ?_
    refine hK3 _ ?_
    refine awp_ret ?_
    refine post_ret ⟨[(AV.lit (.bool true))], And.intro (AV.le_refl _) (trivial), rfl, ?_⟩
    first | rfl | simp [bp]
  · have hm' : okM m = true := by simpa using h1
    have hM := okM_iff.1 hm'
    refine o_move (AV.lit (.string (a))) (Gd.yes rfl rfl h1) rfl ?_
    refine o_call [(AV.lit (.string (a)))] (AV.lit (.bool (okS (a)))) (Gd.yes rfl rfl h1) Xg2_tC15 rfl (c_rValid (a) (by first | assumption | decide | omega)) ?_
    refine o_not (b := okS (a)) (Gd.yes rfl rfl h1) rfl ?_
    refine o_pickF (b := !(okM m)) (AV.lit (.bool (!(okS (a))))) Gd.none rfl h1 rfl ?_
    refine o_move (AV.lit (.bool (!(okS (a))))) Gd.none rfl ?_
    refine o_split (b := !(okS (a))) 24 rfl (fun h2 => ?_) (fun h2 => ?_)
    · refine o_skip (b := !(okS (a))) rfl rfl h2 ?_
      refine o_skip (b := !(okS (a))) rfl rfl h2 ?_
      refine o_pickT (b := !(okS (a))) (AV.lit (.bool true)) Gd.none rfl h2 rfl ?_
      refine o_move (AV.lit (.bool true)) Gd.none rfl ?_
      refine o_skip (b := true) rfl rfl rfl ?_
      refine o_skip (b := true) rfl rfl rfl ?_
      refine o_pickT (b := true) (AV.lit (.bool true)) Gd.none rfl rfl rfl ?_
      refine aops_end ?_
      refine hK2 _ ?_
      refine awp_condB (b := true) rfl (fun _ => ?_) (fun hh => absurd (hh.symm.trans rfl) (by decide))
      refine awp_seq fun K4 hK4 => ?_
      refine awp_region rfl ?_
      refine o_call [] (AV.lit (.bool true)) Gd.none Xg2_tC16 rfl c_l3Awake ?_
      refine o_assign (AV.lit (.bool true)) Gd.none rfl ?_
      refine aops_end ?_
      refine hK4 _ ?_
      refine awp_ret ?_
      refine post_ret ⟨[(AV.lit (.bool true))], And.intro (AV.le_refl _) (trivial), rfl, ?_⟩
      first | rfl | simp [bp]
    · have ha' : okS a = true := by simpa using h2
      have hS := okS_iff.1 ha'
      have hlz := len_numS hS
      refine o_move (AV.lit (.int .i64 (K))) (Gd.yes rfl rfl h2) rfl ?_
      refine o_lss (a := (K)) (c := (((0 : Nat) : Int))) (Gd.yes rfl rfl h2) rfl rfl ?_
      refine o_pickF (b := !(okS (a))) (bp ((K) < (((0 : Nat) : Int)))) Gd.none rfl h2 rfl ?_
      refine o_move (bp ((K) < (((0 : Nat) : Int)))) Gd.none rfl ?_
      refine o_splitP (q := (K) < (((0 : Nat) : Int))) 28 rfl (fun h3 => ?_) (fun h3 => ?_)
      · refine o_skip (b := decide ((K) < (((0 : Nat) : Int)))) rfl rfl (decide_eq_true h3) ?_
        refine o_skip (b := decide ((K) < (((0 : Nat) : Int)))) rfl rfl (decide_eq_true h3) ?_
        refine o_pickT (b := decide ((K) < (((0 : Nat) : Int)))) (AV.lit (.bool true)) Gd.none rfl (decide_eq_true h3) rfl ?_
        refine aops_end ?_
        refine hK2 _ ?_
        refine awp_condB (b := true) rfl (fun _ => ?_) (fun hh => absurd (hh.symm.trans rfl) (by decide))
        refine awp_seq fun K5 hK5 => ?_
        refine awp_region rfl ?_
        refine o_call [] (AV.lit (.bool true)) Gd.none Xg2_tC16 rfl c_l3Awake ?_
        refine o_assign (AV.lit (.bool true)) Gd.none rfl ?_
        refine aops_end ?_
        refine hK5 _ ?_
        refine awp_ret ?_
        refine post_ret ⟨[(AV.lit (.bool true))], And.intro (AV.le_refl _) (trivial), rfl, ?_⟩
        first | rfl | simp [bp]
      · refine o_move (AV.lit (.int .i64 (K))) (Gd.yes rfl rfl (decide_eq_false h3)) rfl ?_
        refine o_gtr (a := (K)) (c := (((200 : Nat) : Int))) (Gd.yes rfl rfl (decide_eq_false h3)) rfl rfl ?_
        refine o_pickF (b := decide ((K) < (((0 : Nat) : Int)))) (bp ((((200 : Nat) : Int)) < (K))) Gd.none rfl (decide_eq_false h3) rfl ?_
        refine aops_end ?_
        refine hK2 _ ?_
        refine awp_condQ (q := (((200 : Nat) : Int)) < (K)) rfl (fun h4 => ?_) (fun h4 => ?_)
        · refine awp_seq fun K6 hK6 => ?_
          refine awp_region rfl ?_
          refine o_call [] (AV.lit (.bool true)) Gd.none Xg2_tC16 rfl c_l3Awake ?_
          refine o_assign (AV.lit (.bool true)) Gd.none rfl ?_
          refine aops_end ?_
          refine hK6 _ ?_
          refine awp_ret ?_
          refine post_ret ⟨[(AV.lit (.bool true))], And.intro (AV.le_refl _) (trivial), rfl, ?_⟩
          first | rfl | simp [bp]
        · refine awp_skip ?_
          refine hK1 _ ?_
          refine awp_seq fun K7 hK7 => ?_
          refine awp_region rfl ?_
          refine o_loadA [(AV.lit (.int .i64 (m.mod))), (AV.sl 1 (is .i64 (m.mul))), (AV.sl 1 (is .i64 (m.add)))] Gd.none Xg2_tA24 rfl rfl rfl rfl rfl ?_
          refine o_move (AV.lit (.string (a))) Gd.none rfl ?_
          refine o_move (AV.lit (.int .i64 (K))) Gd.none rfl ?_
          refine o_call [(AV.agg [(AV.lit (.int .i64 (m.mod))), (AV.sl 1 (is .i64 (m.mul))), (AV.sl 1 (is .i64 (m.add)))]), (AV.lit (.string (a))), (AV.lit (.int .i64 (K)))] (AV.tup [(AV.sl 1 (is .i64 (wordL m (a) (K)))), (nm .i64 (wordE m (a) (K)))]) Gd.none Xg2_tC12 rfl (c_oWord m (a) (K) (by first | assumption | decide | omega)) ?_
          refine o_move (AV.tup [(AV.sl 1 (is .i64 (wordL m (a) (K)))), (nm .i64 (wordE m (a) (K)))]) Gd.none rfl ?_
          refine o_extract (AV.sl 1 (is .i64 (wordL m (a) (K)))) Gd.none rfl rfl ?_
          refine o_extract (nm .i64 (wordE m (a) (K))) Gd.none rfl rfl ?_
          refine o_assign (AV.sl 1 (is .i64 (wordL m (a) (K)))) Gd.none rfl ?_
          refine o_assign (nm .i64 (wordE m (a) (K))) Gd.none rfl ?_
          refine aops_end ?_
          refine hK7 _ ?_
          refine awp_seq fun K8 hK8 => ?_
          refine awp_region rfl ?_
          refine o_loadA [(AV.lit (.int .i64 (m.mod))), (AV.sl 1 (is .i64 (m.mul))), (AV.sl 1 (is .i64 (m.add)))] Gd.none Xg2_tA24 rfl rfl rfl rfl rfl ?_
          refine o_move (AV.lit (.string (a))) Gd.none rfl ?_
          refine o_move (AV.lit (.int .i64 (K))) Gd.none rfl ?_
          refine o_call [(AV.agg [(AV.lit (.int .i64 (m.mod))), (AV.sl 1 (is .i64 (m.mul))), (AV.sl 1 (is .i64 (m.add)))]), (AV.lit (.string (a))), (AV.lit (.int .i64 (K)))] (AV.tup [(AV.lit (.string (runS m (a) (K)))), (nm .i64 (runE m (a) (K)))]) Gd.none Xg2_tC39 rfl (c_sRun m (a) (K) (by first | assumption | decide | omega)) ?_
          refine o_move (AV.tup [(AV.lit (.string (runS m (a) (K)))), (nm .i64 (runE m (a) (K)))]) Gd.none rfl ?_
          refine o_extract (AV.lit (.string (runS m (a) (K)))) Gd.none rfl rfl ?_
          refine o_extract (nm .i64 (runE m (a) (K))) Gd.none rfl rfl ?_
          refine o_assign (AV.lit (.string (runS m (a) (K)))) Gd.none rfl ?_
          refine o_assign (nm .i64 (runE m (a) (K))) Gd.none rfl ?_
          refine aops_end ?_
          refine hK8 _ ?_
          refine awp_seq fun K9 hK9 => ?_
          refine awp_seq fun K10 hK10 => ?_
          refine awp_region rfl ?_
          refine o_move (nm .i64 (wordE m (a) (K))) Gd.none rfl ?_
          refine n_neq (wordE m (a) (K)) (0) Gd.none rfl rfl ?_
          refine aops_end ?_
          refine hK10 _ ?_
          refine awp_condQ (q := (wordE m (a) (K)) ≠ (0)) rfl (fun h5 => ?_) (fun h5 => ?_)
          · have e3 := word_3 ⟨hm', ha'⟩ (by omega) h5
            have hr3 : runE m a K = 3 := (runE_e ⟨hm', ha'⟩ (by omega)).trans (toldE_no (fitK_no e3.2))
            refine awp_seq fun K11 hK11 => ?_
            refine awp_region rfl ?_
            refine o_move (nm .i64 (wordE m (a) (K))) Gd.none rfl ?_
            refine n_as (v' := (nm .i64 (3))) (by rw [e3.1]) ?_
            refine n_eql (3) (3) Gd.none rfl rfl ?_
            refine o_move (bp ((3) = (3))) Gd.none rfl ?_
            refine o_move (nm .i64 (runE m (a) (K))) (Gd.yes rfl rfl (decide_eq_true (by decide))) rfl ?_
            refine n_as (v' := (nm .i64 (3))) (by rw [hr3]) ?_
            refine n_eql (3) (3) (Gd.yes rfl rfl (decide_eq_true (by decide))) rfl rfl ?_
            refine o_pickT (b := decide ((3) = (3))) (bp ((3) = (3))) Gd.none rfl (decide_eq_true (by decide)) rfl ?_
            refine o_move (bp ((3) = (3))) Gd.none rfl ?_
            refine o_call [] (AV.lit (.bool true)) (Gd.yes rfl rfl (decide_eq_true (by decide))) Xg2_tC16 rfl c_l3Awake ?_
            refine o_pickT (b := decide ((3) = (3))) (AV.lit (.bool true)) Gd.none rfl (decide_eq_true (by decide)) rfl ?_
            refine o_assign (AV.lit (.bool true)) Gd.none rfl ?_
            refine aops_end ?_
            refine hK11 _ ?_
            refine awp_ret ?_
            refine post_ret ⟨[(AV.lit (.bool true))], And.intro (AV.le_refl _) (trivial), rfl, ?_⟩
            first | rfl | simp [bp]
          · have hk := word_0 ⟨hm', ha'⟩ (by omega) (Decidable.not_not.1 h5)
            have hru : runE m a K = toldE (iterZ m K.toNat (numS a)) := by rw [runE_e ⟨hm', ha'⟩ (by omega), fitK_run hk.2]
            have hrs : runS m a K = toldS (iterZ m K.toNat (numS a)) := by rw [runS_e ⟨hm', ha'⟩ (by omega), fitK_run hk.2]
            have hap := app_word hM ha' (k := K.toNat) (by omega) _ rfl
            have hW := wordZ_ok hM (numS a) (k := K.toNat) (by omega)
            have e0 := line_0 hm' hW
            obtain ⟨f1, f2, f3⟩ := line_fit hM hW
            have s1 : (lineT (lineZ m (wordZ m (numS a) K.toNat))).mul.size ≤ _ := txt_sz f1
            have s2 : (lineT (lineZ m (wordZ m (numS a) K.toNat))).add.size ≤ _ := txt_sz f2
            have s3 : (lineT (lineZ m (wordZ m (numS a) K.toNat))).div.size ≤ _ := txt_sz f3
            refine awp_skip ?_
            refine hK9 _ ?_
            refine awp_seq fun K12 hK12 => ?_
            refine awp_region rfl ?_
            refine o_loadA [(AV.lit (.int .i64 (m.mod))), (AV.sl 1 (is .i64 (m.mul))), (AV.sl 1 (is .i64 (m.add)))] Gd.none Xg2_tA24 rfl rfl rfl rfl rfl ?_
            refine o_move (AV.sl 1 (is .i64 (wordL m (a) (K)))) Gd.none rfl ?_
            refine n_as (v' := (AV.sl 1 (is .i64 (wordZ m (numS a) K.toNat)))) (by rw [hk.1]) ?_
            refine o_call [(AV.agg [(AV.lit (.int .i64 (m.mod))), (AV.sl 1 (is .i64 (m.mul))), (AV.sl 1 (is .i64 (m.add)))]), (AV.sl 1 (is .i64 (wordZ m (numS a) K.toNat)))] (AV.tup [(AV.agg [(AV.lit (.string ((lineS m (wordZ m (numS a) K.toNat)).mul))), (AV.lit (.string ((lineS m (wordZ m (numS a) K.toNat)).add))), (AV.lit (.string ((lineS m (wordZ m (numS a) K.toNat)).div)))]), (nm .i64 (lineE m (wordZ m (numS a) K.toNat)))]) Gd.none Xg2_tC20 rfl (c_oLine m (wordZ m (numS a) K.toNat) (by rw [wordZ_len]; omega)) ?_
            refine o_move (AV.tup [(AV.agg [(AV.lit (.string ((lineS m (wordZ m (numS a) K.toNat)).mul))), (AV.lit (.string ((lineS m (wordZ m (numS a) K.toNat)).add))), (AV.lit (.string ((lineS m (wordZ m (numS a) K.toNat)).div)))]), (nm .i64 (lineE m (wordZ m (numS a) K.toNat)))]) Gd.none rfl ?_
            refine o_extract (AV.agg [(AV.lit (.string ((lineS m (wordZ m (numS a) K.toNat)).mul))), (AV.lit (.string ((lineS m (wordZ m (numS a) K.toNat)).add))), (AV.lit (.string ((lineS m (wordZ m (numS a) K.toNat)).div)))]) Gd.none rfl rfl ?_
            refine n_as (v' := (AV.agg [(AV.lit (.string ((lineT (lineZ m (wordZ m (numS a) K.toNat))).mul))), (AV.lit (.string ((lineT (lineZ m (wordZ m (numS a) K.toNat))).add))), (AV.lit (.string ((lineT (lineZ m (wordZ m (numS a) K.toNat))).div)))])) (by rw [e0.2]) ?_
            refine o_extract (nm .i64 (lineE m (wordZ m (numS a) K.toNat))) Gd.none rfl rfl ?_
            refine n_as (v' := (nm .i64 (0))) (by rw [e0.1]) ?_
            refine o_alloc 3 [(AV.lit (.string (({data := #[]} : ByteArray)))), (AV.lit (.string (({data := #[]} : ByteArray)))), (AV.lit (.string (({data := #[]} : ByteArray))))] Gd.none Xg2_tO41 rfl rfl rfl ?_
            refine o_store [(3, (AO.var 41 [(AV.lit (.string ((lineT (lineZ m (wordZ m (numS a) K.toNat))).mul))), (AV.lit (.string ((lineT (lineZ m (wordZ m (numS a) K.toNat))).add))), (AV.lit (.string ((lineT (lineZ m (wordZ m (numS a) K.toNat))).div)))])), (2, (AO.var 24 [(AV.lit (.int .i64 (m.mod))), (AV.sl 1 (is .i64 (m.mul))), (AV.sl 1 (is .i64 (m.add)))]))] Gd.none Xg2_tZ41 rfl rfl rfl rfl rfl rfl ?_
            refine o_assign (nm .i64 (0)) Gd.none rfl ?_
            refine aops_end ?_
            refine hK12 _ ?_
            refine awp_seq fun K13 hK13 => ?_
            refine awp_seq fun K14 hK14 => ?_
            refine awp_region rfl ?_
            refine o_move (nm .i64 (0)) Gd.none rfl ?_
            refine n_neq (0) (0) Gd.none rfl rfl ?_
            refine aops_end ?_
            refine hK14 _ ?_
            refine awp_condB (b := decide ((0) ≠ (0))) rfl (fun hh => absurd (hh.symm.trans (decide_eq_false (by decide))) (by decide)) (fun _ => ?_)
            refine awp_skip ?_
            refine hK13 _ ?_
            refine awp_seq fun K15 hK15 => ?_
            refine awp_region rfl ?_
            refine o_loadA [(AV.lit (.string ((lineT (lineZ m (wordZ m (numS a) K.toNat))).mul))), (AV.lit (.string ((lineT (lineZ m (wordZ m (numS a) K.toNat))).add))), (AV.lit (.string ((lineT (lineZ m (wordZ m (numS a) K.toNat))).div)))] Gd.none Xg2_tA41 rfl rfl rfl rfl rfl ?_
            refine o_move (AV.lit (.string (a))) Gd.none rfl ?_
            refine o_call [(AV.agg [(AV.lit (.string ((lineT (lineZ m (wordZ m (numS a) K.toNat))).mul))), (AV.lit (.string ((lineT (lineZ m (wordZ m (numS a) K.toNat))).add))), (AV.lit (.string ((lineT (lineZ m (wordZ m (numS a) K.toNat))).div)))]), (AV.lit (.string (a)))] (AV.tup [(AV.lit (.string (appS (lineT (lineZ m (wordZ m (numS a) K.toNat))) (a)))), (bp (AppB (lineT (lineZ m (wordZ m (numS a) K.toNat))) (a))), (nm .i64 (appE (lineT (lineZ m (wordZ m (numS a) K.toNat))) (a)))]) Gd.none Xg2_tC28 rfl (c_oApply (lineT (lineZ m (wordZ m (numS a) K.toNat))) (a) (by first | assumption | decide | omega) (by first | assumption | decide | omega) (by first | assumption | decide | omega) (by first | assumption | decide | omega)) ?_
            refine o_move (AV.tup [(AV.lit (.string (appS (lineT (lineZ m (wordZ m (numS a) K.toNat))) (a)))), (bp (AppB (lineT (lineZ m (wordZ m (numS a) K.toNat))) (a))), (nm .i64 (appE (lineT (lineZ m (wordZ m (numS a) K.toNat))) (a)))]) Gd.none rfl ?_
            refine o_extract (AV.lit (.string (appS (lineT (lineZ m (wordZ m (numS a) K.toNat))) (a)))) Gd.none rfl rfl ?_
            refine o_extract (bp (AppB (lineT (lineZ m (wordZ m (numS a) K.toNat))) (a))) Gd.none rfl rfl ?_
            refine o_extract (nm .i64 (appE (lineT (lineZ m (wordZ m (numS a) K.toNat))) (a))) Gd.none rfl rfl ?_
            refine o_assign (AV.lit (.string (appS (lineT (lineZ m (wordZ m (numS a) K.toNat))) (a)))) Gd.none rfl ?_
            refine o_assign (bp (AppB (lineT (lineZ m (wordZ m (numS a) K.toNat))) (a))) Gd.none rfl ?_
            refine o_assign (nm .i64 (appE (lineT (lineZ m (wordZ m (numS a) K.toNat))) (a))) Gd.none rfl ?_
            refine aops_end ?_
            refine hK15 _ ?_
            refine awp_seq fun K16 hK16 => ?_
            refine awp_seq fun K17 hK17 => ?_
            refine awp_region rfl ?_
            refine o_move (nm .i64 (runE m (a) (K))) Gd.none rfl ?_
            refine n_neq (runE m (a) (K)) (0) Gd.none rfl rfl ?_
            refine o_move (bp ((runE m (a) (K)) ≠ (0))) Gd.none rfl ?_
            refine o_splitP (q := (runE m (a) (K)) ≠ (0)) 75 rfl (fun h6 => ?_) (fun h6 => ?_)
            · have hnx : ¬ Fit (iterZ m K.toNat (numS a)) := toldE_ne (by rw [← hru]; exact h6)
              have hr3 := hru.trans (toldE_no hnx)
              have ha3 : appE (lineT (lineZ m (wordZ m (numS a) K.toNat))) a = 3 := by rcases hap with h | h; exact absurd h.2.2.2.2 hnx; exact h.2
              refine o_skip (b := decide ((runE m (a) (K)) ≠ (0))) rfl rfl (decide_eq_true h6) ?_
              refine o_skip (b := decide ((runE m (a) (K)) ≠ (0))) rfl rfl (decide_eq_true h6) ?_
              refine o_pickT (b := decide ((runE m (a) (K)) ≠ (0))) (AV.lit (.bool true)) Gd.none rfl (decide_eq_true h6) rfl ?_
              refine aops_end ?_
              refine hK17 _ ?_
              refine awp_condB (b := true) rfl (fun _ => ?_) (fun hh => absurd (hh.symm.trans rfl) (by decide))
              refine awp_seq fun K18 hK18 => ?_
              refine awp_region rfl ?_
              refine o_move (nm .i64 (runE m (a) (K))) Gd.none rfl ?_
              refine n_as (v' := (nm .i64 (3))) (by first | rw [hr3] | rw [hr0]) ?_
              refine n_eql (3) (0) Gd.none rfl rfl ?_
              refine o_move (bp ((3) = (0))) Gd.none rfl ?_
              refine o_move (nm .i64 (runE m (a) (K))) (Gd.yes rfl rfl (decide_eq_false (by decide))) rfl ?_
              refine n_as (v' := (nm .i64 (3))) (by rw [hr3]) ?_
              refine n_eql (3) (3) (Gd.yes rfl rfl (decide_eq_false (by decide))) rfl rfl ?_
              refine o_pickF (b := decide ((3) = (0))) (bp ((3) = (3))) Gd.none rfl (decide_eq_false (by decide)) rfl ?_
              refine o_move (bp ((3) = (3))) Gd.none rfl ?_
              refine o_move (nm .i64 (appE (lineT (lineZ m (wordZ m (numS a) K.toNat))) (a))) (Gd.yes rfl rfl (decide_eq_true (by decide))) rfl ?_
              refine n_as (v' := (nm .i64 (3))) (by rw [ha3]) ?_
              refine n_eql (3) (3) (Gd.yes rfl rfl (decide_eq_true (by decide))) rfl rfl ?_
              refine o_pickT (b := decide ((3) = (3))) (bp ((3) = (3))) Gd.none rfl (decide_eq_true (by decide)) rfl ?_
              refine o_move (bp ((3) = (3))) Gd.none rfl ?_
              refine o_call [] (AV.lit (.bool true)) (Gd.yes rfl rfl (decide_eq_true (by decide))) Xg2_tC16 rfl c_l3Awake ?_
              refine o_pickT (b := decide ((3) = (3))) (AV.lit (.bool true)) Gd.none rfl (decide_eq_true (by decide)) rfl ?_
              refine o_assign (AV.lit (.bool true)) Gd.none rfl ?_
              refine aops_end ?_
              refine hK18 _ ?_
              refine awp_ret ?_
              refine post_ret ⟨[(AV.lit (.bool true))], And.intro (AV.le_refl _) (trivial), rfl, ?_⟩
              first | rfl | simp [bp]
            · have hFx : Fit (iterZ m K.toNat (numS a)) := toldE_eq (by rw [← hru]; exact h6)
              have hr0 := hru.trans (toldE_yes hFx)
              refine o_move (nm .i64 (appE (lineT (lineZ m (wordZ m (numS a) K.toNat))) (a))) (Gd.yes rfl rfl (decide_eq_false h6)) rfl ?_
              refine n_neq (appE (lineT (lineZ m (wordZ m (numS a) K.toNat))) (a)) (0) (Gd.yes rfl rfl (decide_eq_false h6)) rfl rfl ?_
              refine o_pickF (b := decide ((runE m (a) (K)) ≠ (0))) (bp ((appE (lineT (lineZ m (wordZ m (numS a) K.toNat))) (a)) ≠ (0))) Gd.none rfl (decide_eq_false h6) rfl ?_
              refine aops_end ?_
              refine hK17 _ ?_
              refine awp_condQ (q := (appE (lineT (lineZ m (wordZ m (numS a) K.toNat))) (a)) ≠ (0)) rfl (fun h7 => ?_) (fun h7 => ?_)
              · have ha3 : appE (lineT (lineZ m (wordZ m (numS a) K.toNat))) a = 3 := by rcases hap with h | h; exact absurd h.2.1 h7; exact h.2
                refine awp_seq fun K19 hK19 => ?_
                refine awp_region rfl ?_
                refine o_move (nm .i64 (runE m (a) (K))) Gd.none rfl ?_
                refine n_as (v' := (nm .i64 (0))) (by first | rw [hr3] | rw [hr0]) ?_
                refine n_eql (0) (0) Gd.none rfl rfl ?_
                refine o_move (bp ((0) = (0))) Gd.none rfl ?_
                refine o_skip (b := decide ((0) = (0))) rfl rfl (decide_eq_true (by decide)) ?_
                refine o_skip (b := decide ((0) = (0))) rfl rfl (decide_eq_true (by decide)) ?_
                refine o_pickT (b := decide ((0) = (0))) (AV.lit (.bool true)) Gd.none rfl (decide_eq_true (by decide)) rfl ?_
                refine o_move (AV.lit (.bool true)) Gd.none rfl ?_
                refine o_move (nm .i64 (appE (lineT (lineZ m (wordZ m (numS a) K.toNat))) (a))) (Gd.yes rfl rfl rfl) rfl ?_
                refine n_as (v' := (nm .i64 (3))) (by rw [ha3]) ?_
                refine n_eql (3) (3) (Gd.yes rfl rfl rfl) rfl rfl ?_
                refine o_pickT (b := true) (bp ((3) = (3))) Gd.none rfl rfl rfl ?_
                refine o_move (bp ((3) = (3))) Gd.none rfl ?_
                refine o_call [] (AV.lit (.bool true)) (Gd.yes rfl rfl (decide_eq_true (by decide))) Xg2_tC16 rfl c_l3Awake ?_
                refine o_pickT (b := decide ((3) = (3))) (AV.lit (.bool true)) Gd.none rfl (decide_eq_true (by decide)) rfl ?_
                refine o_assign (AV.lit (.bool true)) Gd.none rfl ?_
                refine aops_end ?_
                refine hK19 _ ?_
                refine awp_ret ?_
                refine post_ret ⟨[(AV.lit (.bool true))], And.intro (AV.le_refl _) (trivial), rfl, ?_⟩
                first | rfl | simp [bp]
              · have hy : AppB (lineT (lineZ m (wordZ m (numS a) K.toNat))) a ∧ appS (lineT (lineZ m (wordZ m (numS a) K.toNat))) a = txt (iterZ m K.toNat (numS a)) := by rcases hap with h | h; exact ⟨h.2.2.1, h.2.2.2.1⟩; exact absurd (by rw [h.2]; decide) h7
                refine awp_skip ?_
                refine hK16 _ ?_
                refine awp_seq fun K20 hK20 => ?_
                refine awp_region rfl ?_
                refine o_move (bp (AppB (lineT (lineZ m (wordZ m (numS a) K.toNat))) (a))) Gd.none rfl ?_
                refine n_as (v' := (AV.lit (.bool true))) (by exact bp_yes hy.1) ?_
                refine o_move (AV.lit (.bool true)) Gd.none rfl ?_
                refine o_move (AV.lit (.string (runS m (a) (K)))) (Gd.yes rfl rfl rfl) rfl ?_
                refine n_as (v' := (AV.lit (.string (txt ((iterZ m K.toNat (numS a))))))) (by rw [hrs, toldS_yes hFx]) ?_
                refine o_move (AV.lit (.string (appS (lineT (lineZ m (wordZ m (numS a) K.toNat))) (a)))) (Gd.yes rfl rfl rfl) rfl ?_
                refine n_as (v' := (AV.lit (.string (txt ((iterZ m K.toNat (numS a))))))) (by rw [hy.2]) ?_
                refine o_eqlS (a := (txt ((iterZ m K.toNat (numS a))))) (c := (txt ((iterZ m K.toNat (numS a))))) (Gd.yes rfl rfl rfl) rfl rfl ?_
                refine o_pickT (b := true) (bp ((txt ((iterZ m K.toNat (numS a)))).toList = (txt ((iterZ m K.toNat (numS a)))).toList)) Gd.none rfl rfl rfl ?_
                refine o_move (bp ((txt ((iterZ m K.toNat (numS a)))).toList = (txt ((iterZ m K.toNat (numS a)))).toList)) Gd.none rfl ?_
                refine o_call [] (AV.lit (.bool true)) (Gd.yes rfl rfl (decide_eq_true rfl)) Xg2_tC16 rfl c_l3Awake ?_
                refine o_pickT (b := decide ((txt ((iterZ m K.toNat (numS a)))).toList = (txt ((iterZ m K.toNat (numS a)))).toList)) (AV.lit (.bool true)) Gd.none rfl (decide_eq_true rfl) rfl ?_
                refine o_assign (AV.lit (.bool true)) Gd.none rfl ?_
                refine aops_end ?_
                refine hK20 _ ?_
                refine awp_ret ?_
                refine post_ret ⟨[(AV.lit (.bool true))], And.intro (AV.le_refl _) (trivial), rfl, ?_⟩
                first | rfl | simp [bp]

end Go.Proofs.YtbilndahjkimkaaDoor

set_option linter.unusedVariables false
namespace Go.Proofs.YtbilndahjkimkaaDoor.wordLinear
open Go Go.Ab Go.Mth Go.ChangeShapes Go.WideShapes Go.ChangeAt Go.RowKit
theorem reads (os : Os) {H : Type} (enc : TypeId × Value → H) : ∃ places, DataW.whole enc Tryd.prog ((World.laidAll Tryd.prog os laid5).forCall (fun _ _ => 0) ⟨#[], #[.agg #[.int .i64 0, .slice none 0 0, .slice none 0 0], .string ByteArray.empty, .int .i64 0], []⟩).memory Tryd.f9.params.toList Rows.wordLinearSpec.vars false (#[.agg #[.int .i64 0, .slice none 0 0, .slice none 0 0], .string ByteArray.empty, .int .i64 0] : Array Value).toList 8 = some ([.agg [.lit (.int .i64 0), .nil, .nil], .lit (.string []), .lit (.int .i64 0)], [], places) := ⟨[], by kernel_rfl⟩
theorem met (os : Os) : laidMetH Tryd.prog laid5 ((World.laidAll Tryd.prog os laid5).forCall (fun _ _ => 0) ⟨#[], #[.agg #[.int .i64 0, .slice none 0 0, .slice none 0 0], .string ByteArray.empty, .int .i64 0], []⟩).memory := (MakeChecks.laidMetH_plain _ _ _ (by kernel_rfl)).mpr (laidMet_laidAll _ (by kernel_rfl) (by kernel_rfl))
theorem specs {H : Type} (ds : List (DataW H)) (h : ds.length = 3) : (Rows.wordLinearSpec.fn H ds).results = [.lit (.bool true)] ∧ (Rows.wordLinearSpec.fn H ds).args = ds ∧ (Rows.wordLinearSpec.fn H ds).vars = [] := by
  rcases ds with _ | ⟨d0, _ | ⟨d1, _ | ⟨d2, _ | ⟨e, t⟩⟩⟩⟩ <;> simp at h <;> exact ⟨rfl, rfl, rfl⟩
set_option maxRecDepth 100000 in
theorem opened {H : Type} (enc : TypeId × Value → H) (W : World) (base : Nat) (args : Array Value) (ds : List (DataW H)) (ps : List MemPlace) (hval : ∀ (j : Nat) t v, (#[24, 9, 3] : Array TypeId)[j]? = some t → args[j]? = some v → Value.okWide Tryd.prog W .any base t v)
    (hA : DataW.TrodAll enc Tryd.prog W 0 (fun _ => true) true [24, 9, 3] args.toList ds ps) (hsz : (DataW.weightsEach Tryd.prog [24, 9, 3] ds).all (· ≤ reachBytes) = true) : ∃ xs, RepL (memOf W) xs noLoc args.toList ∧ ECalls cx 9 xs (.lit (.bool true)) := by
  obtain ⟨v0, vs0, d0, ds0, p0, q0, hargs, rfl, rfl, h0, r0⟩ := trodAll_cons hA
  obtain ⟨v1, vs1, d1, ds1, p1, q1, rfl, rfl, rfl, h1, r1⟩ := trodAll_cons r0
  obtain ⟨v2, vs2, d2, ds2, p2, q2, rfl, rfl, rfl, h2, r2⟩ := trodAll_cons r1
  obtain ⟨rfl, rfl, rfl⟩ := trodAll_nil r2
  obtain rfl : args = #[v0, v1, v2] := by cases args; simp_all
  obtain ⟨m0, e0, b0, c0⟩ := rep_map (hval 0 24 v0 rfl rfl) h0 (fun n hn => by simpa using List.all_eq_true.1 hsz n (DataW.weights_mem_each (j := 0) rfl rfl n hn))
  obtain ⟨a1, e1, b1⟩ := rep_str (hval 1 9 v1 rfl rfl) h1
  obtain ⟨k2, e2, b2⟩ := rep_int (hval 2 3 v2 rfl rfl) h2
  exact ⟨[mapV m0, .lit (.string a1), .lit (.int .i64 k2)], RepL.cons e0 (RepL.cons e1 (RepL.cons e2 (by simp only [RepL]))), c_WordLinear m0 a1 k2 b1⟩
set_option maxRecDepth 100000 in
theorem lifted (os : Os) (started : os.Started) (H : Type) (enc : TypeId × Value → H) (F : Stop.Interp) :
    ReturnsInHanded {} Tryd.checked os 9 .any ((OpenSpec.ofChange Rows.wordLinearSpec).preRow enc Tryd.prog Tryd.f9 Rows.wordLinearRow.domain false Rows.wordLinearRow.laid) (((OpenSpec.ofChange Rows.wordLinearSpec).at F).post enc Tryd.prog Tryd.f9 false true false false) := by
  obtain ⟨places, hx⟩ := reads os enc
  refine lifted_of (C := Tryd.checked) started cx rfl ownT (by kernel_rfl) Tryd.func9 (witness_laid #[.agg #[.int .i64 0, .slice none 0 0, .slice none 0 0], .string ByteArray.empty, .int .i64 0] (by kernel_rfl) (by kernel_rfl) (by kernel_rfl) (OpenSpec.preRow_of_cond 8 hx (by kernel_rfl) (fun k hk => by cases hk) (by kernel_rfl) (met os))) laidOutT (by kernel_rfl) (tb := 4) (by kernel_rfl) u4T rfl (fun ds h => specs ds (h.trans (by kernel_rfl))) (fun W h => tabG_of h) ?_
  intro W base args ds ps hval hA hsz
  exact opened enc W base args ds ps hval hA hsz
theorem said : Rows.WordLinearSaid :=
  OpenClaim.holds_of_cond 9 Tryd.f9 rfl rfl rfl rfl rfl rfl rfl ⟨rfl, rfl, rfl, rfl, rfl⟩ rfl rfl rfl rfl rfl (by kernel_rfl) Tryd.func9 (by kernel_rfl)
    (of_decide_eq_true (by kernel_rfl)) (by unfold Func.isWrapper; first | (rw [if_pos (by decide +kernel)]; kernel_rfl) | (rw [if_neg (by decide +kernel)]; exact ⟨rfl, rfl⟩))
    (fun os started H enc _ F => by rw [OpenClaim.pre_eq_preRow]; exact lifted os started H enc F)
theorem plain (f : FuncId) (fn : Func) (hf : Tryd.pinned.checked.prog.funcNamed "katabasis/katabasislaw03.WordLinear" = some f) (hfn : Tryd.pinned.checked.prog.funcs[f]? = some fn) :
    true = Tryd.pinned.checked.prog.looks [] ∧ ∀ (j : Nat) t, fn.params[j]? = some t → Tryd.pinned.checked.prog.wantsStandIn t = false := by
  obtain rfl : f = 9 := Option.some.inj ((show Tryd.prog.funcNamed "katabasis/katabasislaw03.WordLinear" = some 9 by kernel_rfl).symm.trans hf) |>.symm
  obtain rfl : fn = Tryd.f9 := (Option.some.inj (Tryd.func9.symm.trans hfn)).symm
  refine ⟨by kernel_rfl, fun j t ht => ?_⟩
  rw [Tryd.params9] at ht
  have : t = 24 ∨ t = 9 ∨ t = 3 := by have h := Array.mem_of_getElem? ht; simp at h; first | exact h | (rcases h with h | h | h | h <;> simp [h]) | (rcases h with h | h | h <;> simp [h]) | (rcases h with h | h <;> simp [h])
  rcases this with rfl | rfl | rfl
  · exact (show Tryd.prog.wantsStandIn 24 = false by kernel_rfl)
  · exact (show Tryd.prog.wantsStandIn 9 = false by kernel_rfl)
  · exact (show Tryd.prog.wantsStandIn 3 = false by kernel_rfl)
end Go.Proofs.YtbilndahjkimkaaDoor.wordLinear
namespace Go.Proofs.YtbilndahjkimkaaDoor
open Go
theorem wordLinear_holds : Rows.WordLinearCardSaid :=
  Claim7.holds_tied_plain_at .later [] _ _ _ _ wordLinear.said (fun _ h => by cases h) (by kernel_rfl) (fun _ h => by cases h) wordLinear_row_tie rfl ⟨rfl, rfl⟩ (by kernel_rfl) rfl wordLinear.plain (by kernel_rfl)
#print axioms wordLinear_holds
end Go.Proofs.YtbilndahjkimkaaDoor

