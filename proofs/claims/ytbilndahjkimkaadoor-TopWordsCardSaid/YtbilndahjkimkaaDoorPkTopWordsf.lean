/- The law 'katabasistop.TopWords' is true for every map, two strings and a list: two numbers of the same rest modulo Mod^k have the same k rests and stay apart by their distance times the factors of these rests, along the word a number is mapped by one line, and by a regular map a word is the word of exactly the numbers of one rest. Its condition: none but the row's own (the listed tables of the library). -/
import Derived.Test.YtbilndahjkimkaaDoorPkTopWordse
set_option linter.unusedVariables false
set_option linter.unusedSimpArgs false
namespace Go.Proofs.YtbilndahjkimkaaDoor
open Go Go.Ab Go.Mth
theorem Wn_tO9 : tyZero cx.P 9 = some [(Go.Value.string {data := #[]})] := by kernel_rfl
theorem Wn_tO26 : tyZero cx.P 26 = some [(Go.Value.int IntKind.i64 0)] := by kernel_rfl
theorem Wn_tA24 : tyAgg cx.P 24 = some 3 := by kernel_rfl
theorem Wn_tC46 : callable cx.P 46 = true := by kernel_rfl
theorem Wn_tZ9 : tySize cx.P 9 = some 1 := by kernel_rfl
theorem Wn_tZ26 : tySize cx.P 26 = some 1 := by kernel_rfl
theorem Wn_tS26 : tySc cx.P 26 = true := by kernel_rfl
theorem Wn_tS9 : tySc cx.P 9 = true := by kernel_rfl
theorem Wn_tC47 : callable cx.P 47 = true := by kernel_rfl
theorem Wn_tS3 : tySc cx.P 3 = true := by kernel_rfl
theorem Wn_tC48 : callable cx.P 48 = true := by kernel_rfl
theorem Wn_tC76 : callable cx.P 76 = true := by kernel_rfl
theorem Wn_tC91 : callable cx.P 91 = true := by kernel_rfl
theorem Wn_tO79 : tyZero cx.P 79 = some [(Go.Value.bool false), (Go.Value.slice none 0 0)] := by kernel_rfl
theorem Wn_tZ79 : tySize cx.P 79 = some 2 := by kernel_rfl
theorem Wn_tA79 : tyAgg cx.P 79 = some 2 := by kernel_rfl
theorem Wn_tC77 : callable cx.P 77 = true := by kernel_rfl
theorem Wn_tC64 : callable cx.P 64 = true := by kernel_rfl
theorem c_sRun (m : MapM) (a : ByteArray) (K : Int) (hsz : a.size ≤ 9223372036854775807) : ECalls cx 39 [(mapV m), (AV.lit (.string (a))), (AV.lit (.int .i64 (K)))] (.tup [.lit (.string (runS m a K)), nm .i64 (runE m a K)]) := by
  refine ecalls_of_awpT Tryd.func39 (c := _) rfl (Nat.le_of_ble_eq_true rfl) ?_
  show awpT cx 41 [] _ (postT cx Tryd.f39 _) ⟨[(0, (mapV m)), (1, (AV.lit (.string (a)))), (2, (AV.lit (.int .i64 (K))))], []⟩
  refine awpT_seq fun K0 hK0 => ?_
  refine awpT_lift ?_
  refine awp_region rfl ?_
  refine o_box 2 [(AV.lit (.int .i64 (m.mod))), (AV.sl 1 (is .i64 (m.mul))), (AV.sl 1 (is .i64 (m.add)))] Gd.none rfl rfl ?_
  refine o_box 3 [(AV.lit (.int .i64 (K)))] Gd.none rfl rfl ?_
  refine o_alloc 4 [(AV.lit (.string (({data := #[]} : ByteArray))))] Gd.none Wn_tO9 rfl rfl rfl ?_
  refine o_alloc 5 [(nm .i64 (0))] Gd.none Wn_tO26 rfl rfl rfl ?_
  refine aops_end ?_
  refine hK0 _ _ ?_
  refine awpT_seq fun K1 hK1 => ?_
  refine awpT_lift ?_
  refine awp_block ?_
  refine awp_seq fun K2 hK2 => ?_
  refine awp_region rfl ?_
  refine o_loadA [(AV.lit (.int .i64 (m.mod))), (AV.sl 1 (is .i64 (m.mul))), (AV.sl 1 (is .i64 (m.add)))] Gd.none Wn_tA24 rfl rfl rfl rfl rfl ?_
  refine o_call [(mapV m)] (AV.lit (.bool (okM m))) Gd.none Wn_tC46 rfl (c_sValid m) ?_
  refine o_not (b := okM m) Gd.none rfl ?_
  refine o_move (AV.lit (.bool (!(okM m)))) Gd.none rfl ?_
  refine o_split (b := !(okM m)) 14 rfl (fun h1 => ?_) (fun h1 => ?_)
  · have hm' : okM m = false := by simpa using h1
    refine o_skip (b := !(okM m)) rfl rfl h1 ?_
    refine o_skip (b := !(okM m)) rfl rfl h1 ?_
    refine o_skip (b := !(okM m)) rfl rfl h1 ?_
    refine o_pickT (b := !(okM m)) (AV.lit (.bool true)) Gd.none rfl h1 rfl ?_
    refine o_assign (AV.lit (.bool true)) Gd.none rfl ?_
    refine aops_end ?_
    refine hK2 _ ?_
    refine awp_condB (b := true) rfl (fun _ => ?_) (fun hh => absurd (hh.symm.trans rfl) (by decide))
    refine awp_seq fun K3 hK3 => ?_
    refine awp_region rfl ?_
    refine o_store [(5, (AO.var 26 [(nm .i64 (0))])), (4, (AO.var 9 [(AV.lit (.string (({data := #[]} : ByteArray))))])), (3, (AO.var 3 [(AV.lit (.int .i64 (K)))])), (2, (oM 24 m))] Gd.none Wn_tZ9 rfl rfl rfl rfl rfl rfl ?_
    refine o_store [(5, (AO.var 26 [(nm .i64 (1))])), (4, (AO.var 9 [(AV.lit (.string (({data := #[]} : ByteArray))))])), (3, (AO.var 3 [(AV.lit (.int .i64 (K)))])), (2, (oM 24 m))] Gd.none Wn_tZ26 rfl rfl rfl rfl rfl rfl ?_
    refine aops_end ?_
    refine hK3 _ ?_
    refine awp_ret ?_
    refine postT_ret0 ⟨[(AV.lit (.string (({data := #[]} : ByteArray)))), (nm .i64 (1))], And.intro ⟨4, (AO.var 9 [(AV.lit (.string (({data := #[]} : ByteArray))))]), rfl, rfl, rfl, Or.inr ⟨Wn_tS9, _, rfl, AV.le_refl _⟩⟩ (And.intro ⟨5, (AO.var 26 [(nm .i64 (1))]), rfl, rfl, rfl, Or.inr ⟨Wn_tS26, _, rfl, AV.le_refl _⟩⟩ (trivial)), rfl, ?_⟩
    refine tup_eq2 (by unfold runS; rw [if_neg (by simp [hm'])]) (by unfold runE; rw [if_neg (by simp [hm'])])
  · have hm' : okM m = true := by simpa using h1
    have hM := okM_iff.1 hm'
    refine o_move (AV.lit (.string (a))) (Gd.yes rfl rfl h1) rfl ?_
    refine o_call [(AV.lit (.string (a)))] (AV.lit (.bool (okS (a)))) (Gd.yes rfl rfl h1) Wn_tC47 rfl (c_nValid (a) (by first | assumption | decide | omega)) ?_
    refine o_not (b := okS (a)) (Gd.yes rfl rfl h1) rfl ?_
    refine o_pickF (b := !(okM m)) (AV.lit (.bool (!(okS (a))))) Gd.none rfl h1 rfl ?_
    refine o_assign (AV.lit (.bool (!(okS (a))))) Gd.none rfl ?_
    refine aops_end ?_
    refine hK2 _ ?_
    refine awp_condB (b := !(okS (a))) rfl (fun h2 => ?_) (fun h2 => ?_)
    · have ha' : okS a = false := by simpa using h2
      refine awp_seq fun K4 hK4 => ?_
      refine awp_region rfl ?_
      refine o_store [(5, (AO.var 26 [(nm .i64 (0))])), (4, (AO.var 9 [(AV.lit (.string (({data := #[]} : ByteArray))))])), (3, (AO.var 3 [(AV.lit (.int .i64 (K)))])), (2, (oM 24 m))] Gd.none Wn_tZ9 rfl rfl rfl rfl rfl rfl ?_
      refine o_store [(5, (AO.var 26 [(nm .i64 (1))])), (4, (AO.var 9 [(AV.lit (.string (({data := #[]} : ByteArray))))])), (3, (AO.var 3 [(AV.lit (.int .i64 (K)))])), (2, (oM 24 m))] Gd.none Wn_tZ26 rfl rfl rfl rfl rfl rfl ?_
      refine aops_end ?_
      refine hK4 _ ?_
      refine awp_ret ?_
      refine postT_ret0 ⟨[(AV.lit (.string (({data := #[]} : ByteArray)))), (nm .i64 (1))], And.intro ⟨4, (AO.var 9 [(AV.lit (.string (({data := #[]} : ByteArray))))]), rfl, rfl, rfl, Or.inr ⟨Wn_tS9, _, rfl, AV.le_refl _⟩⟩ (And.intro ⟨5, (AO.var 26 [(nm .i64 (1))]), rfl, rfl, rfl, Or.inr ⟨Wn_tS26, _, rfl, AV.le_refl _⟩⟩ (trivial)), rfl, ?_⟩
      refine tup_eq2 (by unfold runS; rw [if_neg (by simp [ha'])]) (by unfold runE; rw [if_neg (by simp [ha'])])
    · have ha' : okS a = true := by simpa using h2
      have hlz := len_numS (okS_iff.1 ha')
      refine awp_seq fun K5 hK5 => ?_
      refine awp_region rfl ?_
      refine o_loadS (AV.lit (.int .i64 (K))) Gd.none Wn_tS3 rfl rfl rfl ?_
      refine o_lss (a := (K)) (c := (((0 : Nat) : Int))) Gd.none rfl rfl ?_
      refine o_move (bp ((K) < (((0 : Nat) : Int)))) Gd.none rfl ?_
      refine o_splitP (q := (K) < (((0 : Nat) : Int))) 22 rfl (fun h3 => ?_) (fun h3 => ?_)
      · refine o_skip (b := decide ((K) < (((0 : Nat) : Int)))) rfl rfl (decide_eq_true h3) ?_
        refine o_skip (b := decide ((K) < (((0 : Nat) : Int)))) rfl rfl (decide_eq_true h3) ?_
        refine o_pickT (b := decide ((K) < (((0 : Nat) : Int)))) (AV.lit (.bool true)) Gd.none rfl (decide_eq_true h3) rfl ?_
        refine o_assign (AV.lit (.bool true)) Gd.none rfl ?_
        refine aops_end ?_
        refine hK5 _ ?_
        refine awp_condB (b := true) rfl (fun _ => ?_) (fun hh => absurd (hh.symm.trans rfl) (by decide))
        refine awp_seq fun K6 hK6 => ?_
        refine awp_region rfl ?_
        refine o_store [(5, (AO.var 26 [(nm .i64 (0))])), (4, (AO.var 9 [(AV.lit (.string (({data := #[]} : ByteArray))))])), (3, (AO.var 3 [(AV.lit (.int .i64 (K)))])), (2, (oM 24 m))] Gd.none Wn_tZ9 rfl rfl rfl rfl rfl rfl ?_
        refine o_store [(5, (AO.var 26 [(nm .i64 (2))])), (4, (AO.var 9 [(AV.lit (.string (({data := #[]} : ByteArray))))])), (3, (AO.var 3 [(AV.lit (.int .i64 (K)))])), (2, (oM 24 m))] Gd.none Wn_tZ26 rfl rfl rfl rfl rfl rfl ?_
        refine aops_end ?_
        refine hK6 _ ?_
        refine awp_ret ?_
        refine postT_ret0 ⟨[(AV.lit (.string (({data := #[]} : ByteArray)))), (nm .i64 (2))], And.intro ⟨4, (AO.var 9 [(AV.lit (.string (({data := #[]} : ByteArray))))]), rfl, rfl, rfl, Or.inr ⟨Wn_tS9, _, rfl, AV.le_refl _⟩⟩ (And.intro ⟨5, (AO.var 26 [(nm .i64 (2))]), rfl, rfl, rfl, Or.inr ⟨Wn_tS26, _, rfl, AV.le_refl _⟩⟩ (trivial)), rfl, ?_⟩
        refine tup_eq2 (by unfold runS; rw [if_neg (by omega)]) (by unfold runE; rw [if_pos ⟨hm', ha'⟩, if_neg (by omega)])
      · refine o_loadS (AV.lit (.int .i64 (K))) (Gd.yes rfl rfl (decide_eq_false h3)) Wn_tS3 rfl rfl rfl ?_
        refine o_gtr (a := (K)) (c := (((20000 : Nat) : Int))) (Gd.yes rfl rfl (decide_eq_false h3)) rfl rfl ?_
        refine o_pickF (b := decide ((K) < (((0 : Nat) : Int)))) (bp ((((20000 : Nat) : Int)) < (K))) Gd.none rfl (decide_eq_false h3) rfl ?_
        refine o_assign (bp ((((20000 : Nat) : Int)) < (K))) Gd.none rfl ?_
        refine aops_end ?_
        refine hK5 _ ?_
        refine awp_condQ (q := (((20000 : Nat) : Int)) < (K)) rfl (fun h4 => ?_) (fun h4 => ?_)
        · refine awp_seq fun K7 hK7 => ?_
          refine awp_region rfl ?_
          refine o_store [(5, (AO.var 26 [(nm .i64 (0))])), (4, (AO.var 9 [(AV.lit (.string (({data := #[]} : ByteArray))))])), (3, (AO.var 3 [(AV.lit (.int .i64 (K)))])), (2, (oM 24 m))] Gd.none Wn_tZ9 rfl rfl rfl rfl rfl rfl ?_
          refine o_store [(5, (AO.var 26 [(nm .i64 (2))])), (4, (AO.var 9 [(AV.lit (.string (({data := #[]} : ByteArray))))])), (3, (AO.var 3 [(AV.lit (.int .i64 (K)))])), (2, (oM 24 m))] Gd.none Wn_tZ26 rfl rfl rfl rfl rfl rfl ?_
          refine aops_end ?_
          refine hK7 _ ?_
          refine awp_ret ?_
          refine postT_ret0 ⟨[(AV.lit (.string (({data := #[]} : ByteArray)))), (nm .i64 (2))], And.intro ⟨4, (AO.var 9 [(AV.lit (.string (({data := #[]} : ByteArray))))]), rfl, rfl, rfl, Or.inr ⟨Wn_tS9, _, rfl, AV.le_refl _⟩⟩ (And.intro ⟨5, (AO.var 26 [(nm .i64 (2))]), rfl, rfl, rfl, Or.inr ⟨Wn_tS26, _, rfl, AV.le_refl _⟩⟩ (trivial)), rfl, ?_⟩
          refine tup_eq2 (by unfold runS; rw [if_neg (by omega)]) (by unfold runE; rw [if_pos ⟨hm', ha'⟩, if_neg (by omega)])
        · refine awp_skip ?_
          refine hK1 _ _ ?_
          refine awpT_seq fun K8 hK8 => ?_
          refine awpT_seq fun K9 hK9 => ?_
          refine awpT_lift ?_
          refine awp_regionD rfl ?_
          refine o_loadA [(AV.lit (.int .i64 (m.mod))), (AV.sl 1 (is .i64 (m.mul))), (AV.sl 1 (is .i64 (m.add)))] Gd.none Wn_tA24 rfl rfl rfl rfl rfl ?_
          refine o_move (AV.lit (.string (a))) Gd.none rfl ?_
          refine o_call [(AV.lit (.string (a)))] (intW ((numS (a)))) Gd.none Wn_tC48 rfl (c_wParse (a) (by first | assumption | exact okS_iff.1 (by assumption))) ?_
          refine o_callW 8001 8002 [(mapV m), (intW ((numS (a))))] Gd.none Wn_tC76 rfl rfl rfl rfl (c_sWalk m (numS (a))) rfl rfl ?_
          refine aops_end ⟨by kernel_rfl, ?_⟩
          refine hK9 _ _ ?_
          refine awpT_block ?_
          refine awpT_wk (σ' := ⟨[(5, (AV.ref 3 (0))), (6, (AV.ref 4 (0))), (7, (AV.ref 5 (0))), (29, (AV.clo 91 [(AV.ref 8001 (0)), (AV.ref 8002 (0))]))], [(8001, (oZ 79 .u32 ((numS (a))))), (8002, (oM 24 m)), (3, (AO.var 3 [(AV.lit (.int .i64 (K)))])), (4, (AO.var 9 [(AV.lit (.string (({data := #[]} : ByteArray))))])), (5, (AO.var 26 [(nm .i64 (0))]))]⟩) (Wk.sub (And.intro rfl (And.intro rfl (And.intro rfl (And.intro rfl (trivial))))) (And.intro rfl (And.intro rfl (And.intro rfl (And.intro rfl (And.intro rfl (trivial))))))) ?_
          refine awpT_range (C := cx) rfl (gf := 91) (fnI := Tryd.f91) (caps := [.ref 8001 0, .ref 8002 0]) (so := [(5, (AV.ref 3 (0))), (6, (AV.ref 4 (0))), (7, (AV.ref 5 (0))), (29, (AV.clo 91 [(AV.ref 8001 (0)), (AV.ref 8002 (0))]))]) (And.intro rfl (And.intro rfl (And.intro rfl (And.intro rfl (trivial))))) Tryd.func91 rfl Wn_tC91 (by decide) rfl rfl rfl rfl rfl (fun (fn : FuncId) (tmps : Array Value) (D l : Nat) (pe : Option Code) (m' : List (Nat × AO)) => ((¬ Fit (runZ m K.toNat (numS a))) ∧ pe = some .ret ∧ m' = [(4, (AO.var 9 [(AV.lit (.string (({ data := #[] } : ByteArray))))])), (5, (AO.var 26 [(nm .i64 (3))]))]) ∨ ((Fit (runZ m K.toNat (numS a))) ∧ pe = some .ret ∧ m' = [(4, (AO.var 9 [(AV.lit (.string (txt (runZ m K.toNat (numS a)))))])), (5, (AO.var 26 [(nm .i64 (0))]))])) ?it0 ?nx0
          case it0 =>
            intro fn tmps D l hsz
            refine awp_mono (it_Walk m (numS a) hM l D fn tmps _ _ _ (20000) (fun (k : Nat) (mm : List (Nat × AO)) => ((k : Int) ≤ K) ∧ (runZ m (K.toNat - k) (iterZ m k (numS a)) = runZ m K.toNat (numS a)) ∧ ((digs (iterZ m k (numS a)).natAbs).length ≤ 1000000) ∧ mm = (((9002, (.blk (.deferred (some [])))) :: (9003, (pinA [(5, (AV.ref 3 (0))), (6, (AV.ref 4 (0))), (7, (AV.ref 5 (0))), (29, (AV.clo 91 [(AV.ref 8001 (0)), (AV.ref 8002 (0))]))] tmps)) :: (9004, (pinL l D)) :: (3, (AO.var 3 [(AV.lit (.int .i64 (K)))])) :: (4, (AO.var 9 [(AV.lit (.string (({data := #[]} : ByteArray))))])) :: (5, (AO.var 26 [(nm .i64 (0))])) :: []))) (fun c mm => ∃ m2, mm = (((9002, (.blk (.deferred (some [])))) :: (9003, (pinA [(5, (AV.ref 3 (0))), (6, (AV.ref 4 (0))), (7, (AV.ref 5 (0))), (29, (AV.clo 91 [(AV.ref 8001 (0)), (AV.ref 8002 (0))]))] tmps)) :: (9004, (pinL l D)) :: m2)) ∧ (fun (fn : FuncId) (tmps : Array Value) (D l : Nat) (pe : Option Code) (m' : List (Nat × AO)) => ((¬ Fit (runZ m K.toNat (numS a))) ∧ pe = some .ret ∧ m' = [(4, (AO.var 9 [(AV.lit (.string (({ data := #[] } : ByteArray))))])), (5, (AO.var 26 [(nm .i64 (3))]))]) ∨ ((Fit (runZ m K.toNat (numS a))) ∧ pe = some .ret ∧ m' = [(4, (AO.var 9 [(AV.lit (.string (txt (runZ m K.toNat (numS a)))))])), (5, (AO.var 26 [(nm .i64 (0))]))])) fn tmps D l (some c) m2) ?R0 ⟨(by omega), rfl, (by have := hlz; simp only [iterZ]; omega), rfl⟩ (Wk.sub (And.intro rfl (And.intro rfl (And.intro rfl (trivial)))) (And.intro rfl (And.intro rfl (And.intro rfl (And.intro rfl (And.intro rfl (And.intro rfl (And.intro rfl (And.intro rfl (And.intro rfl (trivial))))))))))) (by omega) rfl) ?fin0
            case fin0 =>
              rintro e σ ⟨rfl, c, mm', ⟨m2, rfl, hX⟩, hwk⟩
              exact ⟨.inl rfl, .done, some c, m2, (by decide), hX, (by rcases hX with ⟨_, _, rfl⟩ | ⟨_, _, rfl⟩ <;> rfl), (by rcases hX with ⟨_, _, rfl⟩ | ⟨_, _, rfl⟩ <;> rfl), hwk⟩
            case R0 =>
              rintro k _ ⟨hk, hr, hln, rfl⟩
              refine ⟨(by omega), hln, yldAt_of_round (so := [(5, (AV.ref 3 (0))), (6, (AV.ref 4 (0))), (7, (AV.ref 5 (0))), (29, (AV.clo 91 [(AV.ref 8001 (0)), (AV.ref 8002 (0))]))]) (n := 41) (D' := D) rfl hsz (by decide) rfl rfl rfl rfl rfl rfl fun us => ?_⟩
              show awp cx 41 _ _ ⟨[(31, (intW ((iterZ m k (numS a))))), (30, (nm .i64 (k))), (5, (AV.ref 3 (0))), (6, (AV.ref 4 (0))), (7, (AV.ref 5 (0))), (29, (AV.clo 91 [(AV.ref 8001 (0)), (AV.ref 8002 (0))]))], [(9005, (AO.pin [(.lit (.func (.yield l) #[] #[])), (AV.ref 8001 (0)), (AV.ref 8002 (0)), (nm .i64 (k))] us)), (9001, (AO.blk (.loop (lrec fn tmps _ _ _ D .ready none)))), (8001, (oZ 79 .u32 ((iterZ m k (numS a))))), (8002, (oM 24 m)), (9002, (.blk (.deferred (some [])))), (9003, (pinA [(5, (AV.ref 3 (0))), (6, (AV.ref 4 (0))), (7, (AV.ref 5 (0))), (29, (AV.clo 91 [(AV.ref 8001 (0)), (AV.ref 8002 (0))]))] tmps)), (9004, (pinL l D)), (3, (AO.var 3 [(AV.lit (.int .i64 (K)))])), (4, (AO.var 9 [(AV.lit (.string (({data := #[]} : ByteArray))))])), (5, (AO.var 26 [(nm .i64 (0))]))]⟩
              refine awp_seq fun K10 hK10 => ?_
              refine awp_region rfl ?_
              refine o_assign (nm .i64 (k)) Gd.none rfl ?_
              refine aops_end ?_
              refine hK10 _ ?_
              refine awp_region rfl ?_
              refine o_alloc 101 [(AV.lit (.bool false)), (AV.lit (.slice none 0 0))] Gd.none Wn_tO79 rfl rfl rfl ?_
              refine o_store [(101, (oZ 79 .u32 ((iterZ m k (numS a))))), (9005, (AO.pin [(.lit (.func (.yield l) #[] #[])), (AV.ref 8001 (0)), (AV.ref 8002 (0)), (nm .i64 (k))] us)), (9001, (AO.blk (.loop (lrec fn tmps _ _ _ D .ready none)))), (8001, (oZ 79 .u32 ((iterZ m k (numS a))))), (8002, (oM 24 m)), (9002, (.blk (.deferred (some [])))), (9003, (pinA [(5, (AV.ref 3 (0))), (6, (AV.ref 4 (0))), (7, (AV.ref 5 (0))), (29, (AV.clo 91 [(AV.ref 8001 (0)), (AV.ref 8002 (0))]))] tmps)), (9004, (pinL l D)), (3, (AO.var 3 [(AV.lit (.int .i64 (K)))])), (4, (AO.var 9 [(AV.lit (.string (({data := #[]} : ByteArray))))])), (5, (AO.var 26 [(nm .i64 (0))]))] Gd.none Wn_tZ79 rfl rfl rfl rfl rfl rfl ?_
              refine aops_end ?_
              refine ⟨[(31, (intW ((iterZ m k (numS a))))), (30, (nm .i64 (k))), (5, (AV.ref 3 (0))), (6, (AV.ref 4 (0))), (7, (AV.ref 5 (0))), (29, (AV.clo 91 [(AV.ref 8001 (0)), (AV.ref 8002 (0))])), (8, (nm .i64 (k))), (9, (AV.ref 101 (0)))], [(101, (oZ 79 .u32 ((iterZ m k (numS a))))), (9005, (AO.pin [(.lit (.func (.yield l) #[] #[])), (AV.ref 8001 (0)), (AV.ref 8002 (0)), (nm .i64 (k))] us)), (8001, (oZ 79 .u32 ((iterZ m k (numS a))))), (8002, (oM 24 m)), (9002, (.blk (.deferred (some [])))), (9003, (pinA [(5, (AV.ref 3 (0))), (6, (AV.ref 4 (0))), (7, (AV.ref 5 (0))), (29, (AV.clo 91 [(AV.ref 8001 (0)), (AV.ref 8002 (0))]))] tmps)), (9004, (pinL l D)), (3, (AO.var 3 [(AV.lit (.int .i64 (K)))])), (4, (AO.var 9 [(AV.lit (.string (({data := #[]} : ByteArray))))])), (5, (AO.var 26 [(nm .i64 (0))]))], Wk.sub (And.intro rfl (And.intro rfl (And.intro rfl (And.intro rfl (And.intro rfl (And.intro rfl (And.intro rfl (And.intro rfl (trivial))))))))) (And.intro rfl (And.intro rfl (And.intro rfl (And.intro rfl (And.intro rfl (And.intro rfl (And.intro rfl (And.intro rfl (And.intro rfl (And.intro rfl (And.intro rfl (trivial)))))))))))), rfl, ?_⟩
              refine awp_block ?_
              refine awp_block ?_
              refine awp_seq fun K11 hK11 => ?_
              refine awp_region rfl ?_
              refine o_loadA [(bp ((iterZ m k (numS a)) < 0)), (AV.sl 1 (ns .u32 (digs ((iterZ m k (numS a))).natAbs)))] Gd.none Wn_tA79 rfl rfl rfl rfl rfl ?_
              refine o_call [(intW ((iterZ m k (numS a))))] (bp (¬ Fit ((iterZ m k (numS a))))) Gd.none Wn_tC77 rfl (c_sLong ((iterZ m k (numS a))) (by first | omega | assumption | (simp only [Int.natAbs_neg]; omega))) ?_
              refine o_assign (bp (¬ Fit ((iterZ m k (numS a))))) Gd.none rfl ?_
              refine aops_end ?_
              refine hK11 _ ?_
              refine awp_condQ (q := ¬ Fit ((iterZ m k (numS a)))) rfl (fun h5 => ?_) (fun h5 => ?_)
              · refine awp_seq fun K12 hK12 => ?_
                refine awp_region rfl ?_
                refine o_store [(9001, (AO.blk (.loop (lrec fn tmps _ _ _ D .busy none)))), (101, (oZ 79 .u32 ((iterZ m k (numS a))))), (9005, (AO.pin [(.lit (.func (.yield l) #[] #[])), (AV.ref 8001 (0)), (AV.ref 8002 (0)), (nm .i64 (k))] us)), (8001, (oZ 79 .u32 ((iterZ m k (numS a))))), (8002, (oM 24 m)), (9002, (.blk (.deferred (some [])))), (9003, (pinA [(5, (AV.ref 3 (0))), (6, (AV.ref 4 (0))), (7, (AV.ref 5 (0))), (29, (AV.clo 91 [(AV.ref 8001 (0)), (AV.ref 8002 (0))]))] tmps)), (9004, (pinL l D)), (3, (AO.var 3 [(AV.lit (.int .i64 (K)))])), (4, (AO.var 9 [(AV.lit (.string (({data := #[]} : ByteArray))))])), (5, (AO.var 26 [(nm .i64 (0))]))] Gd.none Wn_tZ9 rfl rfl rfl rfl rfl rfl ?_
                refine o_store [(9001, (AO.blk (.loop (lrec fn tmps _ _ _ D .busy none)))), (101, (oZ 79 .u32 ((iterZ m k (numS a))))), (9005, (AO.pin [(.lit (.func (.yield l) #[] #[])), (AV.ref 8001 (0)), (AV.ref 8002 (0)), (nm .i64 (k))] us)), (8001, (oZ 79 .u32 ((iterZ m k (numS a))))), (8002, (oM 24 m)), (9002, (.blk (.deferred (some [])))), (9003, (pinA [(5, (AV.ref 3 (0))), (6, (AV.ref 4 (0))), (7, (AV.ref 5 (0))), (29, (AV.clo 91 [(AV.ref 8001 (0)), (AV.ref 8002 (0))]))] tmps)), (9004, (pinL l D)), (3, (AO.var 3 [(AV.lit (.int .i64 (K)))])), (4, (AO.var 9 [(AV.lit (.string (({data := #[]} : ByteArray))))])), (5, (AO.var 26 [(nm .i64 (3))]))] Gd.none Wn_tZ26 rfl rfl rfl rfl rfl rfl ?_
                refine aops_end ?_
                refine hK12 _ ?_
                refine awp_ret ?_
                exact ⟨[(9002, (.blk (.deferred (some [])))), (9003, (pinA [(5, (AV.ref 3 (0))), (6, (AV.ref 4 (0))), (7, (AV.ref 5 (0))), (29, (AV.clo 91 [(AV.ref 8001 (0)), (AV.ref 8002 (0))]))] tmps)), (9004, (pinL l D)), (4, (AO.var 9 [(AV.lit (.string (({ data := #[] } : ByteArray))))])), (5, (AO.var 26 [(nm .i64 (3))]))], Wk.sub (trivial) (And.intro rfl (And.intro rfl (And.intro rfl (And.intro rfl (And.intro rfl (And.intro (by first | rfl | (rw [← hz]; first | done | rfl)) (And.intro (by first | rfl | (rw [← hz]; first | done | rfl)) (trivial)))))))), rfl, rfl, _, rfl, .inl ⟨(by rw [← hr, runZ_bad h5]; exact h5), rfl, rfl⟩⟩
              · have hF : Fit (iterZ m k (numS a)) := Decidable.not_not.1 h5
                refine awp_seq fun K13 hK13 => ?_
                refine awp_region rfl ?_
                refine o_move (nm .i64 (k)) Gd.none rfl ?_
                refine o_loadS (AV.lit (.int .i64 (K))) Gd.none Wn_tS3 rfl rfl rfl ?_
                refine o_eql (a := (((k : Nat) : Int))) (c := (K)) Gd.none rfl rfl ?_
                refine o_assign (bp ((((k : Nat) : Int)) = (K))) Gd.none rfl ?_
                refine aops_end ?_
                refine hK13 _ ?_
                refine awp_condQ (q := (((k : Nat) : Int)) = (K)) rfl (fun h6 => ?_) (fun h6 => ?_)
                · have hz : (iterZ m k (numS a)) = runZ m K.toNat (numS a) := by rw [← hr, show K.toNat - k = 0 by omega]; rfl
                  have hfz : Fit (runZ m K.toNat (numS a)) := by rw [← hz]; exact hF
                  refine awp_seq fun K14 hK14 => ?_
                  refine awp_region rfl ?_
                  refine o_loadA [(bp ((iterZ m k (numS a)) < 0)), (AV.sl 1 (ns .u32 (digs ((iterZ m k (numS a))).natAbs)))] Gd.none Wn_tA79 rfl rfl rfl rfl rfl ?_
                  refine o_call [(intW ((iterZ m k (numS a))))] (AV.lit (.string (txt ((iterZ m k (numS a)))))) Gd.none Wn_tC64 rfl (c_wText ((iterZ m k (numS a))) (by first | omega | assumption | (simp only [Int.natAbs_neg]; omega))) ?_
                  refine o_store [(9001, (AO.blk (.loop (lrec fn tmps _ _ _ D .busy none)))), (101, (oZ 79 .u32 ((iterZ m k (numS a))))), (9005, (AO.pin [(.lit (.func (.yield l) #[] #[])), (AV.ref 8001 (0)), (AV.ref 8002 (0)), (nm .i64 (k))] us)), (8001, (oZ 79 .u32 ((iterZ m k (numS a))))), (8002, (oM 24 m)), (9002, (.blk (.deferred (some [])))), (9003, (pinA [(5, (AV.ref 3 (0))), (6, (AV.ref 4 (0))), (7, (AV.ref 5 (0))), (29, (AV.clo 91 [(AV.ref 8001 (0)), (AV.ref 8002 (0))]))] tmps)), (9004, (pinL l D)), (3, (AO.var 3 [(AV.lit (.int .i64 (K)))])), (4, (AO.var 9 [(AV.lit (.string (txt ((iterZ m k (numS a))))))])), (5, (AO.var 26 [(nm .i64 (0))]))] Gd.none Wn_tZ9 rfl rfl rfl rfl rfl rfl ?_
                  refine o_store [(9001, (AO.blk (.loop (lrec fn tmps _ _ _ D .busy none)))), (101, (oZ 79 .u32 ((iterZ m k (numS a))))), (9005, (AO.pin [(.lit (.func (.yield l) #[] #[])), (AV.ref 8001 (0)), (AV.ref 8002 (0)), (nm .i64 (k))] us)), (8001, (oZ 79 .u32 ((iterZ m k (numS a))))), (8002, (oM 24 m)), (9002, (.blk (.deferred (some [])))), (9003, (pinA [(5, (AV.ref 3 (0))), (6, (AV.ref 4 (0))), (7, (AV.ref 5 (0))), (29, (AV.clo 91 [(AV.ref 8001 (0)), (AV.ref 8002 (0))]))] tmps)), (9004, (pinL l D)), (3, (AO.var 3 [(AV.lit (.int .i64 (K)))])), (4, (AO.var 9 [(AV.lit (.string (txt ((iterZ m k (numS a))))))])), (5, (AO.var 26 [(nm .i64 (0))]))] Gd.none Wn_tZ26 rfl rfl rfl rfl rfl rfl ?_
                  refine aops_end ?_
                  refine hK14 _ ?_
                  refine awp_ret ?_
                  exact ⟨[(9002, (.blk (.deferred (some [])))), (9003, (pinA [(5, (AV.ref 3 (0))), (6, (AV.ref 4 (0))), (7, (AV.ref 5 (0))), (29, (AV.clo 91 [(AV.ref 8001 (0)), (AV.ref 8002 (0))]))] tmps)), (9004, (pinL l D)), (4, (AO.var 9 [(AV.lit (.string (txt (runZ m K.toNat (numS a)))))])), (5, (AO.var 26 [(nm .i64 (0))]))], Wk.sub (trivial) (And.intro rfl (And.intro rfl (And.intro rfl (And.intro rfl (And.intro rfl (And.intro (by first | rfl | (rw [← hz]; first | done | rfl)) (And.intro (by first | rfl | (rw [← hz]; first | done | rfl)) (trivial)))))))), rfl, rfl, _, rfl, .inr (⟨hfz, rfl, rfl⟩)⟩
                · refine awp_skip ?_
                  exact ⟨[(8001, (oZ 79 .u32 ((iterZ m k (numS a))))), (8002, (oM 24 m)), (9002, (.blk (.deferred (some [])))), (9003, (pinA [(5, (AV.ref 3 (0))), (6, (AV.ref 4 (0))), (7, (AV.ref 5 (0))), (29, (AV.clo 91 [(AV.ref 8001 (0)), (AV.ref 8002 (0))]))] tmps)), (9004, (pinL l D)), (3, (AO.var 3 [(AV.lit (.int .i64 (K)))])), (4, (AO.var 9 [(AV.lit (.string (({data := #[]} : ByteArray))))])), (5, (AO.var 26 [(nm .i64 (0))]))], Wk.sub (trivial) (And.intro rfl (And.intro rfl (And.intro rfl (And.intro rfl (And.intro rfl (And.intro rfl (And.intro rfl (And.intro rfl (And.intro rfl (And.intro rfl (trivial))))))))))), rfl, rfl, _, rfl, (by omega), (by rw [← hr, show K.toNat - k = (K.toNat - (k + 1)) + 1 by omega, runZ, if_pos hF]; rfl), (by have := step_len hM (fit_len hF) (by decide); simp only [iterZ]; omega), rfl⟩
          case nx0 =>
            rintro fn tmps D l pe m' (⟨hbad, rfl, rfl⟩ | ⟨hfit, rfl, rfl⟩)
            · refine postT_ret ⟨[(AV.lit (.string (({ data := #[] } : ByteArray)))), (nm .i64 (3))], And.intro ⟨4, (AO.var 9 [(AV.lit (.string (({ data := #[] } : ByteArray))))]), rfl, rfl, rfl, Or.inr ⟨Wn_tS9, _, rfl, AV.le_refl _⟩⟩ (And.intro ⟨5, (AO.var 26 [(nm .i64 (3))]), rfl, rfl, rfl, Or.inr ⟨Wn_tS26, _, rfl, AV.le_refl _⟩⟩ (trivial)), rfl, ?_⟩ rfl rfl
              refine tup_eq2 (by unfold runS; rw [if_pos ⟨hm', ha', by omega, by omega⟩, toldS, if_neg hbad]) (by unfold runE; rw [if_pos ⟨hm', ha'⟩, if_pos (by omega), toldE, if_neg hbad])
            · refine postT_ret ⟨[(AV.lit (.string (txt (runZ m K.toNat (numS a))))), (nm .i64 (0))], And.intro ⟨4, (AO.var 9 [(AV.lit (.string (txt (runZ m K.toNat (numS a)))))]), rfl, rfl, rfl, Or.inr ⟨Wn_tS9, _, rfl, AV.le_refl _⟩⟩ (And.intro ⟨5, (AO.var 26 [(nm .i64 (0))]), rfl, rfl, rfl, Or.inr ⟨Wn_tS26, _, rfl, AV.le_refl _⟩⟩ (trivial)), rfl, ?_⟩ rfl rfl
              refine tup_eq2 (by unfold runS; rw [if_pos ⟨hm', ha', by omega, by omega⟩, toldS, if_pos hfit]) (by unfold runE; rw [if_pos ⟨hm', ha'⟩, if_pos (by omega), toldE, if_pos hfit])

end Go.Proofs.YtbilndahjkimkaaDoor

set_option linter.unusedVariables false
set_option linter.unusedSimpArgs false
namespace Go.Ab
open Go.RowKit
def seesOk (m : List (Nat × AO)) : List (Nat × AO) → Prop
  | [] => True
  | (id, ob) :: r => lookO m id = some ob ∧ ob.seeB = true ∧ seesOk m r
theorem seesOk_spec {s : List (Nat × AV)} {m : List (Nat × AO)} : ∀ {us : List (Nat × AO)}, seesOk m us → ∀ p ∈ us, (St.sem ⟨s, m⟩).μ p.1 = some p.2 ∧ p.2.seeB = true
  | [], _, p, hp => by simp at hp
  | (id, ob) :: r, h, p, hp => by
    rcases List.mem_cons.1 hp with rfl | hp
    · exact ⟨h.1, h.2.1⟩
    · exact seesOk_spec h.2.2 p hp
section
variable {C : Ctx} {ops : Array Oper} {s : List (Nat × AV)} {m : List (Nat × AO)} {d : Nat} {t : TypeId} {p : String} {af : Array Edge} {g : Option (Nat × Bool)} {os : List Oper} {K : List Eff → St → Prop}
theorem o_callV {y : Operand} {f : FuncId} {args : Array Operand} {tys : Array TypeId} {caps : List AV} (us : List (Nat × AO)) (as' : List AV) (u : Value) (hg : Gd ops s g) (hb : callable C.P f = true) (hy : ev s y = .clo f caps) (hu : seesOk m us) (hnd : nodB (us.map (·.1)) = true)
    (ha : frzVAll us (evs s args.toList ++ caps) = as') (hc : ECalls C f as' (.lit u)) (k : aops C ops ⟨(d, .lit u) :: s, m⟩ os fun es σ' => K ({ val := .lit u, use := us.map (·.1) } :: es) σ') :
    aops C ops ⟨s, m⟩ (⟨some d, .call { callee := .value y, args := args, argTypes := tys }, t, p, af, g⟩ :: os) K :=
  o_val hg (.callV y f args tys caps us as' u rfl (by rw [ev_st]; exact hy) (callable_spec hb).1 (callable_spec hb).2 (seesOk_spec hu) (nodB_spec hnd) (by rw [evs_st]; exact ha) hc) k
theorem n_indexArr {ty : TypeId} {x y : Operand} {c e sz id off : Nat} {kk : IntKind} (i r : Nat) (hg : Gd ops s g) (ht : tyArr C.P ty = some (c, e, sz)) (hx : ev s x = .ref id off) (hy : ev s y = nm kk i) (h1 : i < c) (hr : off + i * sz = r)
    (k : aops C ops ⟨(d, .ref id r) :: s, m⟩ os fun es σ' => K ({ val := .ref id r } :: es) σ') : aops C ops ⟨s, m⟩ (⟨some d, .indexAddr ty x y, t, p, af, g⟩ :: os) K := by
  subst hr
  have := Step.indexArr (C := C) (S := St.sem ⟨s, m⟩) (o := ⟨some d, .indexAddr ty x y, t, p, af, g⟩) ty x y c e sz id off kk (i : Int) rfl ht (by rw [ev_st]; exact hx) (by rw [ev_st]; exact hy) (by omega) (by omega)
  rw [Int.toNat_natCast] at this
  exact o_val hg this k
theorem n_sliceArr {ty : TypeId} {x : Operand} {lo hi : Option Operand} {c e sz id off : Nat} (l h r q : Nat) (hg : Gd ops s g) (ht : tyArr C.P ty = some (c, e, sz)) (hsz : Nat.blt 0 sz = true) (hm : Nat.ble (c * sz) 140737488355328 = true) (hx : ev s x = .ref id off) (hlo : (St.sem ⟨s, m⟩).loOk lo l) (hhi : (St.sem ⟨s, m⟩).hiOk hi c h) (h1 : l ≤ h) (h2 : h ≤ c) (hr : off + l * sz = r) (hq : h - l = q)
    (k : aops C ops ⟨(d, .vw id r sz q) :: s, m⟩ os fun es σ' => K ({ val := .vw id r sz q } :: es) σ') : aops C ops ⟨s, m⟩ (⟨some d, .slice ty x lo hi none, t, p, af, g⟩ :: os) K := by
  subst hr
  subst hq
  exact o_val hg (.sliceArr ty x lo hi c e sz id off l h rfl ht (by rw [Nat.blt_eq] at hsz; exact hsz) (Nat.le_of_ble_eq_true hm) (by rw [ev_st]; exact hx) hlo hhi h1 h2) k
end
end Go.Ab

set_option linter.unusedVariables false
set_option linter.unusedSimpArgs false
namespace Go.Mth
open Go.Ab
theorem wrap_bd (i : Int) {n : Nat} (hn : 0 < n) : -(n : Int) < Int.tmod i n ∧ Int.tmod i n < n := by
  have h1 := Int.tmod_lt_of_pos i (show (0 : Int) < n by omega)
  have h2 := Int.lt_tmod_of_pos i (show (0 : Int) < n by omega)
  exact ⟨h2, h1⟩
theorem wrap_eq (i : Int) {n : Nat} (hn : 0 < n) : Int.tmod (Int.tmod i n + n) n = i % (n : Int) := by
  obtain ⟨h1, h2⟩ := wrap_bd i hn
  rw [Int.tmod_eq_emod_of_nonneg (by omega), Int.add_emod_right]
  have := Int.mul_tdiv_add_tmod i n
  have e : i = Int.tmod i n + (n : Int) * Int.tdiv i n := by omega
  rw [e, Int.add_mul_emod_self_left, ← e]
theorem getD_mem {α : Type} {l : List α} {i : Nat} {d : α} (h : i < l.length) : l.getD i d ∈ l := by
  rw [List.getD_eq_getElem?_getD, List.getElem?_eq_getElem h]
  exact List.getElem_mem h
noncomputable def shortB (a : ByteArray) : Bool := decide (a.size ≤ 601) && okS a
def ShortS (l : List ByteArray) : Prop := ∀ k, k < l.length → shortB (l.getD k { data := #[] }) = true
noncomputable instance (l : List ByteArray) : Decidable (ShortS l) := Classical.propDecidable _
theorem shortB_yes {a : ByteArray} (h : a.size ≤ 601) (h2 : okS a = true) : shortB a = true := by unfold shortB; rw [h2, decide_eq_true h]; rfl
theorem shortB_le {a : ByteArray} (h : shortB a = true) : a.size ≤ 601 := by unfold shortB at h; simp at h; exact h.1
theorem shortB_ok {a : ByteArray} (h : shortB a = true) : okS a = true := by unfold shortB at h; simp at h; exact h.2
theorem list_extZ {x y : List Int} (hl : x.length = y.length) (h : ∀ k, k < x.length → x.getD k 0 = y.getD k 0) : x = y := by
  refine List.ext_getElem hl fun k h1 h2 => ?_
  have := h k h1
  rw [List.getD_eq_getElem?_getD, List.getD_eq_getElem?_getD, List.getElem?_eq_getElem h1, List.getElem?_eq_getElem h2] at this
  exact this
def propN (m : MapM) (w : List Int) : Nat → List Int
  | 0 => []
  | i + 1 => propN m w i ++ [w.getD i 0 % m.mod]
def propW (m : MapM) (w : List Int) : List Int := propN m w (min w.length 40)
theorem propN_len (m : MapM) (w : List Int) : ∀ i, (propN m w i).length = i
  | 0 => rfl
  | i + 1 => by rw [propN, List.length_append, propN_len m w i]; rfl
theorem propN_is {m : MapM} (hm : OkM m) (w : List Int) : ∀ i, IsW m (propN m w i)
  | 0 => fun r hr => by simp [propN] at hr
  | i + 1 => fun r hr => by
    rw [propN, List.mem_append, List.mem_singleton] at hr
    rcases hr with hr | rfl
    · exact propN_is hm w i r hr
    · have := hm.1
      exact ⟨Int.emod_nonneg _ (by omega), Int.emod_lt_of_pos _ (by omega)⟩
theorem propW_ok {m : MapM} (hm : OkM m) (w : List Int) : OkW m (propW m w) ∧ (propW m w).length ≤ 40 := by
  have h : (propW m w).length ≤ 40 := by unfold propW; rw [propN_len]; omega
  exact ⟨⟨propN_is hm w _, by omega⟩, h⟩
theorem step_len' {m : MapM} (hm : OkM m) (z : Int) : (digs (stepZ m z).natAbs).length ≤ (digs z.natAbs).length + 4 := by
  have := step_len (z := z) (k := (digs z.natAbs).length + 1) hm (by omega) (by omega)
  omega
end Go.Mth

set_option linter.unusedVariables false
set_option linter.unusedSimpArgs false
namespace Go.Proofs.YtbilndahjkimkaaDoor
open Go Go.Ab Go.Mth
theorem Xh_tU71 : cx.P.underlying 71 = some (.slice 9) := by kernel_rfl
theorem Xh_tE71 : tyElem cx.P 71 = some (9, 1, 16) := by kernel_rfl
theorem Xh_tS9 : tySc cx.P 9 = true := by kernel_rfl
theorem Xh_tT9 : cx.P.underlying 9 = some .string := by kernel_rfl
theorem Xh_tC15 : callable cx.P 15 = true := by kernel_rfl
theorem Xh_tU22 : cx.P.underlying 22 = some (.slice 3) := by kernel_rfl
theorem Xh_tE22 : tyElem cx.P 22 = some (3, 1, 8) := by kernel_rfl
theorem Xh_tS3 : tySc cx.P 3 = true := by kernel_rfl
theorem Xh_tF24_0 : tyField cx.P 24 0 = some (0, 3) := by kernel_rfl
theorem Xh_tC79 : callable cx.P 79 = true := by kernel_rfl
theorem Xh_tO3 : tyZero cx.P 3 = some [(Go.Value.int IntKind.i64 0)] := by kernel_rfl
theorem Xh_tO36 : tyZero cx.P 36 = some [(Go.Value.bool false), (Go.Value.slice none 0 0)] := by kernel_rfl
theorem Xh_tC38 : callable cx.P 38 = true := by kernel_rfl
theorem Xh_tZ36 : tySize cx.P 36 = some 2 := by kernel_rfl
theorem Xh_tA36 : tyAgg cx.P 36 = some 2 := by kernel_rfl
theorem Xh_tC37 : callable cx.P 37 = true := by kernel_rfl
theorem Xh_tA24 : tyAgg cx.P 24 = some 3 := by kernel_rfl
theorem Xh_tC52 : callable cx.P 52 = true := by kernel_rfl
theorem Xh_tC53 : callable cx.P 53 = true := by kernel_rfl
theorem Xh_tC78 : callable cx.P 78 = true := by kernel_rfl
theorem Xh_tC20 : callable cx.P 20 = true := by kernel_rfl
theorem Xh_tO41 : tyZero cx.P 41 = some [(Go.Value.string {data := #[]}), (Go.Value.string {data := #[]}), (Go.Value.string {data := #[]})] := by kernel_rfl
theorem Xh_tZ41 : tySize cx.P 41 = some 3 := by kernel_rfl
theorem Xh_tC21 : callable cx.P 21 = true := by kernel_rfl
theorem Xh_tA41 : tyAgg cx.P 41 = some 3 := by kernel_rfl
theorem Xh_tP41 : tyPlaces cx.P 41 = some (fun i => (#[(0, 1), (1, 1), (2, 1)] : Array (Nat × Nat))[i]?) := by kernel_rfl
theorem c_tWrapped (i : Int) (n : Nat) (hi : -9223372036854775808 ≤ i) (hi2 : i ≤ 9223372036854775807) (hn : 0 < n) (hn2 : n ≤ 100000000) : ECalls cx 79 [(AV.lit (.int .i64 (i))), (nm .i64 (n))] (.lit (.int .i64 (i % (n : Int)))) := by
  refine ecalls_of_awp Tryd.func79 (c := _) rfl (Nat.le_of_ble_eq_true rfl) ?_
  show awp cx 12 _ (postF cx Tryd.f79 _) ⟨[(0, (AV.lit (.int .i64 (i)))), (1, (nm .i64 (n)))], []⟩
  have hw := wrap_bd i hn
  refine awp_seq fun K0 hK0 => ?_
  refine awp_region rfl ?_
  refine o_assign (nm .i64 (0)) Gd.none rfl ?_
  refine aops_end ?_
  refine hK0 _ ?_
  refine awp_seq fun K1 hK1 => ?_
  refine awp_region rfl ?_
  refine o_move (AV.lit (.int .i64 (i))) Gd.none rfl ?_
  refine o_move (nm .i64 (n)) Gd.none rfl ?_
  refine o_remT (a := (i)) (c := (((n : Nat) : Int))) Gd.none rfl rfl (by omega) ?_
  refine o_move (nm .i64 (n)) Gd.none rfl ?_
  refine o_add (a := (Int.tmod (i) (((n : Nat) : Int)))) (c := (((n : Nat) : Int))) Gd.none rfl rfl (by exact wrap64 (by omega) (by omega)) ?_
  refine o_move (nm .i64 (n)) Gd.none rfl ?_
  refine o_remT (a := ((Int.tmod (i) (((n : Nat) : Int))) + (((n : Nat) : Int)))) (c := (((n : Nat) : Int))) Gd.none rfl rfl (by omega) ?_
  refine o_assign (AV.lit (.int .i64 (Int.tmod ((Int.tmod (i) (((n : Nat) : Int))) + (((n : Nat) : Int))) (((n : Nat) : Int))))) Gd.none rfl ?_
  refine aops_end ?_
  refine hK1 _ ?_
  refine awp_ret ?_
  refine post_ret ⟨[(AV.lit (.int .i64 (Int.tmod ((Int.tmod (i) (((n : Nat) : Int))) + (((n : Nat) : Int))) (((n : Nat) : Int)))))], And.intro (AV.le_refl _) (trivial), rfl, ?_⟩
  exact congrArg (fun z => AV.lit (.int .i64 z)) (wrap_eq i hn).symm

theorem c_tShort (l : List ByteArray) (hl : l.length ≤ 17592186044416) (hs : ∀ a ∈ l, a.size ≤ 9223372036854775807) : ECalls cx 40 [(AV.sl 1 (sbs (l)))] (bp (ShortS l)) := by
  refine ecalls_of_awp Tryd.func40 (c := _) rfl (Nat.le_of_ble_eq_true rfl) ?_
  show awp cx 24 _ (postF cx Tryd.f40 _) ⟨[(0, (AV.sl 1 (sbs (l))))], []⟩
  refine awp_seq fun K0 hK0 => ?_
  refine awp_region rfl ?_
  refine o_assign (AV.lit (.bool false)) Gd.none rfl ?_
  refine aops_end ?_
  refine hK0 _ ?_
  refine awp_seq fun K1 hK1 => ?_
  refine awp_seq fun K2 hK2 => ?_
  refine awp_region rfl ?_
  refine o_assign (nm .i64 (0)) Gd.none rfl ?_
  refine aops_end ?_
  refine hK2 _ ?_
  refine awp_block ?_
  refine awp_loopR (fun κ σ => ∃ (i : Nat), (i ≤ l.length) ∧ (∀ k, k < i → shortB (l.getD k { data := #[] }) = true) ∧ (l.length - i) = κ ∧ σ = ⟨[(0, (AV.sl 1 (sbs (l)))), (3, (nm .i64 (i)))], []⟩) ⟨_, _, ⟨0, (by omega), (fun k hk => by omega), rfl, rfl⟩, ?wk0⟩ ?rd0
  case wk0 =>
    exact Wk.sub (And.intro rfl (And.intro (by first | rfl | exact congrArg (nm _) (by omega) | exact nm_int (by omega) | exact nm_int (by simp [IntKind.wrap, IntKind.bits, IntKind.signed]; omega)) (trivial))) (trivial)
  rintro κ _ ⟨i, hi, hf, rfl, rfl⟩
  refine awp_seq fun K3 hK3 => ?_
  refine awp_seq fun K4 hK4 => ?_
  refine awp_region rfl ?_
  refine o_move (nm .i64 (i)) Gd.none rfl ?_
  refine o_move (AV.sl 1 (sbs (l))) Gd.none rfl ?_
  refine s_len (l) Gd.none Xh_tU71 rfl ?_
  refine n_lss (i) ((l).length) Gd.none rfl rfl ?_
  refine aops_end ?_
  refine hK4 _ ?_
  refine awp_condQ (q := (i) < ((l).length)) rfl (fun h1 => ?_) (fun h1 => ?_)
  · have hsi := hs _ (getD_mem (l := l) (i := i) (d := { data := #[] }) (by omega))
    refine awp_skip ?_
    refine hK3 _ ?_
    refine awp_seq fun K5 hK5 => ?_
    refine awp_block ?_
    refine awp_seq fun K6 hK6 => ?_
    refine awp_region rfl ?_
    refine o_move (AV.sl 1 (sbs (l))) Gd.none rfl ?_
    refine o_move (nm .i64 (i)) Gd.none rfl ?_
    refine s_index (l) (i) Gd.none Xh_tE71 rfl rfl (by omega) ?_
    refine s_loadI (l) (i) Gd.none Xh_tS9 rfl (by omega) ?_
    refine n_lenS ((l).getD (i) { data := #[] }) Gd.none rfl Xh_tT9 ?_
    refine n_gtr (((l).getD (i) { data := #[] }).size) (601) Gd.none rfl rfl ?_
    refine o_move (bp ((601) < (((l).getD (i) { data := #[] }).size))) Gd.none rfl ?_
    refine o_splitP (q := (601) < (((l).getD (i) { data := #[] }).size)) 16 rfl (fun h2 => ?_) (fun h2 => ?_)
    · refine o_skip (b := decide ((601) < (((l).getD (i) { data := #[] }).size))) rfl rfl (decide_eq_true h2) ?_
      refine o_skip (b := decide ((601) < (((l).getD (i) { data := #[] }).size))) rfl rfl (decide_eq_true h2) ?_
      refine o_skip (b := decide ((601) < (((l).getD (i) { data := #[] }).size))) rfl rfl (decide_eq_true h2) ?_
      refine o_skip (b := decide ((601) < (((l).getD (i) { data := #[] }).size))) rfl rfl (decide_eq_true h2) ?_
      refine o_skip (b := decide ((601) < (((l).getD (i) { data := #[] }).size))) rfl rfl (decide_eq_true h2) ?_
      refine o_skip (b := decide ((601) < (((l).getD (i) { data := #[] }).size))) rfl rfl (decide_eq_true h2) ?_
      refine o_pickT (b := decide ((601) < (((l).getD (i) { data := #[] }).size))) (AV.lit (.bool true)) Gd.none rfl (decide_eq_true h2) rfl ?_
      refine aops_end ?_
      refine hK6 _ ?_
      refine awp_condB (b := true) rfl (fun _ => ?_) (fun hh => absurd (hh.symm.trans rfl) (by decide))
      refine awp_seq fun K7 hK7 => ?_
      refine awp_region rfl ?_
      refine o_assign (AV.lit (.bool false)) Gd.none rfl ?_
      refine aops_end ?_
      refine hK7 _ ?_
      refine awp_ret ?_
      refine post_ret ⟨[(AV.lit (.bool false))], And.intro (AV.le_refl _) (trivial), rfl, ?_⟩
      exact (bl_bp (b := false) ⟨fun h => (by cases h), fun h => absurd h (fun hh => absurd (shortB_le (hh i (by omega))) (by omega))⟩).symm
    · refine o_move (AV.sl 1 (sbs (l))) (Gd.yes rfl rfl (decide_eq_false h2)) rfl ?_
      refine o_move (nm .i64 (i)) (Gd.yes rfl rfl (decide_eq_false h2)) rfl ?_
      refine s_index (l) (i) (Gd.yes rfl rfl (decide_eq_false h2)) Xh_tE71 rfl rfl (by omega) ?_
      refine s_loadI (l) (i) (Gd.yes rfl rfl (decide_eq_false h2)) Xh_tS9 rfl (by omega) ?_
      refine o_call [(AV.lit (.string ((l).getD (i) { data := #[] })))] (AV.lit (.bool (okS ((l).getD (i) { data := #[] })))) (Gd.yes rfl rfl (decide_eq_false h2)) Xh_tC15 rfl (c_rValid ((l).getD (i) { data := #[] }) (by first | assumption | decide | omega)) ?_
      refine o_not (b := okS ((l).getD (i) { data := #[] })) (Gd.yes rfl rfl (decide_eq_false h2)) rfl ?_
      refine o_pickF (b := decide ((601) < (((l).getD (i) { data := #[] }).size))) (AV.lit (.bool (!(okS ((l).getD (i) { data := #[] }))))) Gd.none rfl (decide_eq_false h2) rfl ?_
      refine aops_end ?_
      refine hK6 _ ?_
      refine awp_condB (b := !(okS ((l).getD (i) { data := #[] }))) rfl (fun h3 => ?_) (fun h3 => ?_)
      · refine awp_seq fun K8 hK8 => ?_
        refine awp_region rfl ?_
        refine o_assign (AV.lit (.bool false)) Gd.none rfl ?_
        refine aops_end ?_
        refine hK8 _ ?_
        refine awp_ret ?_
        refine post_ret ⟨[(AV.lit (.bool false))], And.intro (AV.le_refl _) (trivial), rfl, ?_⟩
        exact (bl_bp (b := false) ⟨fun h => (by cases h), fun h => absurd h (fun hh => absurd (shortB_ok (hh i (by omega))) (by simpa using h3))⟩).symm
      · refine awp_skip ?_
        refine hK5 _ ?_
        refine awp_region rfl ?_
        refine o_move (nm .i64 (i)) Gd.none rfl ?_
        refine n_add (i) (1) Gd.none rfl rfl (by simp only [topOf]; omega) ?_
        refine o_assign (nm .i64 ((i) + (1))) Gd.none rfl ?_
        refine aops_end ?_
        refine ⟨_, _, ?lt, ⟨i + 1, (by omega), (fun k hk => by rcases Nat.lt_or_ge k i with e | e; exact hf k e; rw [show k = i by omega]; exact shortB_yes (by omega) (by simpa using h3)), rfl, rfl⟩, ?wk⟩
        case lt => omega
        case wk => exact Wk.sub (And.intro rfl (And.intro (by first | rfl | exact congrArg (nm _) (by omega) | exact nm_int (by omega) | exact nm_int (by simp [IntKind.wrap, IntKind.bits, IntKind.signed]; omega)) (trivial))) (trivial)
  · refine awp_exit ?_
    refine hK1 _ ?_
    refine awp_seq fun K9 hK9 => ?_
    refine awp_region rfl ?_
    refine o_assign (AV.lit (.bool true)) Gd.none rfl ?_
    refine aops_end ?_
    refine hK9 _ ?_
    refine awp_ret ?_
    refine post_ret ⟨[(AV.lit (.bool true))], And.intro (AV.le_refl _) (trivial), rfl, ?_⟩
    exact (bl_bp (b := true) ⟨fun _ => (show ShortS l from fun k hk => hf k (by omega)), fun _ => rfl⟩).symm

theorem c_tProper (m : MapM) (w : List Int) (hM : OkM m) (hwl : w.length ≤ 17592186044416) (hwb : ∀ z ∈ w, -9223372036854775808 ≤ z ∧ z ≤ 9223372036854775807) : ECalls cx 42 [(mapV m), (AV.sl 1 (is .i64 (w))), (nm .i64 (40))] (.sl 1 (is .i64 (propW m w))) := by
  refine ecalls_of_awp Tryd.func42 (c := _) rfl (Nat.le_of_ble_eq_true rfl) ?_
  show awp cx 31 _ (postF cx Tryd.f42 _) ⟨[(0, (mapV m)), (1, (AV.sl 1 (is .i64 (w)))), (2, (nm .i64 (40)))], []⟩
  have hM2 := hM
  obtain ⟨o1, o2, o3, o4, o5⟩ := hM2
  refine awp_seq fun K0 hK0 => ?_
  refine awp_region rfl ?_
  refine o_box 2 [(AV.lit (.int .i64 (m.mod))), (AV.sl 1 (is .i64 (m.mul))), (AV.sl 1 (is .i64 (m.add)))] Gd.none rfl rfl ?_
  refine o_assign (AV.lit (.slice none 0 0)) Gd.none rfl ?_
  refine aops_end ?_
  refine hK0 _ ?_
  refine awp_seq fun K1 hK1 => ?_
  refine awp_region rfl ?_
  refine o_assign (AV.lit (.slice none 0 0)) Gd.none rfl ?_
  refine aops_end ?_
  refine hK1 _ ?_
  refine awp_seq fun K2 hK2 => ?_
  refine awp_seq fun K3 hK3 => ?_
  refine awp_region rfl ?_
  refine o_assign (nm .i64 (0)) Gd.none rfl ?_
  refine aops_end ?_
  refine hK3 _ ?_
  refine awp_block ?_
  refine awp_loopR (fun κ σ => ∃ (i : Nat), (i ≤ w.length) ∧ (i ≤ 40) ∧ (w.length - i) = κ ∧ σ = ⟨[(1, (AV.sl 1 (is .i64 (w)))), (2, (nm .i64 (40))), (3, (AV.ref 2 (0))), (7, (AV.row 50)), (8, (nm .i64 (i)))], [(2, (oM 24 m)), (50, (AO.row 3 1 (is .i64 (propN m w i))))]⟩) ⟨_, _, ⟨0, (by omega), (by omega), rfl, rfl⟩, ?wk0⟩ ?rd0
  case wk0 =>
    exact Wk.trans (Wk.newNil (i := 7) (id := 503) (e := 3) (sz := 1) rfl rfl (by decide)) (Wk.trans (Wk.sub (σ' := ⟨[(1, (AV.sl 1 (is .i64 (w)))), (2, (nm .i64 (40))), (3, (AV.ref 2 (0))), (7, (AV.row 503)), (8, (nm .i64 (0)))], [(2, (oM 24 m)), (503, (AO.row 3 1 (is .i64 ([]))))]⟩) (And.intro rfl (And.intro rfl (And.intro rfl (And.intro rfl (And.intro rfl (trivial)))))) (And.intro rfl (And.intro rfl (trivial)))) (Wk.trans (Wk.ren (id := 503) (id' := 50) rfl) (Wk.sub (And.intro rfl (And.intro rfl (And.intro rfl (And.intro (by first | rfl | (simp)) (And.intro (by first | rfl | exact congrArg (nm _) (by omega) | exact nm_int (by omega) | exact nm_int (by simp [IntKind.wrap, IntKind.bits, IntKind.signed]; omega)) (trivial)))))) (And.intro (by first | rfl | (rw [propN, hmd]; rfl)) (And.intro (by first | rfl | exact row_ns (by simp) | (rw [propN, hmd]; rfl)) (trivial))))))
  rintro κ _ ⟨i, hi, hi2, rfl, rfl⟩
  refine awp_seq fun K4 hK4 => ?_
  refine awp_seq fun K5 hK5 => ?_
  refine awp_region rfl ?_
  refine o_move (nm .i64 (i)) Gd.none rfl ?_
  refine o_move (AV.sl 1 (is .i64 (w))) Gd.none rfl ?_
  refine i_len (w) Gd.none Xh_tU22 rfl ?_
  refine n_lss (i) ((w).length) Gd.none rfl rfl ?_
  refine o_move (bp ((i) < ((w).length))) Gd.none rfl ?_
  refine o_splitP (q := (i) < ((w).length)) 13 rfl (fun h1 => ?_) (fun h1 => ?_)
  · refine o_move (nm .i64 (i)) (Gd.yes rfl rfl (decide_eq_true h1)) rfl ?_
    refine o_move (nm .i64 (40)) (Gd.yes rfl rfl (decide_eq_true h1)) rfl ?_
    refine n_lss (i) (40) (Gd.yes rfl rfl (decide_eq_true h1)) rfl rfl ?_
    refine o_pickT (b := decide ((i) < ((w).length))) (bp ((i) < (40))) Gd.none rfl (decide_eq_true h1) rfl ?_
    refine aops_end ?_
    refine hK5 _ ?_
    refine awp_condQ (q := (i) < (40)) rfl (fun h2 => ?_) (fun h2 => ?_)
    · have hwi := hwb _ (getD_mem (l := w) (i := i) (d := 0) (by omega))
      have hmd : ((m.mod.toNat : Nat) : Int) = m.mod := Int.toNat_of_nonneg (by omega)
      refine awp_skip ?_
      refine hK4 _ ?_
      refine awp_seq fun K6 hK6 => ?_
      refine awp_block ?_
      refine awp_regionD rfl ?_
      refine o_move (AV.row 50) Gd.none rfl ?_
      refine o_move (AV.sl 1 (is .i64 (w))) Gd.none rfl ?_
      refine o_move (nm .i64 (i)) Gd.none rfl ?_
      refine i_index (w) (i) Gd.none Xh_tE22 rfl rfl (by omega) ?_
      refine i_loadI (w) (i) Gd.none Xh_tS3 rfl (by omega) ?_
      refine o_fieldRef 0 Gd.none Xh_tF24_0 rfl rfl ?_
      refine o_loadS (AV.lit (.int .i64 (m.mod))) Gd.none Xh_tS3 rfl rfl rfl ?_
      refine n_as (v' := (nm .i64 (m.mod.toNat))) (nm_int (by omega)) ?_
      refine o_call [(AV.lit (.int .i64 ((w).getD (i) 0))), (nm .i64 (m.mod.toNat))] (AV.lit (.int .i64 (((w).getD (i) 0) % ((m.mod.toNat : Nat) : Int)))) Gd.none Xh_tC79 rfl (c_tWrapped ((w).getD (i) 0) (m.mod.toNat) (by omega) (by omega) (by omega) (by omega)) ?_
      refine o_buildSlice 101 (is .i64 ([((w).getD (i) 0) % ((m.mod.toNat : Nat) : Int)])) [(0, [(AV.lit (.int .i64 (((w).getD (i) 0) % ((m.mod.toNat : Nat) : Int))))])] Gd.none Xh_tE22 rfl Xh_tO3 rfl rfl rfl rfl rfl rfl rfl ?_
      refine i_append 102 (propN m w i) ([((w).getD (i) 0) % ((m.mod.toNat : Nat) : Int)]) [(101, (AO.row 3 1 (is .i64 ([((w).getD (i) 0) % ((m.mod.toNat : Nat) : Int)])))), (2, (oM 24 m))] Gd.none Xh_tE22 Xh_tO3 rfl rfl rfl rfl rfl (by simp only [propN_len, List.length_cons, List.length_nil]; omega) (by decide) rfl rfl ?_
      refine o_assign (AV.row 102) Gd.none rfl ?_
      refine aops_end ⟨by kernel_rfl, ?_⟩
      refine hK6 _ ?_
      refine awp_region rfl ?_
      refine o_move (nm .i64 (i)) Gd.none rfl ?_
      refine n_add (i) (1) Gd.none rfl rfl (by simp only [topOf]; omega) ?_
      refine o_assign (nm .i64 ((i) + (1))) Gd.none rfl ?_
      refine aops_end ?_
      refine ⟨_, _, ?lt, ⟨i + 1, (by omega), (by omega), rfl, rfl⟩, ?wk⟩
      case lt => omega
      case wk => exact Wk.trans (Wk.sub (σ' := ⟨[(1, (AV.sl 1 (is .i64 (w)))), (2, (nm .i64 (40))), (3, (AV.ref 2 (0))), (7, (AV.row 102)), (8, (nm .i64 ((i) + (1))))], [(2, (oM 24 m)), (102, (AO.row 3 1 (is .i64 ((propN m w i) ++ ([((w).getD (i) 0) % ((m.mod.toNat : Nat) : Int)])))))]⟩) (And.intro rfl (And.intro rfl (And.intro rfl (And.intro rfl (And.intro rfl (trivial)))))) (And.intro rfl (And.intro rfl (trivial)))) (Wk.trans (Wk.ren (id := 102) (id' := 50) rfl) (Wk.sub (And.intro rfl (And.intro rfl (And.intro rfl (And.intro (by first | rfl | (simp)) (And.intro (by first | rfl | exact congrArg (nm _) (by omega) | exact nm_int (by omega) | exact nm_int (by simp [IntKind.wrap, IntKind.bits, IntKind.signed]; omega)) (trivial)))))) (And.intro rfl (And.intro (by first | rfl | exact row_ns (by simp) | (rw [propN, hmd]; rfl)) (trivial)))))
    · refine awp_exit ?_
      refine hK2 _ ?_
      refine awp_seq fun K7 hK7 => ?_
      refine awp_region rfl ?_
      refine o_move (AV.row 50) Gd.none rfl ?_
      refine o_assign (AV.row 50) Gd.none rfl ?_
      refine aops_end ?_
      refine hK7 _ ?_
      refine awp_wk (σ' := ⟨[(6, (AV.row 50))], [(50, (AO.row 3 1 (is .i64 (propN m w i))))]⟩) (Wk.sub (And.intro rfl (trivial)) (And.intro rfl (trivial))) ?_
      refine awp_wk (σ' := ⟨[(6, (AV.sl 1 (is .i64 (propN m w i))))], []⟩) (Wk.freeze (id := 50) (e := 3) (sz := 1) (cs := (is .i64 (propN m w i))) rfl) ?_
      refine awp_ret ?_
      refine post_ret ⟨[(AV.sl 1 (is .i64 (propN m w i)))], And.intro (AV.le_refl _) (trivial), rfl, ?_⟩
      exact is_as (by unfold propW; congr 1; omega)
  · refine o_skip (b := decide ((i) < ((w).length))) rfl rfl (decide_eq_false h1) ?_
    refine o_skip (b := decide ((i) < ((w).length))) rfl rfl (decide_eq_false h1) ?_
    refine o_skip (b := decide ((i) < ((w).length))) rfl rfl (decide_eq_false h1) ?_
    refine o_pickF (b := decide ((i) < ((w).length))) (AV.lit (.bool false)) Gd.none rfl (decide_eq_false h1) rfl ?_
    refine aops_end ?_
    refine hK5 _ ?_
    refine awp_condB (b := false) rfl (fun hh => absurd (hh.symm.trans rfl) (by decide)) (fun _ => ?_)
    refine awp_exit ?_
    refine hK2 _ ?_
    refine awp_seq fun K8 hK8 => ?_
    refine awp_region rfl ?_
    refine o_move (AV.row 50) Gd.none rfl ?_
    refine o_assign (AV.row 50) Gd.none rfl ?_
    refine aops_end ?_
    refine hK8 _ ?_
    refine awp_wk (σ' := ⟨[(6, (AV.row 50))], [(50, (AO.row 3 1 (is .i64 (propN m w i))))]⟩) (Wk.sub (And.intro rfl (trivial)) (And.intro rfl (trivial))) ?_
    refine awp_wk (σ' := ⟨[(6, (AV.sl 1 (is .i64 (propN m w i))))], []⟩) (Wk.freeze (id := 50) (e := 3) (sz := 1) (cs := (is .i64 (propN m w i))) rfl) ?_
    refine awp_ret ?_
    refine post_ret ⟨[(AV.sl 1 (is .i64 (propN m w i)))], And.intro (AV.le_refl _) (trivial), rfl, ?_⟩
    exact is_as (by unfold propW; congr 1; omega)

theorem c_tPower (b : Int) (k : Nat) (hb : 0 ≤ b) (hb2 : b ≤ 999999) (hk : k ≤ 1000000) : ECalls cx 43 [(AV.lit (.int .i64 (b))), (nm .i64 (k))] (intR (b ^ k)) := by
  refine ecalls_of_awp Tryd.func43 (c := _) rfl (Nat.le_of_ble_eq_true rfl) ?_
  show awp cx 18 _ (postF cx Tryd.f43 _) ⟨[(0, (AV.lit (.int .i64 (b)))), (1, (nm .i64 (k)))], []⟩
  have hb1 := small_len (z := b) (by omega)
  refine awp_seq fun K0 hK0 => ?_
  refine awp_region rfl ?_
  refine o_alloc 2 [(AV.lit (.bool false)), (AV.lit (.slice none 0 0))] Gd.none Xh_tO36 rfl rfl rfl ?_
  refine aops_end ?_
  refine hK0 _ ?_
  refine awp_seq fun K1 hK1 => ?_
  refine awp_region rfl ?_
  refine o_call [(nm .i64 (1))] (intR ((1 : Int))) Gd.none Xh_tC38 rfl (c_rOf ((1 : Int)) (by first | decide | omega) (by first | decide | omega)) ?_
  refine o_alloc 3 [(AV.lit (.bool false)), (AV.lit (.slice none 0 0))] Gd.none Xh_tO36 rfl rfl rfl ?_
  refine o_store [(3, (oZ 36 .i64 ((1 : Int)))), (2, (AO.var 36 [(AV.lit (.bool false)), (AV.lit (.slice none 0 0))]))] Gd.none Xh_tZ36 rfl rfl rfl rfl rfl rfl ?_
  refine aops_end ?_
  refine hK1 _ ?_
  refine awp_seq fun K2 hK2 => ?_
  refine awp_seq fun K3 hK3 => ?_
  refine awp_region rfl ?_
  refine o_assign (nm .i64 (0)) Gd.none rfl ?_
  refine aops_end ?_
  refine hK3 _ ?_
  refine awp_block ?_
  refine awp_loopR (fun κ σ => ∃ (i : Nat), (i ≤ k) ∧ ((digs (b ^ i).natAbs).length ≤ i + 1) ∧ (k - i) = κ ∧ σ = ⟨[(0, (AV.lit (.int .i64 (b)))), (1, (nm .i64 (k))), (4, (AV.ref 2 (0))), (5, (AV.ref 3 (0))), (6, (nm .i64 (i)))], [(2, (AO.var 36 [(AV.lit (.bool false)), (AV.lit (.slice none 0 0))])), (3, (oZ 36 .i64 ((b ^ i))))]⟩) ⟨_, _, ⟨0, (by omega), (by rw [Int.pow_zero]; have := small_len (z := 1) (by decide); omega), rfl, rfl⟩, ?wk0⟩ ?rd0
  case wk0 =>
    exact Wk.sub (And.intro rfl (And.intro rfl (And.intro rfl (And.intro rfl (And.intro (by first | rfl | exact congrArg (nm _) (by omega) | exact nm_int (by omega) | exact nm_int (by simp [IntKind.wrap, IntKind.bits, IntKind.signed]; omega)) (trivial)))))) (And.intro (by first | rfl | (simp only [Int.pow_zero, Int.pow_succ]; rfl)) (And.intro (by first | rfl | (simp only [Int.pow_zero, Int.pow_succ]; rfl)) (trivial)))
  rintro κ _ ⟨i, hi, hl, rfl, rfl⟩
  refine awp_seq fun K4 hK4 => ?_
  refine awp_seq fun K5 hK5 => ?_
  refine awp_region rfl ?_
  refine o_move (nm .i64 (i)) Gd.none rfl ?_
  refine o_move (nm .i64 (k)) Gd.none rfl ?_
  refine n_lss (i) (k) Gd.none rfl rfl ?_
  refine aops_end ?_
  refine hK5 _ ?_
  refine awp_condQ (q := (i) < (k)) rfl (fun h1 => ?_) (fun h1 => ?_)
  · refine awp_skip ?_
    refine hK4 _ ?_
    refine awp_seq fun K6 hK6 => ?_
    refine awp_block ?_
    refine awp_regionD rfl ?_
    refine o_loadA [(bp ((b ^ i) < 0)), (AV.sl 1 (ns .i64 (digs ((b ^ i)).natAbs)))] Gd.none Xh_tA36 rfl rfl rfl rfl rfl ?_
    refine o_move (AV.lit (.int .i64 (b))) Gd.none rfl ?_
    refine o_call [(AV.lit (.int .i64 (b)))] (intR ((b))) Gd.none Xh_tC38 rfl (c_rOf (b) (by first | decide | omega) (by first | decide | omega)) ?_
    refine o_call [(intR ((b ^ i))), (intR ((b)))] (intR (((b ^ i) * (b)))) Gd.none Xh_tC37 rfl (c_rMul ((b ^ i)) ((b)) (by first | omega | assumption | (simp only [Int.natAbs_neg]; omega)) (by first | omega | assumption | (simp only [Int.natAbs_neg]; omega))) ?_
    refine o_store [(2, (AO.var 36 [(AV.lit (.bool false)), (AV.lit (.slice none 0 0))])), (3, (oZ 36 .i64 (((b ^ i) * (b)))))] Gd.none Xh_tZ36 rfl rfl rfl rfl rfl rfl ?_
    refine aops_end ⟨by kernel_rfl, ?_⟩
    refine hK6 _ ?_
    refine awp_region rfl ?_
    refine o_move (nm .i64 (i)) Gd.none rfl ?_
    refine n_add (i) (1) Gd.none rfl rfl (by simp only [topOf]; omega) ?_
    refine o_assign (nm .i64 ((i) + (1))) Gd.none rfl ?_
    refine aops_end ?_
    refine ⟨_, _, ?lt, ⟨i + 1, (by omega), (by have := len_mulZ (b ^ i) b; rw [Int.pow_succ]; omega), rfl, rfl⟩, ?wk⟩
    case lt => omega
    case wk => exact Wk.sub (And.intro rfl (And.intro rfl (And.intro rfl (And.intro rfl (And.intro (by first | rfl | exact congrArg (nm _) (by omega) | exact nm_int (by omega) | exact nm_int (by simp [IntKind.wrap, IntKind.bits, IntKind.signed]; omega)) (trivial)))))) (And.intro rfl (And.intro (by first | rfl | (simp only [Int.pow_zero, Int.pow_succ]; rfl)) (trivial)))
  · refine awp_exit ?_
    refine hK2 _ ?_
    refine awp_seq fun K7 hK7 => ?_
    refine awp_region rfl ?_
    refine o_loadA [(bp ((b ^ i) < 0)), (AV.sl 1 (ns .i64 (digs ((b ^ i)).natAbs)))] Gd.none Xh_tA36 rfl rfl rfl rfl rfl ?_
    refine o_store [(2, (oZ 36 .i64 ((b ^ i)))), (3, (oZ 36 .i64 ((b ^ i))))] Gd.none Xh_tZ36 rfl rfl rfl rfl rfl rfl ?_
    refine aops_end ?_
    refine hK7 _ ?_
    refine awp_ret ?_
    refine post_ret ⟨[(intR ((b ^ i)))], And.intro ⟨2, (oZ 36 .i64 ((b ^ i))), rfl, rfl, rfl, Or.inl ⟨Xh_tA36, AV.le_refl _⟩⟩ (trivial), rfl, ?_⟩
    exact congrArg intR (by rw [show k = i by omega])

theorem c_tAfter (m : MapM) (z : Int) (k : Nat) (hM : OkM m) (hk : k ≤ 200) (hz : (digs z.natAbs).length ≤ 1000) : ECalls cx 44 [(mapV m), (intR (z)), (nm .i64 (k))] (.tup [intR (iterZ m k z), .sl 1 (is .i64 (wordZ m z k))]) := by
  refine ecalls_of_awp Tryd.func44 (c := _) rfl (Nat.le_of_ble_eq_true rfl) ?_
  show awp cx 26 _ (postF cx Tryd.f44 _) ⟨[(0, (mapV m)), (1, (intR (z))), (2, (nm .i64 (k)))], []⟩
  refine awp_seq fun K0 hK0 => ?_
  refine awp_region rfl ?_
  refine o_box 2 [(AV.lit (.int .i64 (m.mod))), (AV.sl 1 (is .i64 (m.mul))), (AV.sl 1 (is .i64 (m.add)))] Gd.none rfl rfl ?_
  refine o_box 3 [(bp (z < 0)), (AV.sl 1 (ns .i64 (digs (z).natAbs)))] Gd.none rfl rfl ?_
  refine o_alloc 4 [(AV.lit (.bool false)), (AV.lit (.slice none 0 0))] Gd.none Xh_tO36 rfl rfl rfl ?_
  refine o_assign (AV.lit (.slice none 0 0)) Gd.none rfl ?_
  refine aops_end ?_
  refine hK0 _ ?_
  refine awp_seq fun K1 hK1 => ?_
  refine awp_region rfl ?_
  refine o_assign (AV.lit (.slice none 0 0)) Gd.none rfl ?_
  refine aops_end ?_
  refine hK1 _ ?_
  refine awp_seq fun K2 hK2 => ?_
  refine awp_seq fun K3 hK3 => ?_
  refine awp_region rfl ?_
  refine o_assign (nm .i64 (0)) Gd.none rfl ?_
  refine aops_end ?_
  refine hK3 _ ?_
  refine awp_block ?_
  refine awp_loopR (fun κ σ => ∃ (i : Nat), (i ≤ k) ∧ ((digs (iterZ m i z).natAbs).length ≤ 1000 + 4 * i) ∧ (k - i) = κ ∧ σ = ⟨[(2, (nm .i64 (k))), (3, (AV.ref 2 (0))), (4, (AV.ref 3 (0))), (6, (AV.ref 4 (0))), (8, (AV.row 50)), (9, (nm .i64 (i)))], [(2, (oM 24 m)), (3, (oZ 36 .i64 ((iterZ m i z)))), (4, (AO.var 36 [(AV.lit (.bool false)), (AV.lit (.slice none 0 0))])), (50, (AO.row 3 1 (is .i64 (wordZ m z i))))]⟩) ⟨_, _, ⟨0, (by omega), (show (digs z.natAbs).length ≤ 1000 + 4 * 0 by omega), rfl, rfl⟩, ?wk0⟩ ?rd0
  case wk0 =>
    exact Wk.trans (Wk.newNil (i := 8) (id := 505) (e := 3) (sz := 1) rfl rfl (by decide)) (Wk.trans (Wk.sub (σ' := ⟨[(2, (nm .i64 (k))), (3, (AV.ref 2 (0))), (4, (AV.ref 3 (0))), (6, (AV.ref 4 (0))), (8, (AV.row 505)), (9, (nm .i64 (0)))], [(2, (oM 24 m)), (3, (oZ 36 .i64 (z))), (4, (AO.var 36 [(AV.lit (.bool false)), (AV.lit (.slice none 0 0))])), (505, (AO.row 3 1 (is .i64 ([]))))]⟩) (And.intro rfl (And.intro rfl (And.intro rfl (And.intro rfl (And.intro rfl (And.intro rfl (trivial))))))) (And.intro rfl (And.intro rfl (And.intro rfl (And.intro rfl (trivial)))))) (Wk.trans (Wk.ren (id := 505) (id' := 50) rfl) (Wk.sub (And.intro rfl (And.intro rfl (And.intro rfl (And.intro rfl (And.intro (by first | rfl | (simp)) (And.intro (by first | rfl | exact congrArg (nm _) (by omega) | exact nm_int (by omega) | exact nm_int (by simp [IntKind.wrap, IntKind.bits, IntKind.signed]; omega)) (trivial))))))) (And.intro rfl (And.intro rfl (And.intro rfl (And.intro (by first | rfl | exact row_ns (by simp)) (trivial))))))))
  rintro κ _ ⟨i, hi, hlz, rfl, rfl⟩
  refine awp_seq fun K4 hK4 => ?_
  refine awp_seq fun K5 hK5 => ?_
  refine awp_region rfl ?_
  refine o_move (nm .i64 (i)) Gd.none rfl ?_
  refine o_move (nm .i64 (k)) Gd.none rfl ?_
  refine n_lss (i) (k) Gd.none rfl rfl ?_
  refine aops_end ?_
  refine hK5 _ ?_
  refine awp_condQ (q := (i) < (k)) rfl (fun h1 => ?_) (fun h1 => ?_)
  · have hln := step_len' hM (iterZ m i z)
    refine awp_skip ?_
    refine hK4 _ ?_
    refine awp_seq fun K6 hK6 => ?_
    refine awp_block ?_
    refine awp_seq fun K7 hK7 => ?_
    refine awp_region rfl ?_
    refine o_move (AV.row 50) Gd.none rfl ?_
    refine o_loadA [(AV.lit (.int .i64 (m.mod))), (AV.sl 1 (is .i64 (m.mul))), (AV.sl 1 (is .i64 (m.add)))] Gd.none Xh_tA24 rfl rfl rfl rfl rfl ?_
    refine o_loadA [(bp ((iterZ m i z) < 0)), (AV.sl 1 (ns .i64 (digs ((iterZ m i z)).natAbs)))] Gd.none Xh_tA36 rfl rfl rfl rfl rfl ?_
    refine o_call [(mapV m), (intR ((iterZ m i z)))] (AV.lit (.int .i64 ((iterZ m i z) % m.mod))) Gd.none Xh_tC52 rfl (c_gRest m ((iterZ m i z)) (by first | assumption | exact okM_iff.1 (by assumption)) (by first | omega | assumption | (simp only [Int.natAbs_neg]; omega))) ?_
    refine o_buildSlice 101 (is .i64 ([(iterZ m i z) % m.mod])) [(0, [(AV.lit (.int .i64 ((iterZ m i z) % m.mod)))])] Gd.none Xh_tE22 rfl Xh_tO3 rfl rfl rfl rfl rfl rfl rfl ?_
    refine i_append 102 (wordZ m z i) ([(iterZ m i z) % m.mod]) [(101, (AO.row 3 1 (is .i64 ([(iterZ m i z) % m.mod])))), (2, (oM 24 m)), (3, (oZ 36 .i64 ((iterZ m i z)))), (4, (AO.var 36 [(AV.lit (.bool false)), (AV.lit (.slice none 0 0))]))] Gd.none Xh_tE22 Xh_tO3 rfl rfl rfl rfl rfl (by simp only [wordZ_len, List.length_cons, List.length_nil]; omega) (by decide) rfl rfl ?_
    refine o_assign (AV.row 102) Gd.none rfl ?_
    refine aops_end ?_
    refine hK7 _ ?_
    refine awp_region rfl ?_
    refine o_loadA [(AV.lit (.int .i64 (m.mod))), (AV.sl 1 (is .i64 (m.mul))), (AV.sl 1 (is .i64 (m.add)))] Gd.none Xh_tA24 rfl rfl rfl rfl rfl ?_
    refine o_loadA [(bp ((iterZ m i z) < 0)), (AV.sl 1 (ns .i64 (digs ((iterZ m i z)).natAbs)))] Gd.none Xh_tA36 rfl rfl rfl rfl rfl ?_
    refine o_call [(mapV m), (intR ((iterZ m i z)))] (intR ((stepZ m (iterZ m i z)))) Gd.none Xh_tC53 rfl (c_gStep m ((iterZ m i z)) (by first | assumption | exact okM_iff.1 (by assumption)) (by first | omega | assumption | (simp only [Int.natAbs_neg]; omega))) ?_
    refine o_store [(102, (AO.row 3 1 (is .i64 ((wordZ m z i) ++ ([(iterZ m i z) % m.mod]))))), (101, (AO.row 3 1 (is .i64 ([(iterZ m i z) % m.mod])))), (2, (oM 24 m)), (3, (oZ 36 .i64 ((stepZ m (iterZ m i z))))), (4, (AO.var 36 [(AV.lit (.bool false)), (AV.lit (.slice none 0 0))]))] Gd.none Xh_tZ36 rfl rfl rfl rfl rfl rfl ?_
    refine aops_end ?_
    refine hK6 _ ?_
    refine awp_region rfl ?_
    refine o_move (nm .i64 (i)) Gd.none rfl ?_
    refine n_add (i) (1) Gd.none rfl rfl (by simp only [topOf]; omega) ?_
    refine o_assign (nm .i64 ((i) + (1))) Gd.none rfl ?_
    refine aops_end ?_
    refine ⟨_, _, ?lt, ⟨i + 1, (by omega), (show (digs (stepZ m (iterZ m i z)).natAbs).length ≤ _ by omega), rfl, rfl⟩, ?wk⟩
    case lt => omega
    case wk => exact Wk.trans (Wk.sub (σ' := ⟨[(2, (nm .i64 (k))), (3, (AV.ref 2 (0))), (4, (AV.ref 3 (0))), (6, (AV.ref 4 (0))), (8, (AV.row 102)), (9, (nm .i64 ((i) + (1))))], [(2, (oM 24 m)), (3, (oZ 36 .i64 ((stepZ m (iterZ m i z))))), (4, (AO.var 36 [(AV.lit (.bool false)), (AV.lit (.slice none 0 0))])), (102, (AO.row 3 1 (is .i64 ((wordZ m z i) ++ ([(iterZ m i z) % m.mod])))))]⟩) (And.intro rfl (And.intro rfl (And.intro rfl (And.intro rfl (And.intro rfl (And.intro rfl (trivial))))))) (And.intro rfl (And.intro rfl (And.intro rfl (And.intro rfl (trivial)))))) (Wk.trans (Wk.ren (id := 102) (id' := 50) rfl) (Wk.sub (And.intro rfl (And.intro rfl (And.intro rfl (And.intro rfl (And.intro (by first | rfl | (simp)) (And.intro (by first | rfl | exact congrArg (nm _) (by omega) | exact nm_int (by omega) | exact nm_int (by simp [IntKind.wrap, IntKind.bits, IntKind.signed]; omega)) (trivial))))))) (And.intro rfl (And.intro rfl (And.intro rfl (And.intro (by first | rfl | exact row_ns (by simp)) (trivial)))))))
  · refine awp_exit ?_
    refine hK2 _ ?_
    refine awp_seq fun K8 hK8 => ?_
    refine awp_region rfl ?_
    refine o_loadA [(bp ((iterZ m i z) < 0)), (AV.sl 1 (ns .i64 (digs ((iterZ m i z)).natAbs)))] Gd.none Xh_tA36 rfl rfl rfl rfl rfl ?_
    refine o_move (AV.row 50) Gd.none rfl ?_
    refine o_store [(2, (oM 24 m)), (3, (oZ 36 .i64 ((iterZ m i z)))), (4, (oZ 36 .i64 ((iterZ m i z)))), (50, (AO.row 3 1 (is .i64 (wordZ m z i))))] Gd.none Xh_tZ36 rfl rfl rfl rfl rfl rfl ?_
    refine o_assign (AV.row 50) Gd.none rfl ?_
    refine aops_end ?_
    refine hK8 _ ?_
    refine awp_wk (σ' := ⟨[(6, (AV.ref 4 (0))), (7, (AV.row 50))], [(4, (oZ 36 .i64 ((iterZ m i z)))), (50, (AO.row 3 1 (is .i64 (wordZ m z i))))]⟩) (Wk.sub (And.intro rfl (And.intro rfl (trivial))) (And.intro rfl (And.intro rfl (trivial)))) ?_
    refine awp_wk (σ' := ⟨[(6, (AV.ref 4 (0))), (7, (AV.sl 1 (is .i64 (wordZ m z i))))], [(4, (oZ 36 .i64 ((iterZ m i z))))]⟩) (Wk.freeze (id := 50) (e := 3) (sz := 1) (cs := (is .i64 (wordZ m z i))) rfl) ?_
    refine awp_ret ?_
    refine post_ret ⟨[(intR ((iterZ m i z))), (AV.sl 1 (is .i64 (wordZ m z i)))], And.intro ⟨4, (oZ 36 .i64 ((iterZ m i z))), rfl, rfl, rfl, Or.inl ⟨Xh_tA36, AV.le_refl _⟩⟩ (And.intro (AV.le_refl _) (trivial)), rfl, ?_⟩
    exact tup_eq2 (congrArg intR (by rw [show k = i by omega])) (is_as (by rw [show k = i by omega]))

theorem c_tSameInts (x y : List Int) (hb : x.length ≤ 17592186044416) : ECalls cx 45 [(AV.sl 1 (is .i64 (x))), (AV.sl 1 (is .i64 (y)))] (bp (x = y)) := by
  refine ecalls_of_awp Tryd.func45 (c := _) rfl (Nat.le_of_ble_eq_true rfl) ?_
  show awp cx 26 _ (postF cx Tryd.f45 _) ⟨[(0, (AV.sl 1 (is .i64 (x)))), (1, (AV.sl 1 (is .i64 (y))))], []⟩
  refine awp_seq fun K0 hK0 => ?_
  refine awp_region rfl ?_
  refine o_assign (AV.lit (.bool false)) Gd.none rfl ?_
  refine aops_end ?_
  refine hK0 _ ?_
  refine awp_seq fun K1 hK1 => ?_
  refine awp_seq fun K2 hK2 => ?_
  refine awp_region rfl ?_
  refine o_move (AV.sl 1 (is .i64 (x))) Gd.none rfl ?_
  refine i_len (x) Gd.none Xh_tU22 rfl ?_
  refine o_move (AV.sl 1 (is .i64 (y))) Gd.none rfl ?_
  refine i_len (y) Gd.none Xh_tU22 rfl ?_
  refine n_neq ((x).length) ((y).length) Gd.none rfl rfl ?_
  refine aops_end ?_
  refine hK2 _ ?_
  refine awp_condQ (q := ((x).length) ≠ ((y).length)) rfl (fun h1 => ?_) (fun h1 => ?_)
  · refine awp_seq fun K3 hK3 => ?_
    refine awp_region rfl ?_
    refine o_assign (AV.lit (.bool false)) Gd.none rfl ?_
    refine aops_end ?_
    refine hK3 _ ?_
    refine awp_ret ?_
    refine post_ret ⟨[(AV.lit (.bool false))], And.intro (AV.le_refl _) (trivial), rfl, ?_⟩
    exact (bl_bp (b := false) (by constructor <;> intro h <;> first | (exfalso; subst h; exact h1 rfl) | cases h)).symm
  · refine awp_skip ?_
    refine hK1 _ ?_
    refine awp_seq fun K4 hK4 => ?_
    refine awp_seq fun K5 hK5 => ?_
    refine awp_region rfl ?_
    refine o_assign (nm .i64 (0)) Gd.none rfl ?_
    refine aops_end ?_
    refine hK5 _ ?_
    refine awp_block ?_
    refine awp_loopR (fun κ σ => ∃ (i : Nat), (i ≤ x.length) ∧ (∀ k, k < i → x.getD k 0 = y.getD k 0) ∧ (x.length - i) = κ ∧ σ = ⟨[(0, (AV.sl 1 (is .i64 (x)))), (1, (AV.sl 1 (is .i64 (y)))), (5, (nm .i64 (i)))], []⟩) ⟨_, _, ⟨0, (by omega), (fun k hk => by omega), rfl, rfl⟩, ?wk0⟩ ?rd0
    case wk0 =>
      exact Wk.sub (And.intro rfl (And.intro rfl (And.intro (by first | rfl | exact congrArg (nm _) (by omega) | exact nm_int (by omega) | exact nm_int (by simp [IntKind.wrap, IntKind.bits, IntKind.signed]; omega)) (trivial)))) (trivial)
    rintro κ _ ⟨i, hi, hv, rfl, rfl⟩
    refine awp_seq fun K6 hK6 => ?_
    refine awp_seq fun K7 hK7 => ?_
    refine awp_region rfl ?_
    refine o_move (nm .i64 (i)) Gd.none rfl ?_
    refine o_move (AV.sl 1 (is .i64 (x))) Gd.none rfl ?_
    refine i_len (x) Gd.none Xh_tU22 rfl ?_
    refine n_lss (i) ((x).length) Gd.none rfl rfl ?_
    refine aops_end ?_
    refine hK7 _ ?_
    refine awp_condQ (q := (i) < ((x).length)) rfl (fun h2 => ?_) (fun h2 => ?_)
    · refine awp_skip ?_
      refine hK6 _ ?_
      refine awp_seq fun K8 hK8 => ?_
      refine awp_block ?_
      refine awp_seq fun K9 hK9 => ?_
      refine awp_regionD rfl ?_
      refine o_move (AV.sl 1 (is .i64 (x))) Gd.none rfl ?_
      refine o_move (nm .i64 (i)) Gd.none rfl ?_
      refine i_index (x) (i) Gd.none Xh_tE22 rfl rfl (by omega) ?_
      refine i_loadI (x) (i) Gd.none Xh_tS3 rfl (by omega) ?_
      refine o_move (AV.sl 1 (is .i64 (y))) Gd.none rfl ?_
      refine o_move (nm .i64 (i)) Gd.none rfl ?_
      refine i_index (y) (i) Gd.none Xh_tE22 rfl rfl (by omega) ?_
      refine i_loadI (y) (i) Gd.none Xh_tS3 rfl (by omega) ?_
      refine o_neq (a := ((x).getD (i) 0)) (c := ((y).getD (i) 0)) Gd.none rfl rfl ?_
      refine aops_end ⟨by kernel_rfl, ?_⟩
      refine hK9 _ ?_
      refine awp_condQ (q := ((x).getD (i) 0) ≠ ((y).getD (i) 0)) rfl (fun h3 => ?_) (fun h3 => ?_)
      · refine awp_seq fun K10 hK10 => ?_
        refine awp_region rfl ?_
        refine o_assign (AV.lit (.bool false)) Gd.none rfl ?_
        refine aops_end ?_
        refine hK10 _ ?_
        refine awp_ret ?_
        refine post_ret ⟨[(AV.lit (.bool false))], And.intro (AV.le_refl _) (trivial), rfl, ?_⟩
        exact (bl_bp (b := false) (by constructor <;> intro h <;> first | (exfalso; subst h; exact h3 rfl) | cases h)).symm
      · refine awp_skip ?_
        refine hK8 _ ?_
        refine awp_region rfl ?_
        refine o_move (nm .i64 (i)) Gd.none rfl ?_
        refine n_add (i) (1) Gd.none rfl rfl (by simp only [topOf]; omega) ?_
        refine o_assign (nm .i64 ((i) + (1))) Gd.none rfl ?_
        refine aops_end ?_
        refine ⟨_, _, ?lt, ⟨i + 1, (by omega), (fun k hk => by by_cases e : k = i; subst e; exact Decidable.not_not.1 h3; exact hv k (by omega)), rfl, rfl⟩, ?wk⟩
        case lt => omega
        case wk => exact Wk.sub (And.intro rfl (And.intro rfl (And.intro (by first | rfl | exact congrArg (nm _) (by omega) | exact nm_int (by omega) | exact nm_int (by simp [IntKind.wrap, IntKind.bits, IntKind.signed]; omega)) (trivial)))) (trivial)
    · refine awp_exit ?_
      refine hK4 _ ?_
      refine awp_seq fun K11 hK11 => ?_
      refine awp_region rfl ?_
      refine o_assign (AV.lit (.bool true)) Gd.none rfl ?_
      refine aops_end ?_
      refine hK11 _ ?_
      refine awp_ret ?_
      refine post_ret ⟨[(AV.lit (.bool true))], And.intro (AV.le_refl _) (trivial), rfl, ?_⟩
      exact (bl_bp (b := true) ⟨fun _ => list_extZ (by omega) (fun k hk => hv k (by omega)), fun _ => rfl⟩).symm

theorem c_tLeads  : ECalls cx 41 [] (.lit (.bool true)) := by
  refine ecalls_of_awp Tryd.func41 (c := _) rfl (Nat.le_of_ble_eq_true rfl) ?_
  show awp cx 38 _ (postF cx Tryd.f41 _) ⟨[], []⟩
  refine awp_seq fun K0 hK0 => ?_
  refine awp_region rfl ?_
  refine o_assign (AV.lit (.bool false)) Gd.none rfl ?_
  refine aops_end ?_
  refine hK0 _ ?_
  refine awp_seq fun K1 hK1 => ?_
  refine awp_region rfl ?_
  refine o_call [] (mapV (kinM 3 1)) Gd.none Xh_tC78 rfl c_sCollatz ?_
  refine o_buildSlice 2 (ns .i64 ([1, 1, 0])) [(0, [(nm .i64 (1))]), (1, [(nm .i64 (1))]), (2, [(nm .i64 (0))])] Gd.none Xh_tE22 rfl Xh_tO3 rfl rfl rfl rfl rfl rfl rfl ?_
  refine o_callG [(2, 1, (ns .i64 ([1, 1, 0])))] [(mapV (kinM 3 1)), (AV.sl 1 (ns .i64 ([1, 1, 0])))] _ (AV.tup [(AV.agg [(AV.lit (.string (({data := #[57]} : ByteArray)))), (AV.lit (.string (({data := #[53]} : ByteArray)))), (AV.lit (.string (({data := #[56]} : ByteArray))))]), (nm .i64 (0))]) [] Gd.none Xh_tC20 rfl (And.intro ⟨_, rfl⟩ (trivial)) rfl rfl (LeL.cons (AV.le_refl _) (LeL.cons (AV.le_refl _) (LeL.nil))) (by have h := c_oLine (kinM 3 1) [1, 1, 0] (by decide); rw [exW_line.1, exW_line.2] at h; exact h) rfl ?_
  refine o_move (AV.tup [(AV.agg [(AV.lit (.string (({data := #[57]} : ByteArray)))), (AV.lit (.string (({data := #[53]} : ByteArray)))), (AV.lit (.string (({data := #[56]} : ByteArray))))]), (nm .i64 (0))]) Gd.none rfl ?_
  refine o_extract (AV.agg [(AV.lit (.string (({data := #[57]} : ByteArray)))), (AV.lit (.string (({data := #[53]} : ByteArray)))), (AV.lit (.string (({data := #[56]} : ByteArray))))]) Gd.none rfl rfl ?_
  refine o_extract (nm .i64 (0)) Gd.none rfl rfl ?_
  refine o_alloc 3 [(AV.lit (.string (({data := #[]} : ByteArray)))), (AV.lit (.string (({data := #[]} : ByteArray)))), (AV.lit (.string (({data := #[]} : ByteArray))))] Gd.none Xh_tO41 rfl rfl rfl ?_
  refine o_store [(3, (AO.var 41 [(AV.lit (.string (({data := #[57]} : ByteArray)))), (AV.lit (.string (({data := #[53]} : ByteArray)))), (AV.lit (.string (({data := #[56]} : ByteArray))))]))] Gd.none Xh_tZ41 rfl rfl rfl rfl rfl rfl ?_
  refine o_assign (nm .i64 (0)) Gd.none rfl ?_
  refine aops_end ?_
  refine hK1 _ ?_
  refine awp_seq fun K2 hK2 => ?_
  refine awp_region rfl ?_
  refine o_call [] (mapV (kinM 3 1)) Gd.none Xh_tC78 rfl c_sCollatz ?_
  refine o_buildSlice 4 (ns .i64 ([1, 1, 0])) [(0, [(nm .i64 (1))]), (1, [(nm .i64 (1))]), (2, [(nm .i64 (0))])] Gd.none Xh_tE22 rfl Xh_tO3 rfl rfl rfl rfl rfl rfl rfl ?_
  refine o_callG [(4, 1, (ns .i64 ([1, 1, 0])))] [(mapV (kinM 3 1)), (AV.sl 1 (ns .i64 ([1, 1, 0])))] _ (AV.tup [(AV.lit (.string (({data := #[51]} : ByteArray)))), (AV.lit (.string (({data := #[56]} : ByteArray)))), (nm .i64 (0))]) [(3, (AO.var 41 [(AV.lit (.string (({data := #[57]} : ByteArray)))), (AV.lit (.string (({data := #[53]} : ByteArray)))), (AV.lit (.string (({data := #[56]} : ByteArray))))]))] Gd.none Xh_tC21 rfl (And.intro ⟨_, rfl⟩ (trivial)) rfl rfl (LeL.cons (AV.le_refl _) (LeL.cons (AV.le_refl _) (LeL.nil))) (by have h := c_oRest (kinM 3 1) [1, 1, 0] (by decide); rw [exW_rest.1, exW_rest.2.1, exW_rest.2.2] at h; exact h) rfl ?_
  refine o_move (AV.tup [(AV.lit (.string (({data := #[51]} : ByteArray)))), (AV.lit (.string (({data := #[56]} : ByteArray)))), (nm .i64 (0))]) Gd.none rfl ?_
  refine o_extract (AV.lit (.string (({data := #[51]} : ByteArray)))) Gd.none rfl rfl ?_
  refine o_extract (AV.lit (.string (({data := #[56]} : ByteArray)))) Gd.none rfl rfl ?_
  refine o_extract (nm .i64 (0)) Gd.none rfl rfl ?_
  refine o_assign (AV.lit (.string (({data := #[51]} : ByteArray)))) Gd.none rfl ?_
  refine o_assign (AV.lit (.string (({data := #[56]} : ByteArray)))) Gd.none rfl ?_
  refine o_assign (nm .i64 (0)) Gd.none rfl ?_
  refine aops_end ?_
  refine hK2 _ ?_
  refine awp_seq fun K3 hK3 => ?_
  refine awp_region rfl ?_
  refine o_move (nm .i64 (0)) Gd.none rfl ?_
  refine n_eql (0) (0) Gd.none rfl rfl ?_
  refine o_move (bp ((0) = (0))) Gd.none rfl ?_
  refine o_loadA [(AV.lit (.string (({data := #[57]} : ByteArray)))), (AV.lit (.string (({data := #[53]} : ByteArray)))), (AV.lit (.string (({data := #[56]} : ByteArray))))] (Gd.yes rfl rfl (decide_eq_true (by decide))) Xh_tA41 rfl rfl rfl rfl rfl ?_
  refine o_build [(AV.lit (.string (({data := #[57]} : ByteArray)))), (AV.lit (.string (({data := #[53]} : ByteArray)))), (AV.lit (.string (({data := #[56]} : ByteArray))))] [(0, [(AV.lit (.string (({data := #[57]} : ByteArray))))]), (1, [(AV.lit (.string (({data := #[53]} : ByteArray))))]), (2, [(AV.lit (.string (({data := #[56]} : ByteArray))))])] (Gd.yes rfl rfl (decide_eq_true (by decide))) Xh_tP41 Xh_tO41 rfl rfl rfl ?_
  refine o_eqlA [.string (({data := #[57]} : ByteArray)), .string (({data := #[53]} : ByteArray)), .string (({data := #[56]} : ByteArray))] [.string (({data := #[57]} : ByteArray)), .string (({data := #[53]} : ByteArray)), .string (({data := #[56]} : ByteArray))] ((({data := #[57]} : ByteArray)) = (({data := #[57]} : ByteArray)) ∧ (({data := #[53]} : ByteArray)) = (({data := #[53]} : ByteArray)) ∧ (({data := #[56]} : ByteArray)) = (({data := #[56]} : ByteArray))) (Gd.yes rfl rfl (decide_eq_true (by decide))) rfl rfl (eq_api_Line _ _ _ _ _ _) ?_
  refine o_pickT (b := decide ((0) = (0))) (bp ((({data := #[57]} : ByteArray)) = (({data := #[57]} : ByteArray)) ∧ (({data := #[53]} : ByteArray)) = (({data := #[53]} : ByteArray)) ∧ (({data := #[56]} : ByteArray)) = (({data := #[56]} : ByteArray)))) Gd.none rfl (decide_eq_true (by decide)) rfl ?_
  refine o_move (bp ((({data := #[57]} : ByteArray)) = (({data := #[57]} : ByteArray)) ∧ (({data := #[53]} : ByteArray)) = (({data := #[53]} : ByteArray)) ∧ (({data := #[56]} : ByteArray)) = (({data := #[56]} : ByteArray)))) Gd.none rfl ?_
  refine o_move (nm .i64 (0)) (Gd.yes rfl rfl (decide_eq_true ⟨rfl, rfl, rfl⟩)) rfl ?_
  refine n_eql (0) (0) (Gd.yes rfl rfl (decide_eq_true ⟨rfl, rfl, rfl⟩)) rfl rfl ?_
  refine o_pickT (b := decide ((({data := #[57]} : ByteArray)) = (({data := #[57]} : ByteArray)) ∧ (({data := #[53]} : ByteArray)) = (({data := #[53]} : ByteArray)) ∧ (({data := #[56]} : ByteArray)) = (({data := #[56]} : ByteArray)))) (bp ((0) = (0))) Gd.none rfl (decide_eq_true ⟨rfl, rfl, rfl⟩) rfl ?_
  refine o_move (bp ((0) = (0))) Gd.none rfl ?_
  refine o_move (AV.lit (.string (({data := #[51]} : ByteArray)))) (Gd.yes rfl rfl (decide_eq_true (by decide))) rfl ?_
  refine o_eqlS (a := (({data := #[51]} : ByteArray))) (c := (({data := #[51]} : ByteArray))) (Gd.yes rfl rfl (decide_eq_true (by decide))) rfl rfl ?_
  refine o_pickT (b := decide ((0) = (0))) (bp ((({data := #[51]} : ByteArray)).toList = (({data := #[51]} : ByteArray)).toList)) Gd.none rfl (decide_eq_true (by decide)) rfl ?_
  refine o_move (bp ((({data := #[51]} : ByteArray)).toList = (({data := #[51]} : ByteArray)).toList)) Gd.none rfl ?_
  refine o_move (AV.lit (.string (({data := #[56]} : ByteArray)))) (Gd.yes rfl rfl (decide_eq_true rfl)) rfl ?_
  refine o_eqlS (a := (({data := #[56]} : ByteArray))) (c := (({data := #[56]} : ByteArray))) (Gd.yes rfl rfl (decide_eq_true rfl)) rfl rfl ?_
  refine o_pickT (b := decide ((({data := #[51]} : ByteArray)).toList = (({data := #[51]} : ByteArray)).toList)) (bp ((({data := #[56]} : ByteArray)).toList = (({data := #[56]} : ByteArray)).toList)) Gd.none rfl (decide_eq_true rfl) rfl ?_
  refine o_assign (bp ((({data := #[56]} : ByteArray)).toList = (({data := #[56]} : ByteArray)).toList)) Gd.none rfl ?_
  refine aops_end ?_
  refine hK3 _ ?_
  refine awp_ret ?_
  refine post_ret ⟨[(bp ((({data := #[56]} : ByteArray)).toList = (({data := #[56]} : ByteArray)).toList))], And.intro (AV.le_refl _) (trivial), rfl, ?_⟩
  simp [bp, packR]

end Go.Proofs.YtbilndahjkimkaaDoor

set_option linter.unusedVariables false
set_option linter.unusedSimpArgs false
namespace Go.Mth
open Go.Ab
theorem numS_lt {a : ByteArray} (h : OkS a) : (numS a).natAbs < 10 ^ a.size := by
  obtain ⟨o1, o2, o3, o4⟩ := h
  have h1 := dvk_lt (a := a) (s := sgnAt a) (k := a.size - sgnAt a) fun i h1 h2 => o4 i h1 (by omega)
  have h3 : (numS a).natAbs = dvk a (sgnAt a) (a.size - sgnAt a) := by unfold numS sg; split <;> simp
  rw [h3]
  exact Nat.lt_of_lt_of_le h1 (Nat.pow_le_pow_right (by decide) (by omega))
theorem step_abs {m : MapM} (hm : OkM m) {z : Int} {e : Nat} (he : 6 ≤ e) (h : z.natAbs < 10 ^ e) : (stepZ m z).natAbs < 10 ^ (e + 3) := by
  have hs := getD_toNat hm z
  obtain ⟨o1, o2, o3, o4, o5⟩ := hm
  have hr0 := Int.emod_nonneg z (show m.mod ≠ 0 by omega)
  have hr1 := Int.emod_lt_of_pos z (show 0 < m.mod by omega)
  obtain ⟨r1, r2, r3, r4, _⟩ := o5 (z % m.mod).toNat (by omega)
  have e1 : (mulM m (z % m.mod)).natAbs ≤ 999 := by unfold mulM; omega
  have e2 : (addM m (z % m.mod)).natAbs ≤ 999999 := by unfold addM; omega
  have a1 := Int.natAbs_add_le (mulM m (z % m.mod) * z) (addM m (z % m.mod))
  rw [Int.natAbs_mul] at a1
  have a2 := Nat.mul_le_mul e1 (Nat.le_of_lt h)
  have a3 : (stepZ m z).natAbs ≤ (stepZ m z * m.mod).natAbs := by rw [Int.natAbs_mul]; exact Nat.le_mul_of_pos_right _ (by omega)
  rw [hs] at a3
  have p1 : (10 : Nat) ^ (e + 3) = 1000 * 10 ^ e := by rw [Nat.pow_add, Nat.mul_comm]
  have p2 : (10 : Nat) ^ 6 ≤ 10 ^ e := Nat.pow_le_pow_right (by decide) he
  have p3 : (10 : Nat) ^ 6 = 1000000 := by decide
  rw [p1]
  omega
theorem iter_abs {m : MapM} (hm : OkM m) {z : Int} {e : Nat} (he : 6 ≤ e) (h : z.natAbs < 10 ^ e) : ∀ j, (iterZ m j z).natAbs < 10 ^ (e + 3 * j)
  | 0 => h
  | j + 1 => by
    have := step_abs hm (e := e + 3 * j) (by omega) (iter_abs hm he h j)
    rw [iterZ, show e + 3 * (j + 1) = e + 3 * j + 3 by omega]
    exact this
theorem wordZ_get (m : MapM) (z : Int) : ∀ k i, i < k → (wordZ m z k).getD i 0 = iterZ m i z % m.mod
  | 0, i, h => by omega
  | k + 1, i, h => by
    rw [wordZ]
    rcases Nat.lt_or_ge i k with e | e
    · have := wordZ_get m z k i e
      rw [List.getD_eq_getElem?_getD] at this ⊢
      rw [List.getElem?_append_left (by rw [wordZ_len]; exact e)]
      exact this
    · have : i = k := by omega
      subst this
      rw [List.getD_eq_getElem?_getD, List.getElem?_append_right (by rw [wordZ_len]; exact Nat.le_refl _), wordZ_len, Nat.sub_self]
      rfl
theorem word_alike {m : MapM} (hm : OkM m) (x e : Int) (k : Nat) : wordZ m (x + e * m.mod ^ k) k = wordZ m x k :=
  list_extZ (by rw [wordZ_len, wordZ_len]) fun i hi => by
    rw [wordZ_len] at hi
    rw [wordZ_get m _ k i hi, wordZ_get m _ k i hi, alike_rest hm x e hi]
theorem mul_lt_pow {x y : Int} {p q : Nat} (hx : x.natAbs < 10 ^ p) (hy : y.natAbs < 10 ^ q) : (x * y).natAbs < 10 ^ (p + q) := by
  rw [Int.natAbs_mul, Nat.pow_add]
  exact Nat.mul_lt_mul'' hx hy
theorem lt_pow_mono {x : Int} {p q : Nat} (hx : x.natAbs < 10 ^ p) (h : p ≤ q) : x.natAbs < 10 ^ q := Nat.lt_of_lt_of_le hx (Nat.pow_le_pow_right (by decide) h)
theorem add_lt_pow {x y : Int} {p : Nat} (hx : x.natAbs < 10 ^ p) (hy : y.natAbs < 10 ^ p) : (x + y).natAbs < 10 ^ (p + 1) := by
  have h := Int.natAbs_add_le x y
  rw [Nat.pow_succ]
  omega
theorem topw {m : MapM} (hm : OkM m) {a b : ByteArray} (ha : okS a = true) (ha2 : a.size ≤ 601) (hb : okS b = true) (hb2 : b.size ≤ 601) {k : Nat} (hk : k ≤ 40) :
    FitK m (numS a) k ∧ Fit (numS a + numS b * m.mod ^ k) ∧ FitK m (numS a + numS b * m.mod ^ k) k ∧ Fit (iterZ m k (numS a + numS b * m.mod ^ k)) ∧
    Fit (appV (lineT (lineZ m (wordZ m (numS a) k))) (txt (numS a + numS b * m.mod ^ k))) := by
  have n1 := lt_pow_mono (numS_lt (okS_iff.1 ha)) ha2
  have n2 := lt_pow_mono (numS_lt (okS_iff.1 hb)) hb2
  have n3 := lt_pow_mono (mod_pow_lt hm k) (show 2 * k + 1 ≤ 81 by omega)
  have n4 := mul_lt_pow n2 n3
  have n5 := add_lt_pow (lt_pow_mono n1 (Nat.le_add_right _ _)) n4
  have f1 : ∀ j, j ≤ 40 → Fit (iterZ m j (numS a)) := fun j hj => fit_of_pow' (iter_abs hm (by omega) n1 j) (by omega) (by omega)
  have f2 : ∀ j, j ≤ 40 → Fit (iterZ m j (numS a + numS b * m.mod ^ k)) := fun j hj => fit_of_pow' (iter_abs hm (by omega) n5 j) (by omega) (by omega)
  refine ⟨fun j hj => f1 j (by omega), f2 0 (by omega), fun j hj => f2 j (by omega), f2 k hk, ?_⟩
  have hv : appV (lineT (lineZ m (wordZ m (numS a) k))) (txt (numS a + numS b * m.mod ^ k)) = iterZ m k (numS a + numS b * m.mod ^ k) * m.mod ^ k := by
    have h := line_iter hm (numS a + numS b * m.mod ^ k) k
    rw [word_alike hm, lineZ_div, wordZ_len] at h
    unfold appV lineT
    rw [numS_txt, numS_txt, numS_txt, h]
  rw [hv]
  exact fit_of_pow' (mul_lt_pow (iter_abs hm (by omega) n5 k) n3) (by omega) (by omega)
theorem topr {m : MapM} (hm : OkM m) (hf : freeM m) (x : Int) {v : List Int} (hv : OkW m v) :
    wordZ m ((restZ m v).1 + x * m.mod ^ v.length) v.length = v ∧ (restZ m (wordZ m x v.length)).1 = x % m.mod ^ v.length := by
  obtain ⟨r1, r2, _⟩ := rest_fit hm hf hv
  refine ⟨(terras hm hf hv.1 _).2 (by rw [Int.add_mul_emod_self_right]; exact Int.emod_eq_of_lt r1 r2), ?_⟩
  have h := (terras hm hf (wordZ_is hm x v.length) x).1 (by rw [wordZ_len])
  rw [wordZ_len] at h
  exact h.symm
end Go.Mth

set_option linter.unusedVariables false
set_option linter.unusedSimpArgs false
namespace Go.Proofs.YtbilndahjkimkaaDoor
open Go Go.Ab Go.Mth
theorem Xi_tA24 : tyAgg cx.P 24 = some 3 := by kernel_rfl
theorem Xi_tC14 : callable cx.P 14 = true := by kernel_rfl
theorem Xi_tC41 : callable cx.P 41 = true := by kernel_rfl
theorem Xi_tR69 : tyArr cx.P 69 = some (2, 9, 1) := by kernel_rfl
theorem Xi_tC40 : callable cx.P 40 = true := by kernel_rfl
theorem Xi_tC42 : callable cx.P 42 = true := by kernel_rfl
theorem Xi_tU22 : cx.P.underlying 22 = some (.slice 3) := by kernel_rfl
theorem Xi_tS9 : tySc cx.P 9 = true := by kernel_rfl
theorem Xi_tC18 : callable cx.P 18 = true := by kernel_rfl
theorem Xi_tO36 : tyZero cx.P 36 = some [(Go.Value.bool false), (Go.Value.slice none 0 0)] := by kernel_rfl
theorem Xi_tZ36 : tySize cx.P 36 = some 2 := by kernel_rfl
theorem Xi_tF24_0 : tyField cx.P 24 0 = some (0, 3) := by kernel_rfl
theorem Xi_tS3 : tySc cx.P 3 = true := by kernel_rfl
theorem Xi_tC43 : callable cx.P 43 = true := by kernel_rfl
theorem Xi_tA36 : tyAgg cx.P 36 = some 2 := by kernel_rfl
theorem Xi_tC44 : callable cx.P 44 = true := by kernel_rfl
theorem Xi_tC37 : callable cx.P 37 = true := by kernel_rfl
theorem Xi_tC34 : callable cx.P 34 = true := by kernel_rfl
theorem Xi_tC38 : callable cx.P 38 = true := by kernel_rfl
theorem Xi_tF24_1 : tyField cx.P 24 1 = some (1, 22) := by kernel_rfl
theorem Xi_tS22 : tySc cx.P 22 = true := by kernel_rfl
theorem Xi_tE22 : tyElem cx.P 22 = some (3, 1, 8) := by kernel_rfl
theorem Xi_tC27 : callable cx.P 27 = true := by kernel_rfl
theorem Xi_tC12 : callable cx.P 12 = true := by kernel_rfl
theorem Xi_tC39 : callable cx.P 39 = true := by kernel_rfl
theorem Xi_tC20 : callable cx.P 20 = true := by kernel_rfl
theorem Xi_tO41 : tyZero cx.P 41 = some [(Go.Value.string {data := #[]}), (Go.Value.string {data := #[]}), (Go.Value.string {data := #[]})] := by kernel_rfl
theorem Xi_tZ41 : tySize cx.P 41 = some 3 := by kernel_rfl
theorem Xi_tC45 : callable cx.P 45 = true := by kernel_rfl
theorem Xi_tA41 : tyAgg cx.P 41 = some 3 := by kernel_rfl
theorem Xi_tC28 : callable cx.P 28 = true := by kernel_rfl
theorem Xi_tC25 : callable cx.P 25 = true := by kernel_rfl
theorem Xi_tC21 : callable cx.P 21 = true := by kernel_rfl
theorem Xi_tC15 : callable cx.P 15 = true := by kernel_rfl
theorem Xi_tC29 : callable cx.P 29 = true := by kernel_rfl
theorem Xi_tC33 : callable cx.P 33 = true := by kernel_rfl
theorem Xi_tC32 : callable cx.P 32 = true := by kernel_rfl
set_option maxRecDepth 100000 in
theorem c_TopWords (m : MapM) (a b : ByteArray) (w : List Int) (ha : a.size ≤ 9223372036854775807) (hb : b.size ≤ 9223372036854775807) (hwl : w.length ≤ 17592186044416) (hwb : ∀ z ∈ w, -9223372036854775808 ≤ z ∧ z ≤ 9223372036854775807) : ECalls cx 10 [(mapV m), (AV.agg [(AV.lit (.string (a))), (AV.lit (.string (b)))]), (AV.sl 1 (is .i64 (w)))] (.lit (.bool true)) := by
  refine ecalls_of_awp Tryd.func10 (c := _) rfl (Nat.le_of_ble_eq_true rfl) ?_
  show awp cx 256 _ (postF cx Tryd.f10 _) ⟨[(0, (mapV m)), (1, (AV.agg [(AV.lit (.string (a))), (AV.lit (.string (b)))])), (2, (AV.sl 1 (is .i64 (w))))], []⟩
  refine awp_seq fun K0 hK0 => ?_
  refine awp_region rfl ?_
  refine o_box 2 [(AV.lit (.int .i64 (m.mod))), (AV.sl 1 (is .i64 (m.mul))), (AV.sl 1 (is .i64 (m.add)))] Gd.none rfl rfl ?_
  refine o_box 3 [(AV.lit (.string (a))), (AV.lit (.string (b)))] Gd.none rfl rfl ?_
  refine o_assign (AV.lit (.bool false)) Gd.none rfl ?_
  refine aops_end ?_
  refine hK0 _ ?_
  refine awp_seq fun K1 hK1 => ?_
  refine awp_seq fun K2 hK2 => ?_
  refine awp_region rfl ?_
  refine o_loadA [(AV.lit (.int .i64 (m.mod))), (AV.sl 1 (is .i64 (m.mul))), (AV.sl 1 (is .i64 (m.add)))] Gd.none Xi_tA24 rfl rfl rfl rfl rfl ?_
  refine o_call [(mapV m)] (AV.lit (.bool (okM m))) Gd.none Xi_tC14 rfl (c_gValid m) ?_
  refine o_not (b := okM m) Gd.none rfl ?_
  refine o_move (AV.lit (.bool (!(okM m)))) Gd.none rfl ?_
  refine o_split (b := !(okM m)) 37 rfl (fun h1 => ?_) (fun h1 => ?_)
  · have hm' : ¬ okM m = true := by simpa using h1
    refine o_skip (b := !(okM m)) rfl rfl h1 ?_
    refine o_skip (b := !(okM m)) rfl rfl h1 ?_
    refine o_skip (b := !(okM m)) rfl rfl h1 ?_
    refine o_pickT (b := !(okM m)) (AV.lit (.bool true)) Gd.none rfl h1 rfl ?_
    refine aops_end ?_
    refine hK2 _ ?_
    refine awp_condB (b := true) rfl (fun _ => ?_) (fun hh => absurd (hh.symm.trans rfl) (by decide))
    refine awp_seq fun K3 hK3 => ?_
    refine awp_region rfl ?_
    refine o_call [] (AV.lit (.bool true)) Gd.none Xi_tC41 rfl c_tLeads ?_
    refine o_assign (AV.lit (.bool true)) Gd.none rfl ?_
    refine aops_end ?_
    refine hK3 _ ?_
    refine awp_ret ?_
    refine post_ret ⟨[(AV.lit (.bool true))], And.intro (AV.le_refl _) (trivial), rfl, ?_⟩
    first | rfl | simp [bp]
  · have hm' : okM m = true := by simpa using h1
    have hM := okM_iff.1 hm'
    have hM2 := hM
    obtain ⟨o1, o2, o3, o4, o5⟩ := hM2
    refine n_sliceArr (0) (2) (0) (2) (Gd.yes rfl rfl h1) Xi_tR69 rfl rfl rfl rfl rfl (by omega) (by omega) (by first | rfl | simp) (by first | rfl | omega) ?_
    refine o_callV [(3, (AO.var 69 [(AV.lit (.string (a))), (AV.lit (.string (b)))]))] [(AV.sl 1 (sbs ([a, b])))] (.bool (decide (ShortS ([a, b])))) (Gd.yes rfl rfl h1) Xi_tC40 rfl (And.intro rfl (And.intro rfl (trivial))) rfl (by rfl) (c_tShort ([a, b]) (by simp) (by intro x hx; simp only [List.mem_cons, List.not_mem_nil, or_false] at hx; rcases hx with rfl | rfl <;> assumption)) ?_
    refine o_notP (q := ShortS ([a, b])) (Gd.yes rfl rfl h1) rfl ?_
    refine o_pickF (b := !(okM m)) (bp (¬ (ShortS ([a, b])))) Gd.none rfl h1 rfl ?_
    refine aops_end ?_
    refine hK2 _ ?_
    refine awp_condQ (q := ¬ (ShortS ([a, b]))) rfl (fun h2 => ?_) (fun h2 => ?_)
    · refine awp_seq fun K4 hK4 => ?_
      refine awp_region rfl ?_
      refine o_call [] (AV.lit (.bool true)) Gd.none Xi_tC41 rfl c_tLeads ?_
      refine o_assign (AV.lit (.bool true)) Gd.none rfl ?_
      refine aops_end ?_
      refine hK4 _ ?_
      refine awp_ret ?_
      refine post_ret ⟨[(AV.lit (.bool true))], And.intro (AV.le_refl _) (trivial), rfl, ?_⟩
      first | rfl | simp [bp]
    · have hsh := Decidable.not_not.1 h2
      have ha0 : shortB a = true := hsh 0 (by simp)
      have hb0 : shortB b = true := hsh 1 (by simp)
      have ha' := shortB_ok ha0
      have hb' := shortB_ok hb0
      obtain ⟨hV, hVl⟩ := propW_ok hM w
      obtain ⟨t1, t2, t3, t4, t5⟩ := topw hM ha' (shortB_le ha0) hb' (shortB_le hb0) hVl
      have hn := fit_numS (okS_iff.1 ha')
      have l1 := fit_len hn
      have l2 := len_numS (okS_iff.1 hb')
      have hmf := mod_pow_fit hM (k := (propW m (w)).length) (by omega)
      have l3 := fit_len hmf
      have l4 := len_mulZ (numS (b)) (m.mod ^ (propW m (w)).length)
      have l5 := fit_len t2
      have hpos := mod_pow_pos hM (propW m (w)).length
      have hmK := small_len (z := m.mod) (by omega)
      refine awp_skip ?_
      refine hK1 _ ?_
      refine awp_seq fun K5 hK5 => ?_
      refine awp_region rfl ?_
      refine o_loadA [(AV.lit (.int .i64 (m.mod))), (AV.sl 1 (is .i64 (m.mul))), (AV.sl 1 (is .i64 (m.add)))] Gd.none Xi_tA24 rfl rfl rfl rfl rfl ?_
      refine o_move (AV.sl 1 (is .i64 (w))) Gd.none rfl ?_
      refine o_call [(mapV m), (AV.sl 1 (is .i64 (w))), (nm .i64 (40))] (AV.sl 1 (is .i64 (propW m (w)))) Gd.none Xi_tC42 rfl (c_tProper m (w) hM hwl hwb) ?_
      refine o_assign (AV.sl 1 (is .i64 (propW m (w)))) Gd.none rfl ?_
      refine aops_end ?_
      refine hK5 _ ?_
      refine awp_seq fun K6 hK6 => ?_
      refine awp_region rfl ?_
      refine o_move (AV.sl 1 (is .i64 (propW m (w)))) Gd.none rfl ?_
      refine i_len (propW m (w)) Gd.none Xi_tU22 rfl ?_
      refine o_assign (nm .i64 ((propW m (w)).length)) Gd.none rfl ?_
      refine aops_end ?_
      refine hK6 _ ?_
      refine awp_seq fun K7 hK7 => ?_
      refine awp_regionD rfl ?_
      refine n_indexArr (0) (0) Gd.none Xi_tR69 rfl rfl (by omega) (by first | rfl | simp) ?_
      refine o_loadS (AV.lit (.string (a))) Gd.none Xi_tS9 rfl rfl rfl ?_
      refine o_call [(AV.lit (.string (a)))] (intR ((numS (a)))) Gd.none Xi_tC18 rfl (c_rParse (a) (by first | assumption | exact okS_iff.1 (by assumption))) ?_
      refine n_indexArr (1) (1) Gd.none Xi_tR69 rfl rfl (by omega) (by first | rfl | simp) ?_
      refine o_loadS (AV.lit (.string (b))) Gd.none Xi_tS9 rfl rfl rfl ?_
      refine o_call [(AV.lit (.string (b)))] (intR ((numS (b)))) Gd.none Xi_tC18 rfl (c_rParse (b) (by first | assumption | exact okS_iff.1 (by assumption))) ?_
      refine o_alloc 4 [(AV.lit (.bool false)), (AV.lit (.slice none 0 0))] Gd.none Xi_tO36 rfl rfl rfl ?_
      refine o_alloc 5 [(AV.lit (.bool false)), (AV.lit (.slice none 0 0))] Gd.none Xi_tO36 rfl rfl rfl ?_
      refine o_store [(5, (AO.var 36 [(AV.lit (.bool false)), (AV.lit (.slice none 0 0))])), (4, (oZ 36 .i64 ((numS (a))))), (3, (AO.var 69 [(AV.lit (.string (a))), (AV.lit (.string (b)))])), (2, (oM 24 m))] Gd.none Xi_tZ36 rfl rfl rfl rfl rfl rfl ?_
      refine o_store [(5, (oZ 36 .i64 ((numS (b))))), (4, (oZ 36 .i64 ((numS (a))))), (3, (AO.var 69 [(AV.lit (.string (a))), (AV.lit (.string (b)))])), (2, (oM 24 m))] Gd.none Xi_tZ36 rfl rfl rfl rfl rfl rfl ?_
      refine aops_end ⟨by kernel_rfl, ?_⟩
      refine hK7 _ ?_
      refine awp_seq fun K8 hK8 => ?_
      refine awp_region rfl ?_
      refine o_fieldRef 0 Gd.none Xi_tF24_0 rfl rfl ?_
      refine o_loadS (AV.lit (.int .i64 (m.mod))) Gd.none Xi_tS3 rfl rfl rfl ?_
      refine o_move (nm .i64 ((propW m (w)).length)) Gd.none rfl ?_
      refine o_call [(AV.lit (.int .i64 (m.mod))), (nm .i64 ((propW m (w)).length))] (intR ((m.mod ^ (propW m (w)).length))) Gd.none Xi_tC43 rfl (c_tPower m.mod ((propW m (w)).length) (by omega) (by omega) (by omega)) ?_
      refine o_alloc 6 [(AV.lit (.bool false)), (AV.lit (.slice none 0 0))] Gd.none Xi_tO36 rfl rfl rfl ?_
      refine o_store [(6, (oZ 36 .i64 ((m.mod ^ (propW m (w)).length)))), (5, (oZ 36 .i64 ((numS (b))))), (4, (oZ 36 .i64 ((numS (a))))), (3, (AO.var 69 [(AV.lit (.string (a))), (AV.lit (.string (b)))])), (2, (oM 24 m))] Gd.none Xi_tZ36 rfl rfl rfl rfl rfl rfl ?_
      refine aops_end ?_
      refine hK8 _ ?_
      refine awp_seq fun K9 hK9 => ?_
      refine awp_region rfl ?_
      refine o_loadA [(AV.lit (.int .i64 (m.mod))), (AV.sl 1 (is .i64 (m.mul))), (AV.sl 1 (is .i64 (m.add)))] Gd.none Xi_tA24 rfl rfl rfl rfl rfl ?_
      refine o_loadA [(bp ((numS (a)) < 0)), (AV.sl 1 (ns .i64 (digs ((numS (a))).natAbs)))] Gd.none Xi_tA36 rfl rfl rfl rfl rfl ?_
      refine o_move (nm .i64 ((propW m (w)).length)) Gd.none rfl ?_
      refine o_call [(mapV m), (intR ((numS (a)))), (nm .i64 ((propW m (w)).length))] (AV.tup [(intR ((iterZ m (propW m (w)).length (numS (a))))), (AV.sl 1 (is .i64 (wordZ m (numS (a)) (propW m (w)).length)))]) Gd.none Xi_tC44 rfl (c_tAfter m (numS (a)) ((propW m (w)).length) hM (by omega) (by omega)) ?_
      refine o_move (AV.tup [(intR ((iterZ m (propW m (w)).length (numS (a))))), (AV.sl 1 (is .i64 (wordZ m (numS (a)) (propW m (w)).length)))]) Gd.none rfl ?_
      refine o_extract (intR ((iterZ m (propW m (w)).length (numS (a))))) Gd.none rfl rfl ?_
      refine o_extract (AV.sl 1 (is .i64 (wordZ m (numS (a)) (propW m (w)).length))) Gd.none rfl rfl ?_
      refine o_alloc 7 [(AV.lit (.bool false)), (AV.lit (.slice none 0 0))] Gd.none Xi_tO36 rfl rfl rfl ?_
      refine o_store [(7, (oZ 36 .i64 ((iterZ m (propW m (w)).length (numS (a)))))), (6, (oZ 36 .i64 ((m.mod ^ (propW m (w)).length)))), (5, (oZ 36 .i64 ((numS (b))))), (4, (oZ 36 .i64 ((numS (a))))), (3, (AO.var 69 [(AV.lit (.string (a))), (AV.lit (.string (b)))])), (2, (oM 24 m))] Gd.none Xi_tZ36 rfl rfl rfl rfl rfl rfl ?_
      refine o_assign (AV.sl 1 (is .i64 (wordZ m (numS (a)) (propW m (w)).length))) Gd.none rfl ?_
      refine aops_end ?_
      refine hK9 _ ?_
      refine awp_seq fun K10 hK10 => ?_
      refine awp_regionD rfl ?_
      refine o_loadA [(bp ((numS (a)) < 0)), (AV.sl 1 (ns .i64 (digs ((numS (a))).natAbs)))] Gd.none Xi_tA36 rfl rfl rfl rfl rfl ?_
      refine o_loadA [(bp ((numS (b)) < 0)), (AV.sl 1 (ns .i64 (digs ((numS (b))).natAbs)))] Gd.none Xi_tA36 rfl rfl rfl rfl rfl ?_
      refine o_loadA [(bp ((m.mod ^ (propW m (w)).length) < 0)), (AV.sl 1 (ns .i64 (digs ((m.mod ^ (propW m (w)).length)).natAbs)))] Gd.none Xi_tA36 rfl rfl rfl rfl rfl ?_
      refine o_call [(intR ((numS (b)))), (intR ((m.mod ^ (propW m (w)).length)))] (intR (((numS (b)) * (m.mod ^ (propW m (w)).length)))) Gd.none Xi_tC37 rfl (c_rMul ((numS (b))) ((m.mod ^ (propW m (w)).length)) (by first | omega | assumption | (simp only [Int.natAbs_neg]; omega)) (by first | omega | assumption | (simp only [Int.natAbs_neg]; omega))) ?_
      refine o_call [(intR ((numS (a)))), (intR (((numS (b)) * (m.mod ^ (propW m (w)).length))))] (intR (((numS (a)) + ((numS (b)) * (m.mod ^ (propW m (w)).length))))) Gd.none Xi_tC34 rfl (c_rAdd ((numS (a))) (((numS (b)) * (m.mod ^ (propW m (w)).length))) (by first | omega | assumption | (simp only [Int.natAbs_neg]; omega)) (by first | omega | assumption | (simp only [Int.natAbs_neg]; omega))) ?_
      refine o_alloc 8 [(AV.lit (.bool false)), (AV.lit (.slice none 0 0))] Gd.none Xi_tO36 rfl rfl rfl ?_
      refine o_store [(8, (oZ 36 .i64 (((numS (a)) + ((numS (b)) * (m.mod ^ (propW m (w)).length)))))), (7, (oZ 36 .i64 ((iterZ m (propW m (w)).length (numS (a)))))), (6, (oZ 36 .i64 ((m.mod ^ (propW m (w)).length)))), (5, (oZ 36 .i64 ((numS (b))))), (4, (oZ 36 .i64 ((numS (a))))), (3, (AO.var 69 [(AV.lit (.string (a))), (AV.lit (.string (b)))])), (2, (oM 24 m))] Gd.none Xi_tZ36 rfl rfl rfl rfl rfl rfl ?_
      refine aops_end ⟨by kernel_rfl, ?_⟩
      refine hK10 _ ?_
      refine awp_seq fun K11 hK11 => ?_
      refine awp_region rfl ?_
      refine o_call [(nm .i64 (1))] (intR ((1 : Int))) Gd.none Xi_tC38 rfl (c_rOf ((1 : Int)) (by first | decide | omega) (by first | decide | omega)) ?_
      refine o_alloc 9 [(AV.lit (.bool false)), (AV.lit (.slice none 0 0))] Gd.none Xi_tO36 rfl rfl rfl ?_
      refine o_store [(9, (oZ 36 .i64 ((1 : Int)))), (8, (oZ 36 .i64 (((numS (a)) + ((numS (b)) * (m.mod ^ (propW m (w)).length)))))), (7, (oZ 36 .i64 ((iterZ m (propW m (w)).length (numS (a)))))), (6, (oZ 36 .i64 ((m.mod ^ (propW m (w)).length)))), (5, (oZ 36 .i64 ((numS (b))))), (4, (oZ 36 .i64 ((numS (a))))), (3, (AO.var 69 [(AV.lit (.string (a))), (AV.lit (.string (b)))])), (2, (oM 24 m))] Gd.none Xi_tZ36 rfl rfl rfl rfl rfl rfl ?_
      refine aops_end ?_
      refine hK11 _ ?_
      refine awp_seq fun K12 hK12 => ?_
      refine awp_seq fun K13 hK13 => ?_
      refine awp_region rfl ?_
      refine o_assign (nm .i64 (0)) Gd.none rfl ?_
      refine aops_end ?_
      refine hK13 _ ?_
      refine awp_block ?_
      refine awp_loopR (fun κ σ => ∃ (i : Nat), ∃ (F : Int), (i ≤ (propW m (w)).length) ∧ (F = prodZ m (numS (a)) i) ∧ ((digs F.natAbs).length ≤ i + 1) ∧ ((propW m (w)).length - i) = κ ∧ σ = ⟨[(3, (AV.ref 2 (0))), (4, (AV.ref 3 (0))), (7, (AV.sl 1 (is .i64 (propW m (w))))), (8, (nm .i64 ((propW m (w)).length))), (9, (AV.ref 4 (0))), (10, (AV.ref 5 (0))), (11, (AV.ref 6 (0))), (12, (AV.ref 7 (0))), (13, (AV.sl 1 (is .i64 (wordZ m (numS (a)) (propW m (w)).length)))), (14, (AV.ref 8 (0))), (15, (AV.ref 9 (0))), (16, (nm .i64 (i)))], [(2, (oM 24 m)), (4, (oZ 36 .i64 ((numS (a))))), (5, (oZ 36 .i64 ((numS (b))))), (6, (oZ 36 .i64 ((m.mod ^ (propW m (w)).length)))), (7, (oZ 36 .i64 ((iterZ m (propW m (w)).length (numS (a)))))), (8, (oZ 36 .i64 (((numS (a)) + ((numS (b)) * (m.mod ^ (propW m (w)).length)))))), (9, (oZ 36 .i64 (F)))]⟩) ⟨_, _, ⟨0, 1, (by omega), rfl, (by have := small_len (z := 1) (by decide); omega), rfl, rfl⟩, ?wk0⟩ ?rd0
      case wk0 =>
        exact Wk.sub (And.intro rfl (And.intro rfl (And.intro rfl (And.intro rfl (And.intro rfl (And.intro rfl (And.intro rfl (And.intro rfl (And.intro rfl (And.intro rfl (And.intro rfl (And.intro (by first | rfl | exact congrArg (nm _) (by omega) | exact nm_int (by omega) | exact nm_int (by simp [IntKind.wrap, IntKind.bits, IntKind.signed]; omega)) (trivial))))))))))))) (And.intro rfl (And.intro rfl (And.intro rfl (And.intro rfl (And.intro rfl (And.intro rfl (And.intro rfl (trivial))))))))
      rintro κ _ ⟨i, F, hi, hF, hFl, rfl, rfl⟩
      refine awp_seq fun K14 hK14 => ?_
      refine awp_seq fun K15 hK15 => ?_
      refine awp_region rfl ?_
      refine o_move (nm .i64 (i)) Gd.none rfl ?_
      refine o_move (nm .i64 ((propW m (w)).length)) Gd.none rfl ?_
      refine n_lss (i) ((propW m (w)).length) Gd.none rfl rfl ?_
      refine aops_end ?_
      refine hK15 _ ?_
      refine awp_condQ (q := (i) < ((propW m (w)).length)) rfl (fun h3 => ?_) (fun h3 => ?_)
      · have hr0 := Int.emod_nonneg (iterZ m i (numS (a))) (show m.mod ≠ 0 by omega)
        have hr1 := Int.emod_lt_of_pos (iterZ m i (numS (a))) (show 0 < m.mod by omega)
        have hoi := o5 ((iterZ m i (numS (a)) % m.mod).toNat) (by omega)
        have hq := small_len (z := (m.mul).getD ((iterZ m i (numS (a)) % m.mod).toNat) 0) (by omega)
        have hFq := len_mulZ F ((m.mul).getD ((iterZ m i (numS (a)) % m.mod).toNat) 0)
        refine awp_skip ?_
        refine hK14 _ ?_
        refine awp_seq fun K16 hK16 => ?_
        refine awp_block ?_
        refine awp_regionD rfl ?_
        refine o_loadA [(bp (F < 0)), (AV.sl 1 (ns .i64 (digs (F).natAbs)))] Gd.none Xi_tA36 rfl rfl rfl rfl rfl ?_
        refine o_fieldRef 1 Gd.none Xi_tF24_1 rfl rfl ?_
        refine o_loadS (AV.sl 1 (is .i64 (m.mul))) Gd.none Xi_tS22 rfl rfl rfl ?_
        refine o_move (AV.sl 1 (is .i64 (wordZ m (numS (a)) (propW m (w)).length))) Gd.none rfl ?_
        refine o_move (nm .i64 (i)) Gd.none rfl ?_
        refine i_index (wordZ m (numS (a)) (propW m (w)).length) (i) Gd.none Xi_tE22 rfl rfl (by rw [wordZ_len]; omega) ?_
        refine i_loadI (wordZ m (numS (a)) (propW m (w)).length) (i) Gd.none Xi_tS3 rfl (by rw [wordZ_len]; omega) ?_
        refine n_as (v' := (nm .i64 ((iterZ m i (numS (a)) % m.mod).toNat))) (nm_int (by rw [wordZ_get m _ _ i (by omega)]; omega)) ?_
        refine i_index (m.mul) ((iterZ m i (numS (a)) % m.mod).toNat) Gd.none Xi_tE22 rfl rfl (by omega) ?_
        refine i_loadI (m.mul) ((iterZ m i (numS (a)) % m.mod).toNat) Gd.none Xi_tS3 rfl (by omega) ?_
        refine o_call [(AV.lit (.int .i64 ((m.mul).getD ((iterZ m i (numS (a)) % m.mod).toNat) 0)))] (intR ((m.mul).getD ((iterZ m i (numS (a)) % m.mod).toNat) 0)) Gd.none Xi_tC38 rfl (c_rOf ((m.mul).getD ((iterZ m i (numS (a)) % m.mod).toNat) 0) (by first | decide | omega) (by first | decide | omega)) ?_
        refine o_call [(intR (F)), (intR ((m.mul).getD ((iterZ m i (numS (a)) % m.mod).toNat) 0))] (intR ((F * (m.mul).getD ((iterZ m i (numS (a)) % m.mod).toNat) 0))) Gd.none Xi_tC37 rfl (c_rMul (F) ((m.mul).getD ((iterZ m i (numS (a)) % m.mod).toNat) 0) (by first | omega | assumption | (simp only [Int.natAbs_neg]; omega)) (by first | omega | assumption | (simp only [Int.natAbs_neg]; omega))) ?_
        refine o_store [(2, (oM 24 m)), (4, (oZ 36 .i64 ((numS (a))))), (5, (oZ 36 .i64 ((numS (b))))), (6, (oZ 36 .i64 ((m.mod ^ (propW m (w)).length)))), (7, (oZ 36 .i64 ((iterZ m (propW m (w)).length (numS (a)))))), (8, (oZ 36 .i64 (((numS (a)) + ((numS (b)) * (m.mod ^ (propW m (w)).length)))))), (9, (oZ 36 .i64 ((F * (m.mul).getD ((iterZ m i (numS (a)) % m.mod).toNat) 0))))] Gd.none Xi_tZ36 rfl rfl rfl rfl rfl rfl ?_
        refine aops_end ⟨by kernel_rfl, ?_⟩
        refine hK16 _ ?_
        refine awp_region rfl ?_
        refine o_move (nm .i64 (i)) Gd.none rfl ?_
        refine n_add (i) (1) Gd.none rfl rfl (by simp only [topOf]; omega) ?_
        refine o_assign (nm .i64 ((i) + (1))) Gd.none rfl ?_
        refine aops_end ?_
        refine ⟨_, _, ?lt, ⟨i + 1, (F * (m.mul).getD ((iterZ m i (numS (a)) % m.mod).toNat) 0), (by omega), (by rw [hF]; rfl), (by omega), rfl, rfl⟩, ?wk⟩
        case lt => omega
        case wk => exact Wk.sub (And.intro rfl (And.intro rfl (And.intro rfl (And.intro rfl (And.intro rfl (And.intro rfl (And.intro rfl (And.intro rfl (And.intro rfl (And.intro rfl (And.intro rfl (And.intro (by first | rfl | exact congrArg (nm _) (by omega) | exact nm_int (by omega) | exact nm_int (by simp [IntKind.wrap, IntKind.bits, IntKind.signed]; omega)) (trivial))))))))))))) (And.intro rfl (And.intro rfl (And.intro rfl (And.intro rfl (And.intro rfl (And.intro rfl (And.intro rfl (trivial))))))))
      · have hFk : F = prodZ m (numS (a)) (propW m (w)).length := by rw [hF, show i = (propW m (w)).length by omega]
        have ye : iterZ m (propW m (w)).length ((numS (a)) + ((numS (b)) * (m.mod ^ (propW m (w)).length))) = ((iterZ m (propW m (w)).length (numS (a))) + ((numS (b)) * F)) := by have := alike_end hM (numS (a)) (numS (b)) (propW m (w)).length; rw [hFk]; omega
        have on := okS_iff.2 (okS_txt hn)
        have sn := txt_sz hn
        have oy := okS_iff.2 (okS_txt t2)
        have sy := txt_sz t2
        have hx : (digs (iterZ m (propW m (w)).length (numS (a))).natAbs).length ≤ 2000 := by have := len_subZ (iterZ m (propW m (w)).length ((numS (a)) + ((numS (b)) * (m.mod ^ (propW m (w)).length)))) ((numS (b)) * F); rw [ye] at this; have h2 := len_mulZ (numS (b)) F; have h3 := fit_len t4; rw [ye] at h3; rw [show (iterZ m (propW m (w)).length (numS (a))) = ((iterZ m (propW m (w)).length (numS (a))) + ((numS (b)) * F)) - (numS (b)) * F by omega]; omega
        have wa := wordE_0 (m := m) (a := txt (numS (a))) (K := (((propW m (w)).length : Nat) : Int)) ⟨hm', on⟩ (by omega) (by rw [numS_txt, Int.toNat_natCast]; exact t1)
        rw [numS_txt, Int.toNat_natCast] at wa
        have wb := wordE_0 (m := m) (a := txt ((numS (a)) + ((numS (b)) * (m.mod ^ (propW m (w)).length)))) (K := (((propW m (w)).length : Nat) : Int)) ⟨hm', oy⟩ (by omega) (by rw [numS_txt, Int.toNat_natCast]; exact t3)
        rw [numS_txt, Int.toNat_natCast, word_alike hM] at wb
        have wb1 := wb.1
        have wb2 := wb.2
        have ru : runS m (txt ((numS (a)) + ((numS (b)) * (m.mod ^ (propW m (w)).length)))) (((propW m (w)).length : Nat) : Int) = txt ((iterZ m (propW m (w)).length (numS (a))) + ((numS (b)) * F)) ∧ runE m (txt ((numS (a)) + ((numS (b)) * (m.mod ^ (propW m (w)).length)))) (((propW m (w)).length : Nat) : Int) = 0 := by rw [runS_e ⟨hm', oy⟩ (by omega), runE_e ⟨hm', oy⟩ (by omega), numS_txt, Int.toNat_natCast, fitK_run t3, toldS_yes t4, toldE_yes t4, ye]; exact ⟨rfl, rfl⟩
        have hWz := wordZ_ok hM (numS (a)) (k := (propW m (w)).length) (by omega)
        have e0 := line_0 hm' hWz
        obtain ⟨f1, f2, f3⟩ := line_fit hM hWz
        have s1 : (lineT (lineZ m (wordZ m (numS (a)) (propW m (w)).length))).mul.size ≤ _ := txt_sz f1
        have s2 : (lineT (lineZ m (wordZ m (numS (a)) (propW m (w)).length))).add.size ≤ _ := txt_sz f2
        have s3 : (lineT (lineZ m (wordZ m (numS (a)) (propW m (w)).length))).div.size ≤ _ := txt_sz f3
        have ap : appE (lineT (lineZ m (wordZ m (numS (a)) (propW m (w)).length))) (txt ((numS (a)) + ((numS (b)) * (m.mod ^ (propW m (w)).length)))) = 0 ∧ AppB (lineT (lineZ m (wordZ m (numS (a)) (propW m (w)).length))) (txt ((numS (a)) + ((numS (b)) * (m.mod ^ (propW m (w)).length)))) ∧ appS (lineT (lineZ m (wordZ m (numS (a)) (propW m (w)).length))) (txt ((numS (a)) + ((numS (b)) * (m.mod ^ (propW m (w)).length)))) = txt ((iterZ m (propW m (w)).length (numS (a))) + ((numS (b)) * F)) := by rcases app_word (a := txt ((numS (a)) + ((numS (b)) * (m.mod ^ (propW m (w)).length)))) hM oy (k := (propW m (w)).length) (by omega) (lineT (lineZ m (wordZ m (numS (a)) (propW m (w)).length))) (by rw [numS_txt, word_alike hM]) with h | h; exact ⟨h.2.1, h.2.2.1, h.2.2.2.1.trans (by rw [numS_txt, ye])⟩; exact absurd t5 h.1
        clear t1 t2 t3 t4 t5 wb
        have l6 := len_mulZ (numS (b)) F
        have l7 := len_addZ (iterZ m (propW m (w)).length (numS (a))) ((numS (b)) * F)
        refine awp_exit ?_
        refine hK12 _ ?_
        refine awp_seq fun K17 hK17 => ?_
        refine awp_regionD rfl ?_
        refine o_loadA [(AV.lit (.int .i64 (m.mod))), (AV.sl 1 (is .i64 (m.mul))), (AV.sl 1 (is .i64 (m.add)))] Gd.none Xi_tA24 rfl rfl rfl rfl rfl ?_
        refine o_loadA [(bp ((numS (a)) < 0)), (AV.sl 1 (ns .i64 (digs ((numS (a))).natAbs)))] Gd.none Xi_tA36 rfl rfl rfl rfl rfl ?_
        refine o_call [(intR ((numS (a))))] (AV.lit (.string (txt ((numS (a)))))) Gd.none Xi_tC27 rfl (c_rText ((numS (a))) (by first | omega | assumption | (simp only [Int.natAbs_neg]; omega))) ?_
        refine o_move (nm .i64 ((propW m (w)).length)) Gd.none rfl ?_
        refine o_call [(mapV m), (AV.lit (.string (txt ((numS (a)))))), (nm .i64 ((propW m (w)).length))] (AV.tup [(AV.sl 1 (is .i64 (wordL m (txt ((numS (a)))) ((((propW m (w)).length : Nat) : Int))))), (nm .i64 (wordE m (txt ((numS (a)))) ((((propW m (w)).length : Nat) : Int))))]) Gd.none Xi_tC12 rfl (c_oWord m (txt ((numS (a)))) ((((propW m (w)).length : Nat) : Int)) (by first | assumption | decide | omega)) ?_
        refine o_move (AV.tup [(AV.sl 1 (is .i64 (wordL m (txt ((numS (a)))) ((((propW m (w)).length : Nat) : Int))))), (nm .i64 (wordE m (txt ((numS (a)))) ((((propW m (w)).length : Nat) : Int))))]) Gd.none rfl ?_
        refine o_extract (AV.sl 1 (is .i64 (wordL m (txt ((numS (a)))) ((((propW m (w)).length : Nat) : Int))))) Gd.none rfl rfl ?_
        refine n_as (v' := (AV.sl 1 (is .i64 (wordZ m (numS (a)) (propW m (w)).length)))) (by exact is_as wa.2) ?_
        refine o_extract (nm .i64 (wordE m (txt ((numS (a)))) ((((propW m (w)).length : Nat) : Int)))) Gd.none rfl rfl ?_
        refine n_as (v' := (nm .i64 (0))) (by exact congrArg (nm _) wa.1) ?_
        refine o_assign (AV.sl 1 (is .i64 (wordZ m (numS (a)) (propW m (w)).length))) Gd.none rfl ?_
        refine o_assign (nm .i64 (0)) Gd.none rfl ?_
        refine aops_end ⟨by kernel_rfl, ?_⟩
        refine hK17 _ ?_
        refine awp_seq fun K18 hK18 => ?_
        refine awp_regionD rfl ?_
        refine o_loadA [(AV.lit (.int .i64 (m.mod))), (AV.sl 1 (is .i64 (m.mul))), (AV.sl 1 (is .i64 (m.add)))] Gd.none Xi_tA24 rfl rfl rfl rfl rfl ?_
        refine o_loadA [(bp (((numS (a)) + ((numS (b)) * (m.mod ^ (propW m (w)).length))) < 0)), (AV.sl 1 (ns .i64 (digs (((numS (a)) + ((numS (b)) * (m.mod ^ (propW m (w)).length)))).natAbs)))] Gd.none Xi_tA36 rfl rfl rfl rfl rfl ?_
        refine o_call [(intR (((numS (a)) + ((numS (b)) * (m.mod ^ (propW m (w)).length)))))] (AV.lit (.string (txt (((numS (a)) + ((numS (b)) * (m.mod ^ (propW m (w)).length))))))) Gd.none Xi_tC27 rfl (c_rText (((numS (a)) + ((numS (b)) * (m.mod ^ (propW m (w)).length)))) (by first | omega | assumption | (simp only [Int.natAbs_neg]; omega))) ?_
        refine o_move (nm .i64 ((propW m (w)).length)) Gd.none rfl ?_
        refine o_call [(mapV m), (AV.lit (.string (txt (((numS (a)) + ((numS (b)) * (m.mod ^ (propW m (w)).length))))))), (nm .i64 ((propW m (w)).length))] (AV.tup [(AV.sl 1 (is .i64 (wordL m (txt (((numS (a)) + ((numS (b)) * (m.mod ^ (propW m (w)).length))))) ((((propW m (w)).length : Nat) : Int))))), (nm .i64 (wordE m (txt (((numS (a)) + ((numS (b)) * (m.mod ^ (propW m (w)).length))))) ((((propW m (w)).length : Nat) : Int))))]) Gd.none Xi_tC12 rfl (c_oWord m (txt (((numS (a)) + ((numS (b)) * (m.mod ^ (propW m (w)).length))))) ((((propW m (w)).length : Nat) : Int)) (by first | assumption | decide | omega)) ?_
        refine o_move (AV.tup [(AV.sl 1 (is .i64 (wordL m (txt (((numS (a)) + ((numS (b)) * (m.mod ^ (propW m (w)).length))))) ((((propW m (w)).length : Nat) : Int))))), (nm .i64 (wordE m (txt (((numS (a)) + ((numS (b)) * (m.mod ^ (propW m (w)).length))))) ((((propW m (w)).length : Nat) : Int))))]) Gd.none rfl ?_
        refine o_extract (AV.sl 1 (is .i64 (wordL m (txt (((numS (a)) + ((numS (b)) * (m.mod ^ (propW m (w)).length))))) ((((propW m (w)).length : Nat) : Int))))) Gd.none rfl rfl ?_
        refine n_as (v' := (AV.sl 1 (is .i64 (wordZ m (numS (a)) (propW m (w)).length)))) (by exact is_as wb2) ?_
        refine o_extract (nm .i64 (wordE m (txt (((numS (a)) + ((numS (b)) * (m.mod ^ (propW m (w)).length))))) ((((propW m (w)).length : Nat) : Int)))) Gd.none rfl rfl ?_
        refine n_as (v' := (nm .i64 (0))) (by exact congrArg (nm _) wb1) ?_
        refine o_assign (AV.sl 1 (is .i64 (wordZ m (numS (a)) (propW m (w)).length))) Gd.none rfl ?_
        refine o_assign (nm .i64 (0)) Gd.none rfl ?_
        refine aops_end ⟨by kernel_rfl, ?_⟩
        refine hK18 _ ?_
        refine awp_seq fun K19 hK19 => ?_
        refine awp_regionD rfl ?_
        refine o_loadA [(AV.lit (.int .i64 (m.mod))), (AV.sl 1 (is .i64 (m.mul))), (AV.sl 1 (is .i64 (m.add)))] Gd.none Xi_tA24 rfl rfl rfl rfl rfl ?_
        refine o_loadA [(bp (((numS (a)) + ((numS (b)) * (m.mod ^ (propW m (w)).length))) < 0)), (AV.sl 1 (ns .i64 (digs (((numS (a)) + ((numS (b)) * (m.mod ^ (propW m (w)).length)))).natAbs)))] Gd.none Xi_tA36 rfl rfl rfl rfl rfl ?_
        refine o_call [(intR (((numS (a)) + ((numS (b)) * (m.mod ^ (propW m (w)).length)))))] (AV.lit (.string (txt (((numS (a)) + ((numS (b)) * (m.mod ^ (propW m (w)).length))))))) Gd.none Xi_tC27 rfl (c_rText (((numS (a)) + ((numS (b)) * (m.mod ^ (propW m (w)).length)))) (by first | omega | assumption | (simp only [Int.natAbs_neg]; omega))) ?_
        refine o_move (nm .i64 ((propW m (w)).length)) Gd.none rfl ?_
        refine o_call [(mapV m), (AV.lit (.string (txt (((numS (a)) + ((numS (b)) * (m.mod ^ (propW m (w)).length))))))), (nm .i64 ((propW m (w)).length))] (AV.tup [(AV.lit (.string (runS m (txt (((numS (a)) + ((numS (b)) * (m.mod ^ (propW m (w)).length))))) ((((propW m (w)).length : Nat) : Int))))), (nm .i64 (runE m (txt (((numS (a)) + ((numS (b)) * (m.mod ^ (propW m (w)).length))))) ((((propW m (w)).length : Nat) : Int))))]) Gd.none Xi_tC39 rfl (c_sRun m (txt (((numS (a)) + ((numS (b)) * (m.mod ^ (propW m (w)).length))))) ((((propW m (w)).length : Nat) : Int)) (by first | assumption | decide | omega)) ?_
        refine o_move (AV.tup [(AV.lit (.string (runS m (txt (((numS (a)) + ((numS (b)) * (m.mod ^ (propW m (w)).length))))) ((((propW m (w)).length : Nat) : Int))))), (nm .i64 (runE m (txt (((numS (a)) + ((numS (b)) * (m.mod ^ (propW m (w)).length))))) ((((propW m (w)).length : Nat) : Int))))]) Gd.none rfl ?_
        refine o_extract (AV.lit (.string (runS m (txt (((numS (a)) + ((numS (b)) * (m.mod ^ (propW m (w)).length))))) ((((propW m (w)).length : Nat) : Int))))) Gd.none rfl rfl ?_
        refine n_as (v' := (AV.lit (.string (txt (((iterZ m (propW m (w)).length (numS (a))) + ((numS (b)) * F))))))) (by exact str_as ru.1) ?_
        refine o_extract (nm .i64 (runE m (txt (((numS (a)) + ((numS (b)) * (m.mod ^ (propW m (w)).length))))) ((((propW m (w)).length : Nat) : Int)))) Gd.none rfl rfl ?_
        refine n_as (v' := (nm .i64 (0))) (by exact congrArg (nm _) ru.2) ?_
        refine o_assign (AV.lit (.string (txt (((iterZ m (propW m (w)).length (numS (a))) + ((numS (b)) * F)))))) Gd.none rfl ?_
        refine o_assign (nm .i64 (0)) Gd.none rfl ?_
        refine aops_end ⟨by kernel_rfl, ?_⟩
        refine hK19 _ ?_
        refine awp_seq fun K20 hK20 => ?_
        refine awp_region rfl ?_
        refine o_loadA [(AV.lit (.int .i64 (m.mod))), (AV.sl 1 (is .i64 (m.mul))), (AV.sl 1 (is .i64 (m.add)))] Gd.none Xi_tA24 rfl rfl rfl rfl rfl ?_
        refine o_move (AV.sl 1 (is .i64 (wordZ m (numS (a)) (propW m (w)).length))) Gd.none rfl ?_
        refine o_call [(mapV m), (AV.sl 1 (is .i64 (wordZ m (numS (a)) (propW m (w)).length)))] (AV.tup [(AV.agg [(AV.lit (.string ((lineS m (wordZ m (numS (a)) (propW m (w)).length)).mul))), (AV.lit (.string ((lineS m (wordZ m (numS (a)) (propW m (w)).length)).add))), (AV.lit (.string ((lineS m (wordZ m (numS (a)) (propW m (w)).length)).div)))]), (nm .i64 (lineE m (wordZ m (numS (a)) (propW m (w)).length)))]) Gd.none Xi_tC20 rfl (c_oLine m (wordZ m (numS (a)) (propW m (w)).length) (by rw [wordZ_len]; omega)) ?_
        refine o_move (AV.tup [(AV.agg [(AV.lit (.string ((lineS m (wordZ m (numS (a)) (propW m (w)).length)).mul))), (AV.lit (.string ((lineS m (wordZ m (numS (a)) (propW m (w)).length)).add))), (AV.lit (.string ((lineS m (wordZ m (numS (a)) (propW m (w)).length)).div)))]), (nm .i64 (lineE m (wordZ m (numS (a)) (propW m (w)).length)))]) Gd.none rfl ?_
        refine o_extract (AV.agg [(AV.lit (.string ((lineS m (wordZ m (numS (a)) (propW m (w)).length)).mul))), (AV.lit (.string ((lineS m (wordZ m (numS (a)) (propW m (w)).length)).add))), (AV.lit (.string ((lineS m (wordZ m (numS (a)) (propW m (w)).length)).div)))]) Gd.none rfl rfl ?_
        refine n_as (v' := (AV.agg [(AV.lit (.string ((lineT (lineZ m (wordZ m (numS (a)) (propW m (w)).length))).mul))), (AV.lit (.string ((lineT (lineZ m (wordZ m (numS (a)) (propW m (w)).length))).add))), (AV.lit (.string ((lineT (lineZ m (wordZ m (numS (a)) (propW m (w)).length))).div)))])) (by rw [e0.2]) ?_
        refine o_extract (nm .i64 (lineE m (wordZ m (numS (a)) (propW m (w)).length))) Gd.none rfl rfl ?_
        refine n_as (v' := (nm .i64 (0))) (by rw [e0.1]) ?_
        refine o_alloc 101 [(AV.lit (.string (({data := #[]} : ByteArray)))), (AV.lit (.string (({data := #[]} : ByteArray)))), (AV.lit (.string (({data := #[]} : ByteArray))))] Gd.none Xi_tO41 rfl rfl rfl ?_
        refine o_store [(101, (AO.var 41 [(AV.lit (.string ((lineT (lineZ m (wordZ m (numS (a)) (propW m (w)).length))).mul))), (AV.lit (.string ((lineT (lineZ m (wordZ m (numS (a)) (propW m (w)).length))).add))), (AV.lit (.string ((lineT (lineZ m (wordZ m (numS (a)) (propW m (w)).length))).div)))])), (2, (oM 24 m)), (4, (oZ 36 .i64 ((numS (a))))), (5, (oZ 36 .i64 ((numS (b))))), (6, (oZ 36 .i64 ((m.mod ^ (propW m (w)).length)))), (7, (oZ 36 .i64 ((iterZ m (propW m (w)).length (numS (a)))))), (8, (oZ 36 .i64 (((numS (a)) + ((numS (b)) * (m.mod ^ (propW m (w)).length)))))), (9, (oZ 36 .i64 (F)))] Gd.none Xi_tZ41 rfl rfl rfl rfl rfl rfl ?_
        refine o_assign (nm .i64 (0)) Gd.none rfl ?_
        refine aops_end ?_
        refine hK20 _ ?_
        refine awp_seq fun K21 hK21 => ?_
        refine awp_seq fun K22 hK22 => ?_
        refine awp_regionD rfl ?_
        refine o_move (nm .i64 (0)) Gd.none rfl ?_
        refine n_neq (0) (0) Gd.none rfl rfl ?_
        refine o_move (bp ((0) ≠ (0))) Gd.none rfl ?_
        refine o_move (nm .i64 (0)) (Gd.yes rfl rfl (decide_eq_false (by decide))) rfl ?_
        refine n_neq (0) (0) (Gd.yes rfl rfl (decide_eq_false (by decide))) rfl rfl ?_
        refine o_pickF (b := decide ((0) ≠ (0))) (bp ((0) ≠ (0))) Gd.none rfl (decide_eq_false (by decide)) rfl ?_
        refine o_move (bp ((0) ≠ (0))) Gd.none rfl ?_
        refine o_move (nm .i64 (0)) (Gd.yes rfl rfl (decide_eq_false (by decide))) rfl ?_
        refine n_neq (0) (0) (Gd.yes rfl rfl (decide_eq_false (by decide))) rfl rfl ?_
        refine o_pickF (b := decide ((0) ≠ (0))) (bp ((0) ≠ (0))) Gd.none rfl (decide_eq_false (by decide)) rfl ?_
        refine o_move (bp ((0) ≠ (0))) Gd.none rfl ?_
        refine o_move (nm .i64 (0)) (Gd.yes rfl rfl (decide_eq_false (by decide))) rfl ?_
        refine n_neq (0) (0) (Gd.yes rfl rfl (decide_eq_false (by decide))) rfl rfl ?_
        refine o_pickF (b := decide ((0) ≠ (0))) (bp ((0) ≠ (0))) Gd.none rfl (decide_eq_false (by decide)) rfl ?_
        refine o_move (bp ((0) ≠ (0))) Gd.none rfl ?_
        refine o_move (AV.sl 1 (is .i64 (wordZ m (numS (a)) (propW m (w)).length))) (Gd.yes rfl rfl (decide_eq_false (by decide))) rfl ?_
        refine o_move (AV.sl 1 (is .i64 (wordZ m (numS (a)) (propW m (w)).length))) (Gd.yes rfl rfl (decide_eq_false (by decide))) rfl ?_
        refine o_call [(AV.sl 1 (is .i64 (wordZ m (numS (a)) (propW m (w)).length))), (AV.sl 1 (is .i64 (wordZ m (numS (a)) (propW m (w)).length)))] (bp (wordZ m (numS (a)) (propW m (w)).length = wordZ m (numS (a)) (propW m (w)).length)) (Gd.yes rfl rfl (decide_eq_false (by decide))) Xi_tC45 rfl (c_tSameInts (wordZ m (numS (a)) (propW m (w)).length) (wordZ m (numS (a)) (propW m (w)).length) (by first | (rw [wordZ_len]; omega) | omega)) ?_
        refine o_notP (q := wordZ m (numS (a)) (propW m (w)).length = wordZ m (numS (a)) (propW m (w)).length) (Gd.yes rfl rfl (decide_eq_false (by decide))) rfl ?_
        refine o_pickF (b := decide ((0) ≠ (0))) (bp (¬ (wordZ m (numS (a)) (propW m (w)).length = wordZ m (numS (a)) (propW m (w)).length))) Gd.none rfl (decide_eq_false (by decide)) rfl ?_
        refine o_move (bp (¬ (wordZ m (numS (a)) (propW m (w)).length = wordZ m (numS (a)) (propW m (w)).length))) Gd.none rfl ?_
        refine o_move (AV.sl 1 (is .i64 (wordZ m (numS (a)) (propW m (w)).length))) (Gd.yes rfl rfl (decide_eq_false (fun h => h rfl))) rfl ?_
        refine o_move (AV.sl 1 (is .i64 (wordZ m (numS (a)) (propW m (w)).length))) (Gd.yes rfl rfl (decide_eq_false (fun h => h rfl))) rfl ?_
        refine o_call [(AV.sl 1 (is .i64 (wordZ m (numS (a)) (propW m (w)).length))), (AV.sl 1 (is .i64 (wordZ m (numS (a)) (propW m (w)).length)))] (bp (wordZ m (numS (a)) (propW m (w)).length = wordZ m (numS (a)) (propW m (w)).length)) (Gd.yes rfl rfl (decide_eq_false (fun h => h rfl))) Xi_tC45 rfl (c_tSameInts (wordZ m (numS (a)) (propW m (w)).length) (wordZ m (numS (a)) (propW m (w)).length) (by first | (rw [wordZ_len]; omega) | omega)) ?_
        refine o_notP (q := wordZ m (numS (a)) (propW m (w)).length = wordZ m (numS (a)) (propW m (w)).length) (Gd.yes rfl rfl (decide_eq_false (fun h => h rfl))) rfl ?_
        refine o_pickF (b := decide (¬ (wordZ m (numS (a)) (propW m (w)).length = wordZ m (numS (a)) (propW m (w)).length))) (bp (¬ (wordZ m (numS (a)) (propW m (w)).length = wordZ m (numS (a)) (propW m (w)).length))) Gd.none rfl (decide_eq_false (fun h => h rfl)) rfl ?_
        refine o_move (bp (¬ (wordZ m (numS (a)) (propW m (w)).length = wordZ m (numS (a)) (propW m (w)).length))) Gd.none rfl ?_
        refine o_move (AV.lit (.string (txt (((iterZ m (propW m (w)).length (numS (a))) + ((numS (b)) * F)))))) (Gd.yes rfl rfl (decide_eq_false (fun h => h rfl))) rfl ?_
        refine o_loadA [(bp ((iterZ m (propW m (w)).length (numS (a))) < 0)), (AV.sl 1 (ns .i64 (digs ((iterZ m (propW m (w)).length (numS (a)))).natAbs)))] (Gd.yes rfl rfl (decide_eq_false (fun h => h rfl))) Xi_tA36 rfl rfl rfl rfl rfl ?_
        refine o_loadA [(bp ((numS (b)) < 0)), (AV.sl 1 (ns .i64 (digs ((numS (b))).natAbs)))] (Gd.yes rfl rfl (decide_eq_false (fun h => h rfl))) Xi_tA36 rfl rfl rfl rfl rfl ?_
        refine o_loadA [(bp (F < 0)), (AV.sl 1 (ns .i64 (digs (F).natAbs)))] (Gd.yes rfl rfl (decide_eq_false (fun h => h rfl))) Xi_tA36 rfl rfl rfl rfl rfl ?_
        refine o_call [(intR ((numS (b)))), (intR (F))] (intR (((numS (b)) * F))) (Gd.yes rfl rfl (decide_eq_false (fun h => h rfl))) Xi_tC37 rfl (c_rMul ((numS (b))) (F) (by first | omega | assumption | (simp only [Int.natAbs_neg]; omega)) (by first | omega | assumption | (simp only [Int.natAbs_neg]; omega))) ?_
        refine o_call [(intR ((iterZ m (propW m (w)).length (numS (a))))), (intR (((numS (b)) * F)))] (intR (((iterZ m (propW m (w)).length (numS (a))) + ((numS (b)) * F)))) (Gd.yes rfl rfl (decide_eq_false (fun h => h rfl))) Xi_tC34 rfl (c_rAdd ((iterZ m (propW m (w)).length (numS (a)))) (((numS (b)) * F)) (by first | omega | assumption | (simp only [Int.natAbs_neg]; omega)) (by first | omega | assumption | (simp only [Int.natAbs_neg]; omega))) ?_
        refine o_call [(intR (((iterZ m (propW m (w)).length (numS (a))) + ((numS (b)) * F))))] (AV.lit (.string (txt (((iterZ m (propW m (w)).length (numS (a))) + ((numS (b)) * F)))))) (Gd.yes rfl rfl (decide_eq_false (fun h => h rfl))) Xi_tC27 rfl (c_rText (((iterZ m (propW m (w)).length (numS (a))) + ((numS (b)) * F))) (by first | omega | assumption | (simp only [Int.natAbs_neg]; omega))) ?_
        refine o_neqS (a := (txt (((iterZ m (propW m (w)).length (numS (a))) + ((numS (b)) * F))))) (c := (txt (((iterZ m (propW m (w)).length (numS (a))) + ((numS (b)) * F))))) (Gd.yes rfl rfl (decide_eq_false (fun h => h rfl))) rfl rfl ?_
        refine o_pickF (b := decide (¬ (wordZ m (numS (a)) (propW m (w)).length = wordZ m (numS (a)) (propW m (w)).length))) (bp ((txt (((iterZ m (propW m (w)).length (numS (a))) + ((numS (b)) * F)))).toList ≠ (txt (((iterZ m (propW m (w)).length (numS (a))) + ((numS (b)) * F)))).toList)) Gd.none rfl (decide_eq_false (fun h => h rfl)) rfl ?_
        refine aops_end ⟨by kernel_rfl, ?_⟩
        refine hK22 _ ?_
        refine awp_condB (b := decide ((txt (((iterZ m (propW m (w)).length (numS (a))) + ((numS (b)) * F)))).toList ≠ (txt (((iterZ m (propW m (w)).length (numS (a))) + ((numS (b)) * F)))).toList)) rfl (fun hh => absurd (hh.symm.trans (decide_eq_false (fun h => h rfl))) (by decide)) (fun _ => ?_)
        refine awp_skip ?_
        refine hK21 _ ?_
        refine awp_seq fun K23 hK23 => ?_
        refine awp_regionD rfl ?_
        refine o_loadA [(AV.lit (.string ((lineT (lineZ m (wordZ m (numS (a)) (propW m (w)).length))).mul))), (AV.lit (.string ((lineT (lineZ m (wordZ m (numS (a)) (propW m (w)).length))).add))), (AV.lit (.string ((lineT (lineZ m (wordZ m (numS (a)) (propW m (w)).length))).div)))] Gd.none Xi_tA41 rfl rfl rfl rfl rfl ?_
        refine o_loadA [(bp (((numS (a)) + ((numS (b)) * (m.mod ^ (propW m (w)).length))) < 0)), (AV.sl 1 (ns .i64 (digs (((numS (a)) + ((numS (b)) * (m.mod ^ (propW m (w)).length)))).natAbs)))] Gd.none Xi_tA36 rfl rfl rfl rfl rfl ?_
        refine o_call [(intR (((numS (a)) + ((numS (b)) * (m.mod ^ (propW m (w)).length)))))] (AV.lit (.string (txt (((numS (a)) + ((numS (b)) * (m.mod ^ (propW m (w)).length))))))) Gd.none Xi_tC27 rfl (c_rText (((numS (a)) + ((numS (b)) * (m.mod ^ (propW m (w)).length)))) (by first | omega | assumption | (simp only [Int.natAbs_neg]; omega))) ?_
        refine o_call [(AV.agg [(AV.lit (.string ((lineT (lineZ m (wordZ m (numS (a)) (propW m (w)).length))).mul))), (AV.lit (.string ((lineT (lineZ m (wordZ m (numS (a)) (propW m (w)).length))).add))), (AV.lit (.string ((lineT (lineZ m (wordZ m (numS (a)) (propW m (w)).length))).div)))]), (AV.lit (.string (txt (((numS (a)) + ((numS (b)) * (m.mod ^ (propW m (w)).length)))))))] (AV.tup [(AV.lit (.string (appS (lineT (lineZ m (wordZ m (numS (a)) (propW m (w)).length))) (txt (((numS (a)) + ((numS (b)) * (m.mod ^ (propW m (w)).length)))))))), (bp (AppB (lineT (lineZ m (wordZ m (numS (a)) (propW m (w)).length))) (txt (((numS (a)) + ((numS (b)) * (m.mod ^ (propW m (w)).length))))))), (nm .i64 (appE (lineT (lineZ m (wordZ m (numS (a)) (propW m (w)).length))) (txt (((numS (a)) + ((numS (b)) * (m.mod ^ (propW m (w)).length)))))))]) Gd.none Xi_tC28 rfl (c_oApply (lineT (lineZ m (wordZ m (numS (a)) (propW m (w)).length))) (txt (((numS (a)) + ((numS (b)) * (m.mod ^ (propW m (w)).length))))) (by first | assumption | decide | omega) (by first | assumption | decide | omega) (by first | assumption | decide | omega) (by first | assumption | decide | omega)) ?_
        refine o_move (AV.tup [(AV.lit (.string (appS (lineT (lineZ m (wordZ m (numS (a)) (propW m (w)).length))) (txt (((numS (a)) + ((numS (b)) * (m.mod ^ (propW m (w)).length)))))))), (bp (AppB (lineT (lineZ m (wordZ m (numS (a)) (propW m (w)).length))) (txt (((numS (a)) + ((numS (b)) * (m.mod ^ (propW m (w)).length))))))), (nm .i64 (appE (lineT (lineZ m (wordZ m (numS (a)) (propW m (w)).length))) (txt (((numS (a)) + ((numS (b)) * (m.mod ^ (propW m (w)).length)))))))]) Gd.none rfl ?_
        refine o_extract (AV.lit (.string (appS (lineT (lineZ m (wordZ m (numS (a)) (propW m (w)).length))) (txt (((numS (a)) + ((numS (b)) * (m.mod ^ (propW m (w)).length)))))))) Gd.none rfl rfl ?_
        refine n_as (v' := (AV.lit (.string (txt (((iterZ m (propW m (w)).length (numS (a))) + ((numS (b)) * F))))))) (by exact str_as ap.2.2) ?_
        refine o_extract (bp (AppB (lineT (lineZ m (wordZ m (numS (a)) (propW m (w)).length))) (txt (((numS (a)) + ((numS (b)) * (m.mod ^ (propW m (w)).length))))))) Gd.none rfl rfl ?_
        refine n_as (v' := (AV.lit (.bool true))) (by exact bp_yes ap.2.1) ?_
        refine o_extract (nm .i64 (appE (lineT (lineZ m (wordZ m (numS (a)) (propW m (w)).length))) (txt (((numS (a)) + ((numS (b)) * (m.mod ^ (propW m (w)).length))))))) Gd.none rfl rfl ?_
        refine n_as (v' := (nm .i64 (0))) (by exact congrArg (nm _) ap.1) ?_
        refine o_assign (AV.lit (.string (txt (((iterZ m (propW m (w)).length (numS (a))) + ((numS (b)) * F)))))) Gd.none rfl ?_
        refine o_assign (AV.lit (.bool true)) Gd.none rfl ?_
        refine o_assign (nm .i64 (0)) Gd.none rfl ?_
        refine aops_end ⟨by kernel_rfl, ?_⟩
        refine hK23 _ ?_
        refine awp_seq fun K24 hK24 => ?_
        refine awp_seq fun K25 hK25 => ?_
        refine awp_region rfl ?_
        refine o_move (nm .i64 (0)) Gd.none rfl ?_
        refine n_neq (0) (0) Gd.none rfl rfl ?_
        refine o_move (bp ((0) ≠ (0))) Gd.none rfl ?_
        refine o_move (AV.lit (.bool true)) (Gd.yes rfl rfl (decide_eq_false (by decide))) rfl ?_
        refine o_not (b := true) (Gd.yes rfl rfl (decide_eq_false (by decide))) rfl ?_
        refine o_pickF (b := decide ((0) ≠ (0))) (AV.lit (.bool false)) Gd.none rfl (decide_eq_false (by decide)) rfl ?_
        refine o_move (AV.lit (.bool false)) Gd.none rfl ?_
        refine o_move (AV.lit (.string (txt (((iterZ m (propW m (w)).length (numS (a))) + ((numS (b)) * F)))))) (Gd.yes rfl rfl rfl) rfl ?_
        refine o_move (AV.lit (.string (txt (((iterZ m (propW m (w)).length (numS (a))) + ((numS (b)) * F)))))) (Gd.yes rfl rfl rfl) rfl ?_
        refine o_neqS (a := (txt (((iterZ m (propW m (w)).length (numS (a))) + ((numS (b)) * F))))) (c := (txt (((iterZ m (propW m (w)).length (numS (a))) + ((numS (b)) * F))))) (Gd.yes rfl rfl rfl) rfl rfl ?_
        refine o_pickF (b := false) (bp ((txt (((iterZ m (propW m (w)).length (numS (a))) + ((numS (b)) * F)))).toList ≠ (txt (((iterZ m (propW m (w)).length (numS (a))) + ((numS (b)) * F)))).toList)) Gd.none rfl rfl rfl ?_
        refine aops_end ?_
        refine hK25 _ ?_
        refine awp_condB (b := decide ((txt (((iterZ m (propW m (w)).length (numS (a))) + ((numS (b)) * F)))).toList ≠ (txt (((iterZ m (propW m (w)).length (numS (a))) + ((numS (b)) * F)))).toList)) rfl (fun hh => absurd (hh.symm.trans (decide_eq_false (fun h => h rfl))) (by decide)) (fun _ => ?_)
        refine awp_skip ?_
        refine hK24 _ ?_
        refine awp_seq fun K26 hK26 => ?_
        refine awp_seq fun K27 hK27 => ?_
        refine awp_region rfl ?_
        refine o_loadA [(AV.lit (.int .i64 (m.mod))), (AV.sl 1 (is .i64 (m.mul))), (AV.sl 1 (is .i64 (m.add)))] Gd.none Xi_tA24 rfl rfl rfl rfl rfl ?_
        refine o_call [(mapV m)] (bp (freeM m)) Gd.none Xi_tC25 rfl (c_gRegular m hM) ?_
        refine o_notP (q := freeM m) Gd.none rfl ?_
        refine aops_end ?_
        refine hK27 _ ?_
        refine awp_condQ (q := ¬ (freeM m)) rfl (fun h4 => ?_) (fun h4 => ?_)
        · refine awp_seq fun K28 hK28 => ?_
          refine awp_region rfl ?_
          refine o_call [] (AV.lit (.bool true)) Gd.none Xi_tC41 rfl c_tLeads ?_
          refine o_assign (AV.lit (.bool true)) Gd.none rfl ?_
          refine aops_end ?_
          refine hK28 _ ?_
          refine awp_ret ?_
          refine post_ret ⟨[(AV.lit (.bool true))], And.intro (AV.le_refl _) (trivial), rfl, ?_⟩
          first | rfl | simp [bp]
        · have hF2 : freeM m := Decidable.not_not.1 h4
          have f := rest_0 hm' ⟨hV, hF2⟩
          have g := rest_0 hm' ⟨hWz, hF2⟩
          obtain ⟨u1, u2⟩ := topr hM hF2 (numS (a)) hV
          obtain ⟨r1, r2, r3⟩ := rest_fit hM hF2 hV
          have r4 := fit_len r3
          have qr := okS_iff.2 (okS_txt r3)
          have sr := txt_sz r3
          have l8 := len_mulZ (numS (a)) (m.mod ^ (propW m (w)).length)
          have l9 := len_addZ ((restZ m (propW m (w))).1) ((numS (a)) * (m.mod ^ (propW m (w)).length))
          have w1 := Int.emod_nonneg (numS (a)) (show (m.mod ^ (propW m (w)).length) ≠ 0 by omega)
          have w2 := Int.emod_lt_of_pos (numS (a)) hpos
          have w3 := fit_len (fit_le (x := (numS (a)) % (m.mod ^ (propW m (w)).length)) (y := (m.mod ^ (propW m (w)).length)) (by omega) hmf)
          refine awp_skip ?_
          refine hK26 _ ?_
          refine awp_seq fun K29 hK29 => ?_
          refine awp_region rfl ?_
          refine o_loadA [(AV.lit (.int .i64 (m.mod))), (AV.sl 1 (is .i64 (m.mul))), (AV.sl 1 (is .i64 (m.add)))] Gd.none Xi_tA24 rfl rfl rfl rfl rfl ?_
          refine o_move (AV.sl 1 (is .i64 (propW m (w)))) Gd.none rfl ?_
          refine o_call [(mapV m), (AV.sl 1 (is .i64 (propW m (w))))] (AV.tup [(AV.lit (.string (restS m (propW m (w))))), (AV.lit (.string (restD m (propW m (w))))), (nm .i64 (restE m (propW m (w))))]) Gd.none Xi_tC21 rfl (c_oRest m (propW m (w)) (by omega)) ?_
          refine o_move (AV.tup [(AV.lit (.string (restS m (propW m (w))))), (AV.lit (.string (restD m (propW m (w))))), (nm .i64 (restE m (propW m (w))))]) Gd.none rfl ?_
          refine o_extract (AV.lit (.string (restS m (propW m (w))))) Gd.none rfl rfl ?_
          refine n_as (v' := (AV.lit (.string (txt (((restZ m (propW m (w))).1)))))) (by rw [f.2.1]) ?_
          refine o_extract (AV.lit (.string (restD m (propW m (w))))) Gd.none rfl rfl ?_
          refine n_as (v' := (AV.lit (.string (txt ((m.mod ^ (propW m (w)).length)))))) (by rw [f.2.2]) ?_
          refine o_extract (nm .i64 (restE m (propW m (w)))) Gd.none rfl rfl ?_
          refine n_as (v' := (nm .i64 (0))) (by rw [f.1]) ?_
          refine o_assign (AV.lit (.string (txt (((restZ m (propW m (w))).1))))) Gd.none rfl ?_
          refine o_assign (AV.lit (.string (txt ((m.mod ^ (propW m (w)).length))))) Gd.none rfl ?_
          refine o_assign (nm .i64 (0)) Gd.none rfl ?_
          refine aops_end ?_
          refine hK29 _ ?_
          refine awp_seq fun K30 hK30 => ?_
          refine awp_seq fun K31 hK31 => ?_
          refine awp_regionD rfl ?_
          refine o_move (nm .i64 (0)) Gd.none rfl ?_
          refine n_neq (0) (0) Gd.none rfl rfl ?_
          refine o_move (bp ((0) ≠ (0))) Gd.none rfl ?_
          refine o_move (AV.lit (.string (txt ((m.mod ^ (propW m (w)).length))))) (Gd.yes rfl rfl (decide_eq_false (by decide))) rfl ?_
          refine o_loadA [(bp ((m.mod ^ (propW m (w)).length) < 0)), (AV.sl 1 (ns .i64 (digs ((m.mod ^ (propW m (w)).length)).natAbs)))] (Gd.yes rfl rfl (decide_eq_false (by decide))) Xi_tA36 rfl rfl rfl rfl rfl ?_
          refine o_call [(intR ((m.mod ^ (propW m (w)).length)))] (AV.lit (.string (txt ((m.mod ^ (propW m (w)).length))))) (Gd.yes rfl rfl (decide_eq_false (by decide))) Xi_tC27 rfl (c_rText ((m.mod ^ (propW m (w)).length)) (by first | omega | assumption | (simp only [Int.natAbs_neg]; omega))) ?_
          refine o_neqS (a := (txt ((m.mod ^ (propW m (w)).length)))) (c := (txt ((m.mod ^ (propW m (w)).length)))) (Gd.yes rfl rfl (decide_eq_false (by decide))) rfl rfl ?_
          refine o_pickF (b := decide ((0) ≠ (0))) (bp ((txt ((m.mod ^ (propW m (w)).length))).toList ≠ (txt ((m.mod ^ (propW m (w)).length))).toList)) Gd.none rfl (decide_eq_false (by decide)) rfl ?_
          refine o_move (bp ((txt ((m.mod ^ (propW m (w)).length))).toList ≠ (txt ((m.mod ^ (propW m (w)).length))).toList)) Gd.none rfl ?_
          refine o_move (AV.lit (.string (txt (((restZ m (propW m (w))).1))))) (Gd.yes rfl rfl (decide_eq_false (fun h => h rfl))) rfl ?_
          refine o_call [(AV.lit (.string (txt (((restZ m (propW m (w))).1)))))] (AV.lit (.bool (okS (txt (((restZ m (propW m (w))).1)))))) (Gd.yes rfl rfl (decide_eq_false (fun h => h rfl))) Xi_tC15 rfl (c_rValid (txt (((restZ m (propW m (w))).1))) (by first | assumption | decide | omega)) ?_
          refine n_as (v' := (AV.lit (.bool true))) (by rw [qr]) ?_
          refine o_not (b := true) (Gd.yes rfl rfl (decide_eq_false (fun h => h rfl))) rfl ?_
          refine o_pickF (b := decide ((txt ((m.mod ^ (propW m (w)).length))).toList ≠ (txt ((m.mod ^ (propW m (w)).length))).toList)) (AV.lit (.bool false)) Gd.none rfl (decide_eq_false (fun h => h rfl)) rfl ?_
          refine o_move (AV.lit (.bool false)) Gd.none rfl ?_
          refine o_move (AV.lit (.string (txt (((restZ m (propW m (w))).1))))) (Gd.yes rfl rfl rfl) rfl ?_
          refine o_call [(AV.lit (.string (txt (((restZ m (propW m (w))).1)))))] (intR ((numS (txt (((restZ m (propW m (w))).1)))))) (Gd.yes rfl rfl rfl) Xi_tC18 rfl (c_rParse (txt (((restZ m (propW m (w))).1))) (by first | assumption | exact okS_iff.1 (by assumption))) ?_
          refine n_as (v' := (intR (((restZ m (propW m (w))).1)))) (by simp only [numS_txt]) ?_
          refine o_call [(intR (((restZ m (propW m (w))).1)))] (AV.lit (.int .i64 (sgn (((restZ m (propW m (w))).1))))) (Gd.yes rfl rfl rfl) Xi_tC29 rfl (c_rSign (((restZ m (propW m (w))).1))) ?_
          refine o_lss (a := (sgn (((restZ m (propW m (w))).1)))) (c := (((0 : Nat) : Int))) (Gd.yes rfl rfl rfl) rfl rfl ?_
          refine n_as (v' := (AV.lit (.bool false))) (by exact bp_no (fun e => absurd (sgn_neg.1 e) (by omega))) ?_
          refine o_pickF (b := false) (AV.lit (.bool false)) Gd.none rfl rfl rfl ?_
          refine o_move (AV.lit (.bool false)) Gd.none rfl ?_
          refine o_move (AV.lit (.string (txt (((restZ m (propW m (w))).1))))) (Gd.yes rfl rfl rfl) rfl ?_
          refine o_call [(AV.lit (.string (txt (((restZ m (propW m (w))).1)))))] (intR ((numS (txt (((restZ m (propW m (w))).1)))))) (Gd.yes rfl rfl rfl) Xi_tC18 rfl (c_rParse (txt (((restZ m (propW m (w))).1))) (by first | assumption | exact okS_iff.1 (by assumption))) ?_
          refine n_as (v' := (intR (((restZ m (propW m (w))).1)))) (by simp only [numS_txt]) ?_
          refine o_loadA [(bp ((m.mod ^ (propW m (w)).length) < 0)), (AV.sl 1 (ns .i64 (digs ((m.mod ^ (propW m (w)).length)).natAbs)))] (Gd.yes rfl rfl rfl) Xi_tA36 rfl rfl rfl rfl rfl ?_
          refine o_call [(intR (((restZ m (propW m (w))).1))), (intR ((m.mod ^ (propW m (w)).length)))] (AV.lit (.int .i64 (cmpZ (((restZ m (propW m (w))).1)) ((m.mod ^ (propW m (w)).length))))) (Gd.yes rfl rfl rfl) Xi_tC33 rfl (c_rCmp (((restZ m (propW m (w))).1)) ((m.mod ^ (propW m (w)).length))) ?_
          refine o_geq (a := (cmpZ (((restZ m (propW m (w))).1)) ((m.mod ^ (propW m (w)).length)))) (c := (((0 : Nat) : Int))) (Gd.yes rfl rfl rfl) rfl rfl ?_
          refine n_as (v' := (AV.lit (.bool false))) (by exact bp_no (fun e => by have := cmpZ_lt.2 r2; omega)) ?_
          refine o_pickF (b := false) (AV.lit (.bool false)) Gd.none rfl rfl rfl ?_
          refine aops_end ⟨by kernel_rfl, ?_⟩
          refine hK31 _ ?_
          refine awp_condB (b := false) rfl (fun hh => absurd (hh.symm.trans rfl) (by decide)) (fun _ => ?_)
          refine awp_skip ?_
          refine hK30 _ ?_
          refine awp_seq fun K32 hK32 => ?_
          refine awp_regionD rfl ?_
          refine o_loadA [(AV.lit (.int .i64 (m.mod))), (AV.sl 1 (is .i64 (m.mul))), (AV.sl 1 (is .i64 (m.add)))] Gd.none Xi_tA24 rfl rfl rfl rfl rfl ?_
          refine o_move (AV.lit (.string (txt (((restZ m (propW m (w))).1))))) Gd.none rfl ?_
          refine o_call [(AV.lit (.string (txt (((restZ m (propW m (w))).1)))))] (intR ((numS (txt (((restZ m (propW m (w))).1)))))) Gd.none Xi_tC18 rfl (c_rParse (txt (((restZ m (propW m (w))).1))) (by first | assumption | exact okS_iff.1 (by assumption))) ?_
          refine n_as (v' := (intR (((restZ m (propW m (w))).1)))) (by simp only [numS_txt]) ?_
          refine o_loadA [(bp ((numS (a)) < 0)), (AV.sl 1 (ns .i64 (digs ((numS (a))).natAbs)))] Gd.none Xi_tA36 rfl rfl rfl rfl rfl ?_
          refine o_loadA [(bp ((m.mod ^ (propW m (w)).length) < 0)), (AV.sl 1 (ns .i64 (digs ((m.mod ^ (propW m (w)).length)).natAbs)))] Gd.none Xi_tA36 rfl rfl rfl rfl rfl ?_
          refine o_call [(intR ((numS (a)))), (intR ((m.mod ^ (propW m (w)).length)))] (intR (((numS (a)) * (m.mod ^ (propW m (w)).length)))) Gd.none Xi_tC37 rfl (c_rMul ((numS (a))) ((m.mod ^ (propW m (w)).length)) (by first | omega | assumption | (simp only [Int.natAbs_neg]; omega)) (by first | omega | assumption | (simp only [Int.natAbs_neg]; omega))) ?_
          refine o_call [(intR (((restZ m (propW m (w))).1))), (intR (((numS (a)) * (m.mod ^ (propW m (w)).length))))] (intR ((((restZ m (propW m (w))).1) + ((numS (a)) * (m.mod ^ (propW m (w)).length))))) Gd.none Xi_tC34 rfl (c_rAdd (((restZ m (propW m (w))).1)) (((numS (a)) * (m.mod ^ (propW m (w)).length))) (by first | omega | assumption | (simp only [Int.natAbs_neg]; omega)) (by first | omega | assumption | (simp only [Int.natAbs_neg]; omega))) ?_
          refine o_move (nm .i64 ((propW m (w)).length)) Gd.none rfl ?_
          refine o_call [(mapV m), (intR ((((restZ m (propW m (w))).1) + ((numS (a)) * (m.mod ^ (propW m (w)).length))))), (nm .i64 ((propW m (w)).length))] (AV.tup [(intR ((iterZ m (propW m (w)).length (((restZ m (propW m (w))).1) + ((numS (a)) * (m.mod ^ (propW m (w)).length)))))), (AV.sl 1 (is .i64 (wordZ m (((restZ m (propW m (w))).1) + ((numS (a)) * (m.mod ^ (propW m (w)).length))) (propW m (w)).length)))]) Gd.none Xi_tC44 rfl (c_tAfter m (((restZ m (propW m (w))).1) + ((numS (a)) * (m.mod ^ (propW m (w)).length))) ((propW m (w)).length) hM (by omega) (by omega)) ?_
          refine o_move (AV.tup [(intR ((iterZ m (propW m (w)).length (((restZ m (propW m (w))).1) + ((numS (a)) * (m.mod ^ (propW m (w)).length)))))), (AV.sl 1 (is .i64 (wordZ m (((restZ m (propW m (w))).1) + ((numS (a)) * (m.mod ^ (propW m (w)).length))) (propW m (w)).length)))]) Gd.none rfl ?_
          refine o_extract (intR ((iterZ m (propW m (w)).length (((restZ m (propW m (w))).1) + ((numS (a)) * (m.mod ^ (propW m (w)).length)))))) Gd.none rfl rfl ?_
          refine o_extract (AV.sl 1 (is .i64 (wordZ m (((restZ m (propW m (w))).1) + ((numS (a)) * (m.mod ^ (propW m (w)).length))) (propW m (w)).length))) Gd.none rfl rfl ?_
          refine n_as (v' := (AV.sl 1 (is .i64 (propW m (w))))) (by exact is_as u1) ?_
          refine o_alloc 102 [(AV.lit (.bool false)), (AV.lit (.slice none 0 0))] Gd.none Xi_tO36 rfl rfl rfl ?_
          refine o_store [(102, (oZ 36 .i64 ((iterZ m (propW m (w)).length (((restZ m (propW m (w))).1) + ((numS (a)) * (m.mod ^ (propW m (w)).length))))))), (101, (AO.var 41 [(AV.lit (.string ((lineT (lineZ m (wordZ m (numS (a)) (propW m (w)).length))).mul))), (AV.lit (.string ((lineT (lineZ m (wordZ m (numS (a)) (propW m (w)).length))).add))), (AV.lit (.string ((lineT (lineZ m (wordZ m (numS (a)) (propW m (w)).length))).div)))])), (2, (oM 24 m)), (4, (oZ 36 .i64 ((numS (a))))), (5, (oZ 36 .i64 ((numS (b))))), (6, (oZ 36 .i64 ((m.mod ^ (propW m (w)).length)))), (7, (oZ 36 .i64 ((iterZ m (propW m (w)).length (numS (a)))))), (8, (oZ 36 .i64 (((numS (a)) + ((numS (b)) * (m.mod ^ (propW m (w)).length)))))), (9, (oZ 36 .i64 (F)))] Gd.none Xi_tZ36 rfl rfl rfl rfl rfl rfl ?_
          refine o_assign (AV.sl 1 (is .i64 (propW m (w)))) Gd.none rfl ?_
          refine aops_end ⟨by kernel_rfl, ?_⟩
          refine hK32 _ ?_
          refine awp_seq fun K33 hK33 => ?_
          refine awp_region rfl ?_
          refine o_loadA [(AV.lit (.int .i64 (m.mod))), (AV.sl 1 (is .i64 (m.mul))), (AV.sl 1 (is .i64 (m.add)))] Gd.none Xi_tA24 rfl rfl rfl rfl rfl ?_
          refine o_move (AV.sl 1 (is .i64 (wordZ m (numS (a)) (propW m (w)).length))) Gd.none rfl ?_
          refine o_call [(mapV m), (AV.sl 1 (is .i64 (wordZ m (numS (a)) (propW m (w)).length)))] (AV.tup [(AV.lit (.string (restS m (wordZ m (numS (a)) (propW m (w)).length)))), (AV.lit (.string (restD m (wordZ m (numS (a)) (propW m (w)).length)))), (nm .i64 (restE m (wordZ m (numS (a)) (propW m (w)).length)))]) Gd.none Xi_tC21 rfl (c_oRest m (wordZ m (numS (a)) (propW m (w)).length) (by rw [wordZ_len]; omega)) ?_
          refine o_move (AV.tup [(AV.lit (.string (restS m (wordZ m (numS (a)) (propW m (w)).length)))), (AV.lit (.string (restD m (wordZ m (numS (a)) (propW m (w)).length)))), (nm .i64 (restE m (wordZ m (numS (a)) (propW m (w)).length)))]) Gd.none rfl ?_
          refine o_extract (AV.lit (.string (restS m (wordZ m (numS (a)) (propW m (w)).length)))) Gd.none rfl rfl ?_
          refine n_as (v' := (AV.lit (.string (txt (((numS (a)) % (m.mod ^ (propW m (w)).length))))))) (by exact str_as (g.2.1.trans (by rw [u2]))) ?_
          refine o_extract (AV.lit (.string (restD m (wordZ m (numS (a)) (propW m (w)).length)))) Gd.none rfl rfl ?_
          refine n_as (v' := (AV.lit (.string (txt ((m.mod ^ (propW m (w)).length)))))) (by exact str_as (g.2.2.trans (by rw [wordZ_len]))) ?_
          refine o_extract (nm .i64 (restE m (wordZ m (numS (a)) (propW m (w)).length))) Gd.none rfl rfl ?_
          refine n_as (v' := (nm .i64 (0))) (by rw [g.1]) ?_
          refine o_assign (AV.lit (.string (txt (((numS (a)) % (m.mod ^ (propW m (w)).length)))))) Gd.none rfl ?_
          refine o_assign (AV.lit (.string (txt ((m.mod ^ (propW m (w)).length))))) Gd.none rfl ?_
          refine o_assign (nm .i64 (0)) Gd.none rfl ?_
          refine aops_end ?_
          refine hK33 _ ?_
          refine awp_seq fun K34 hK34 => ?_
          refine awp_region rfl ?_
          refine o_loadA [(bp ((numS (a)) < 0)), (AV.sl 1 (ns .i64 (digs ((numS (a))).natAbs)))] Gd.none Xi_tA36 rfl rfl rfl rfl rfl ?_
          refine o_loadA [(bp ((m.mod ^ (propW m (w)).length) < 0)), (AV.sl 1 (ns .i64 (digs ((m.mod ^ (propW m (w)).length)).natAbs)))] Gd.none Xi_tA36 rfl rfl rfl rfl rfl ?_
          refine o_call [(intR ((numS (a)))), (intR ((m.mod ^ (propW m (w)).length)))] (AV.tup [(intR (((numS (a)) / (m.mod ^ (propW m (w)).length)))), (intR (((numS (a)) % (m.mod ^ (propW m (w)).length))))]) Gd.none Xi_tC32 rfl (c_rDiv ((numS (a))) ((m.mod ^ (propW m (w)).length)) (by omega) (by omega) (by omega)) ?_
          refine o_move (AV.tup [(intR (((numS (a)) / (m.mod ^ (propW m (w)).length)))), (intR (((numS (a)) % (m.mod ^ (propW m (w)).length))))]) Gd.none rfl ?_
          refine o_extract (intR (((numS (a)) / (m.mod ^ (propW m (w)).length)))) Gd.none rfl rfl ?_
          refine o_extract (intR (((numS (a)) % (m.mod ^ (propW m (w)).length)))) Gd.none rfl rfl ?_
          refine o_alloc 103 [(AV.lit (.bool false)), (AV.lit (.slice none 0 0))] Gd.none Xi_tO36 rfl rfl rfl ?_
          refine o_alloc 104 [(AV.lit (.bool false)), (AV.lit (.slice none 0 0))] Gd.none Xi_tO36 rfl rfl rfl ?_
          refine o_store [(104, (AO.var 36 [(AV.lit (.bool false)), (AV.lit (.slice none 0 0))])), (103, (oZ 36 .i64 (((numS (a)) / (m.mod ^ (propW m (w)).length))))), (102, (oZ 36 .i64 ((iterZ m (propW m (w)).length (((restZ m (propW m (w))).1) + ((numS (a)) * (m.mod ^ (propW m (w)).length))))))), (101, (AO.var 41 [(AV.lit (.string ((lineT (lineZ m (wordZ m (numS (a)) (propW m (w)).length))).mul))), (AV.lit (.string ((lineT (lineZ m (wordZ m (numS (a)) (propW m (w)).length))).add))), (AV.lit (.string ((lineT (lineZ m (wordZ m (numS (a)) (propW m (w)).length))).div)))])), (2, (oM 24 m)), (4, (oZ 36 .i64 ((numS (a))))), (5, (oZ 36 .i64 ((numS (b))))), (6, (oZ 36 .i64 ((m.mod ^ (propW m (w)).length)))), (7, (oZ 36 .i64 ((iterZ m (propW m (w)).length (numS (a)))))), (8, (oZ 36 .i64 (((numS (a)) + ((numS (b)) * (m.mod ^ (propW m (w)).length)))))), (9, (oZ 36 .i64 (F)))] Gd.none Xi_tZ36 rfl rfl rfl rfl rfl rfl ?_
          refine o_store [(104, (oZ 36 .i64 (((numS (a)) % (m.mod ^ (propW m (w)).length))))), (103, (oZ 36 .i64 (((numS (a)) / (m.mod ^ (propW m (w)).length))))), (102, (oZ 36 .i64 ((iterZ m (propW m (w)).length (((restZ m (propW m (w))).1) + ((numS (a)) * (m.mod ^ (propW m (w)).length))))))), (101, (AO.var 41 [(AV.lit (.string ((lineT (lineZ m (wordZ m (numS (a)) (propW m (w)).length))).mul))), (AV.lit (.string ((lineT (lineZ m (wordZ m (numS (a)) (propW m (w)).length))).add))), (AV.lit (.string ((lineT (lineZ m (wordZ m (numS (a)) (propW m (w)).length))).div)))])), (2, (oM 24 m)), (4, (oZ 36 .i64 ((numS (a))))), (5, (oZ 36 .i64 ((numS (b))))), (6, (oZ 36 .i64 ((m.mod ^ (propW m (w)).length)))), (7, (oZ 36 .i64 ((iterZ m (propW m (w)).length (numS (a)))))), (8, (oZ 36 .i64 (((numS (a)) + ((numS (b)) * (m.mod ^ (propW m (w)).length)))))), (9, (oZ 36 .i64 (F)))] Gd.none Xi_tZ36 rfl rfl rfl rfl rfl rfl ?_
          refine aops_end ?_
          refine hK34 _ ?_
          refine awp_seq fun K35 hK35 => ?_
          refine awp_region rfl ?_
          refine o_move (AV.sl 1 (is .i64 (propW m (w)))) Gd.none rfl ?_
          refine o_move (AV.sl 1 (is .i64 (propW m (w)))) Gd.none rfl ?_
          refine o_call [(AV.sl 1 (is .i64 (propW m (w)))), (AV.sl 1 (is .i64 (propW m (w))))] (bp (propW m (w) = propW m (w))) Gd.none Xi_tC45 rfl (c_tSameInts (propW m (w)) (propW m (w)) (by first | (rw [wordZ_len]; omega) | omega)) ?_
          refine o_move (bp (propW m (w) = propW m (w))) Gd.none rfl ?_
          refine o_move (nm .i64 (0)) (Gd.yes rfl rfl (decide_eq_true rfl)) rfl ?_
          refine n_eql (0) (0) (Gd.yes rfl rfl (decide_eq_true rfl)) rfl rfl ?_
          refine o_pickT (b := decide (propW m (w) = propW m (w))) (bp ((0) = (0))) Gd.none rfl (decide_eq_true rfl) rfl ?_
          refine o_move (bp ((0) = (0))) Gd.none rfl ?_
          refine o_move (AV.lit (.string (txt (((numS (a)) % (m.mod ^ (propW m (w)).length)))))) (Gd.yes rfl rfl (decide_eq_true (by decide))) rfl ?_
          refine o_loadA [(bp (((numS (a)) % (m.mod ^ (propW m (w)).length)) < 0)), (AV.sl 1 (ns .i64 (digs (((numS (a)) % (m.mod ^ (propW m (w)).length))).natAbs)))] (Gd.yes rfl rfl (decide_eq_true (by decide))) Xi_tA36 rfl rfl rfl rfl rfl ?_
          refine o_call [(intR (((numS (a)) % (m.mod ^ (propW m (w)).length))))] (AV.lit (.string (txt (((numS (a)) % (m.mod ^ (propW m (w)).length)))))) (Gd.yes rfl rfl (decide_eq_true (by decide))) Xi_tC27 rfl (c_rText (((numS (a)) % (m.mod ^ (propW m (w)).length))) (by first | omega | assumption | (simp only [Int.natAbs_neg]; omega))) ?_
          refine o_eqlS (a := (txt (((numS (a)) % (m.mod ^ (propW m (w)).length))))) (c := (txt (((numS (a)) % (m.mod ^ (propW m (w)).length))))) (Gd.yes rfl rfl (decide_eq_true (by decide))) rfl rfl ?_
          refine o_pickT (b := decide ((0) = (0))) (bp ((txt (((numS (a)) % (m.mod ^ (propW m (w)).length)))).toList = (txt (((numS (a)) % (m.mod ^ (propW m (w)).length)))).toList)) Gd.none rfl (decide_eq_true (by decide)) rfl ?_
          refine o_move (bp ((txt (((numS (a)) % (m.mod ^ (propW m (w)).length)))).toList = (txt (((numS (a)) % (m.mod ^ (propW m (w)).length)))).toList)) Gd.none rfl ?_
          refine o_move (AV.lit (.string (txt ((m.mod ^ (propW m (w)).length))))) (Gd.yes rfl rfl (decide_eq_true rfl)) rfl ?_
          refine o_loadA [(bp ((m.mod ^ (propW m (w)).length) < 0)), (AV.sl 1 (ns .i64 (digs ((m.mod ^ (propW m (w)).length)).natAbs)))] (Gd.yes rfl rfl (decide_eq_true rfl)) Xi_tA36 rfl rfl rfl rfl rfl ?_
          refine o_call [(intR ((m.mod ^ (propW m (w)).length)))] (AV.lit (.string (txt ((m.mod ^ (propW m (w)).length))))) (Gd.yes rfl rfl (decide_eq_true rfl)) Xi_tC27 rfl (c_rText ((m.mod ^ (propW m (w)).length)) (by first | omega | assumption | (simp only [Int.natAbs_neg]; omega))) ?_
          refine o_eqlS (a := (txt ((m.mod ^ (propW m (w)).length)))) (c := (txt ((m.mod ^ (propW m (w)).length)))) (Gd.yes rfl rfl (decide_eq_true rfl)) rfl rfl ?_
          refine o_pickT (b := decide ((txt (((numS (a)) % (m.mod ^ (propW m (w)).length)))).toList = (txt (((numS (a)) % (m.mod ^ (propW m (w)).length)))).toList)) (bp ((txt ((m.mod ^ (propW m (w)).length))).toList = (txt ((m.mod ^ (propW m (w)).length))).toList)) Gd.none rfl (decide_eq_true rfl) rfl ?_
          refine o_move (bp ((txt ((m.mod ^ (propW m (w)).length))).toList = (txt ((m.mod ^ (propW m (w)).length))).toList)) Gd.none rfl ?_
          refine o_call [] (AV.lit (.bool true)) (Gd.yes rfl rfl (decide_eq_true rfl)) Xi_tC41 rfl c_tLeads ?_
          refine o_pickT (b := decide ((txt ((m.mod ^ (propW m (w)).length))).toList = (txt ((m.mod ^ (propW m (w)).length))).toList)) (AV.lit (.bool true)) Gd.none rfl (decide_eq_true rfl) rfl ?_
          refine o_assign (AV.lit (.bool true)) Gd.none rfl ?_
          refine aops_end ?_
          refine hK35 _ ?_
          refine awp_ret ?_
          refine post_ret ⟨[(AV.lit (.bool true))], And.intro (AV.le_refl _) (trivial), rfl, ?_⟩
          first | rfl | simp [bp]

end Go.Proofs.YtbilndahjkimkaaDoor

set_option linter.unusedVariables false
namespace Go.Proofs.YtbilndahjkimkaaDoor.topWords
open Go Go.Ab Go.Mth Go.ChangeShapes Go.WideShapes Go.ChangeAt Go.RowKit
theorem reads (os : Os) {H : Type} (enc : TypeId × Value → H) : ∃ places, DataW.whole enc Tryd.prog ((World.laidAll Tryd.prog os laid5).forCall (fun _ _ => 0) ⟨#[], #[.agg #[.int .i64 0, .slice none 0 0, .slice none 0 0], .agg #[.string ByteArray.empty, .string ByteArray.empty], .slice none 0 0], []⟩).memory Tryd.f10.params.toList Rows.topWordsSpec.vars false (#[.agg #[.int .i64 0, .slice none 0 0, .slice none 0 0], .agg #[.string ByteArray.empty, .string ByteArray.empty], .slice none 0 0] : Array Value).toList 8 = some ([.agg [.lit (.int .i64 0), .nil, .nil], .agg [.lit (.string []), .lit (.string [])], .nil], [], places) := ⟨[], by kernel_rfl⟩
theorem met (os : Os) : laidMetH Tryd.prog laid5 ((World.laidAll Tryd.prog os laid5).forCall (fun _ _ => 0) ⟨#[], #[.agg #[.int .i64 0, .slice none 0 0, .slice none 0 0], .agg #[.string ByteArray.empty, .string ByteArray.empty], .slice none 0 0], []⟩).memory := (MakeChecks.laidMetH_plain _ _ _ (by kernel_rfl)).mpr (laidMet_laidAll _ (by kernel_rfl) (by kernel_rfl))
theorem specs {H : Type} (ds : List (DataW H)) (h : ds.length = 3) : (Rows.topWordsSpec.fn H ds).results = [.lit (.bool true)] ∧ (Rows.topWordsSpec.fn H ds).args = ds ∧ (Rows.topWordsSpec.fn H ds).vars = [] := by
  rcases ds with _ | ⟨d0, _ | ⟨d1, _ | ⟨d2, _ | ⟨e, t⟩⟩⟩⟩ <;> simp at h <;> exact ⟨rfl, rfl, rfl⟩
set_option maxRecDepth 100000 in
theorem opened {H : Type} (enc : TypeId × Value → H) (W : World) (base : Nat) (args : Array Value) (ds : List (DataW H)) (ps : List MemPlace) (hval : ∀ (j : Nat) t v, (#[24, 69, 22] : Array TypeId)[j]? = some t → args[j]? = some v → Value.okWide Tryd.prog W .any base t v)
    (hA : DataW.TrodAll enc Tryd.prog W 0 (fun _ => true) true [24, 69, 22] args.toList ds ps) (hsz : (DataW.weightsEach Tryd.prog [24, 69, 22] ds).all (· ≤ reachBytes) = true) : ∃ xs, RepL (memOf W) xs noLoc args.toList ∧ ECalls cx 10 xs (.lit (.bool true)) := by
  obtain ⟨v0, vs0, d0, ds0, p0, q0, hargs, rfl, rfl, h0, r0⟩ := trodAll_cons hA
  obtain ⟨v1, vs1, d1, ds1, p1, q1, rfl, rfl, rfl, h1, r1⟩ := trodAll_cons r0
  obtain ⟨v2, vs2, d2, ds2, p2, q2, rfl, rfl, rfl, h2, r2⟩ := trodAll_cons r1
  obtain ⟨rfl, rfl, rfl⟩ := trodAll_nil r2
  obtain rfl : args = #[v0, v1, v2] := by cases args; simp_all
  obtain ⟨m0, e0, b0, c0⟩ := rep_map (hval 0 24 v0 rfl rfl) h0 (fun n hn => by simpa using List.all_eq_true.1 hsz n (DataW.weights_mem_each (j := 0) rfl rfl n hn))
  obtain ⟨x1, y1, e1, b1, c1⟩ := rep_two (hval 1 69 v1 rfl rfl) h1
  obtain ⟨l2, e2, b2, c2⟩ := rep_listB (hval 2 22 v2 rfl rfl) h2 (fun n hn => by simpa using List.all_eq_true.1 hsz n (DataW.weights_mem_each (j := 2) rfl rfl n hn))
  exact ⟨[mapV m0, .agg [.lit (.string x1), .lit (.string y1)], .sl 1 (is .i64 l2)], RepL.cons e0 (RepL.cons e1 (RepL.cons e2 (by simp only [RepL]))), c_TopWords m0 x1 y1 l2 b1 c1 b2 c2⟩
set_option maxRecDepth 100000 in
theorem lifted (os : Os) (started : os.Started) (H : Type) (enc : TypeId × Value → H) (F : Stop.Interp) :
    ReturnsInHanded {} Tryd.checked os 10 .any ((OpenSpec.ofChange Rows.topWordsSpec).preRow enc Tryd.prog Tryd.f10 Rows.topWordsRow.domain false Rows.topWordsRow.laid) (((OpenSpec.ofChange Rows.topWordsSpec).at F).post enc Tryd.prog Tryd.f10 false true false false) := by
  obtain ⟨places, hx⟩ := reads os enc
  refine lifted_of (C := Tryd.checked) started cx rfl ownT (by kernel_rfl) Tryd.func10 (witness_laid #[.agg #[.int .i64 0, .slice none 0 0, .slice none 0 0], .agg #[.string ByteArray.empty, .string ByteArray.empty], .slice none 0 0] (by kernel_rfl) (by kernel_rfl) (by kernel_rfl) (OpenSpec.preRow_of_cond 8 hx (by kernel_rfl) (fun k hk => by cases hk) (by kernel_rfl) (met os))) laidOutT (by kernel_rfl) (tb := 4) (by kernel_rfl) u4T rfl (fun ds h => specs ds (h.trans (by kernel_rfl))) (fun W h => tabG_of h) ?_
  intro W base args ds ps hval hA hsz
  exact opened enc W base args ds ps hval hA hsz
theorem said : Rows.TopWordsSaid :=
  OpenClaim.holds_of_cond 10 Tryd.f10 rfl rfl rfl rfl rfl rfl rfl ⟨rfl, rfl, rfl, rfl, rfl⟩ rfl rfl rfl rfl rfl (by kernel_rfl) Tryd.func10 (by kernel_rfl)
    (of_decide_eq_true (by kernel_rfl)) (by unfold Func.isWrapper; first | (rw [if_pos (by decide +kernel)]; kernel_rfl) | (rw [if_neg (by decide +kernel)]; exact ⟨rfl, rfl⟩))
    (fun os started H enc _ F => by rw [OpenClaim.pre_eq_preRow]; exact lifted os started H enc F)
theorem plain (f : FuncId) (fn : Func) (hf : Tryd.pinned.checked.prog.funcNamed "katabasis/katabasistop.TopWords" = some f) (hfn : Tryd.pinned.checked.prog.funcs[f]? = some fn) :
    true = Tryd.pinned.checked.prog.looks [] ∧ ∀ (j : Nat) t, fn.params[j]? = some t → Tryd.pinned.checked.prog.wantsStandIn t = false := by
  obtain rfl : f = 10 := Option.some.inj ((show Tryd.prog.funcNamed "katabasis/katabasistop.TopWords" = some 10 by kernel_rfl).symm.trans hf) |>.symm
  obtain rfl : fn = Tryd.f10 := (Option.some.inj (Tryd.func10.symm.trans hfn)).symm
  refine ⟨by kernel_rfl, fun j t ht => ?_⟩
  rw [Tryd.params10] at ht
  have : t = 24 ∨ t = 69 ∨ t = 22 := by have h := Array.mem_of_getElem? ht; simp at h; first | exact h | (rcases h with h | h | h | h <;> simp [h]) | (rcases h with h | h | h <;> simp [h]) | (rcases h with h | h <;> simp [h])
  rcases this with rfl | rfl | rfl
  · exact (show Tryd.prog.wantsStandIn 24 = false by kernel_rfl)
  · exact (show Tryd.prog.wantsStandIn 69 = false by kernel_rfl)
  · exact (show Tryd.prog.wantsStandIn 22 = false by kernel_rfl)
end Go.Proofs.YtbilndahjkimkaaDoor.topWords
namespace Go.Proofs.YtbilndahjkimkaaDoor
open Go
theorem topWords_holds : Rows.TopWordsCardSaid :=
  Claim7.holds_tied_plain_at .later [] _ _ _ _ topWords.said (fun _ h => by cases h) (by kernel_rfl) (fun _ h => by cases h) topWords_row_tie rfl ⟨rfl, rfl⟩ (by kernel_rfl) rfl topWords.plain (by kernel_rfl)
#print axioms topWords_holds
end Go.Proofs.YtbilndahjkimkaaDoor

