/- The law 'katabasislaw03.WordApplies' is true for every linear map of strings and every string: Apply returns the documented number, or the documented error. Its condition: none but the row's own (the listed tables of the library). -/
import Derived.Test.YtbilndahjkimkaaDoorPkWordAppliesd
set_option linter.unusedVariables false
set_option linter.unusedSimpArgs false
namespace Go.Proofs.YtbilndahjkimkaaDoor
open Go Go.Ab Go.Mth
theorem Xb_tA24 : tyAgg cx.P 24 = some 3 := by kernel_rfl
theorem Xb_tC46 : callable cx.P 46 = true := by kernel_rfl
theorem Xb_tC47 : callable cx.P 47 = true := by kernel_rfl
theorem Xb_tC48 : callable cx.P 48 = true := by kernel_rfl
theorem Xb_tO79 : tyZero cx.P 79 = some [(Go.Value.bool false), (Go.Value.slice none 0 0)] := by kernel_rfl
theorem Xb_tZ79 : tySize cx.P 79 = some 2 := by kernel_rfl
theorem Xb_tA79 : tyAgg cx.P 79 = some 2 := by kernel_rfl
theorem Xb_tC49 : callable cx.P 49 = true := by kernel_rfl
theorem Xb_tC50 : callable cx.P 50 = true := by kernel_rfl
theorem Xb_tE22 : tyElem cx.P 22 = some (3, 1, 8) := by kernel_rfl
theorem Xb_tO3 : tyZero cx.P 3 = some [(Go.Value.int IntKind.i64 0)] := by kernel_rfl
theorem Xb_tF41_0 : tyField cx.P 41 0 = some (0, 9) := by kernel_rfl
theorem Xb_tS9 : tySc cx.P 9 = true := by kernel_rfl
theorem Xb_tF41_1 : tyField cx.P 41 1 = some (1, 9) := by kernel_rfl
theorem Xb_tF41_2 : tyField cx.P 41 2 = some (2, 9) := by kernel_rfl
theorem Xb_tA41 : tyAgg cx.P 41 = some 3 := by kernel_rfl
theorem Xb_tP41 : tyPlaces cx.P 41 = some (fun i => (#[(0, 1), (1, 1), (2, 1)] : Array (Nat × Nat))[i]?) := by kernel_rfl
theorem Xb_tO41 : tyZero cx.P 41 = some [(Go.Value.string {data := #[]}), (Go.Value.string {data := #[]}), (Go.Value.string {data := #[]})] := by kernel_rfl
theorem Xb_tC68 : callable cx.P 68 = true := by kernel_rfl
theorem Xb_tC60 : callable cx.P 60 = true := by kernel_rfl
theorem Xb_tC61 : callable cx.P 61 = true := by kernel_rfl
theorem Xb_tC62 : callable cx.P 62 = true := by kernel_rfl
theorem Xb_tC64 : callable cx.P 64 = true := by kernel_rfl
theorem Xb_tC55 : callable cx.P 55 = true := by kernel_rfl
theorem Xb_tC58 : callable cx.P 58 = true := by kernel_rfl
theorem Xb_tC59 : callable cx.P 59 = true := by kernel_rfl
theorem Xb_tU22 : cx.P.underlying 22 = some (.slice 3) := by kernel_rfl
theorem Xb_tS3 : tySc cx.P 3 = true := by kernel_rfl
theorem Xb_tC56 : callable cx.P 56 = true := by kernel_rfl
theorem Xb_tO89 : tyZero cx.P 89 = some [(Go.Value.bool false), (Go.Value.slice none 0 0), (Go.Value.bool false), (Go.Value.slice none 0 0), (Go.Value.bool false), (Go.Value.slice none 0 0)] := by kernel_rfl
theorem Xb_tZ89 : tySize cx.P 89 = some 6 := by kernel_rfl
theorem Xb_tF89_0 : tyField cx.P 89 0 = some (0, 79) := by kernel_rfl
theorem Xb_tF89_1 : tyField cx.P 89 1 = some (2, 79) := by kernel_rfl
theorem Xb_tF89_2 : tyField cx.P 89 2 = some (4, 79) := by kernel_rfl
theorem Xb_tF24_0 : tyField cx.P 24 0 = some (0, 3) := by kernel_rfl
theorem Xb_tC63 : callable cx.P 63 = true := by kernel_rfl
theorem c_oWord (m : MapM) (a : ByteArray) (K : Int) (ha : a.size ≤ 9223372036854775807) : ECalls cx 12 [(mapV m), (AV.lit (.string (a))), (AV.lit (.int .i64 (K)))] (.tup [.sl 1 (is .i64 (wordL m a K)), nm .i64 (wordE m a K)]) := by
  refine ecalls_of_awp Tryd.func12 (c := _) rfl (Nat.le_of_ble_eq_true rfl) ?_
  show awp cx 49 _ (postF cx Tryd.f12 _) ⟨[(0, (mapV m)), (1, (AV.lit (.string (a)))), (2, (AV.lit (.int .i64 (K))))], []⟩
  refine awp_seq fun K0 hK0 => ?_
  refine awp_region rfl ?_
  refine o_box 2 [(AV.lit (.int .i64 (m.mod))), (AV.sl 1 (is .i64 (m.mul))), (AV.sl 1 (is .i64 (m.add)))] Gd.none rfl rfl ?_
  refine o_assign (AV.lit (.slice none 0 0)) Gd.none rfl ?_
  refine o_assign (nm .i64 (0)) Gd.none rfl ?_
  refine aops_end ?_
  refine hK0 _ ?_
  refine awp_seq fun K1 hK1 => ?_
  refine awp_block ?_
  refine awp_seq fun K2 hK2 => ?_
  refine awp_region rfl ?_
  refine o_loadA [(AV.lit (.int .i64 (m.mod))), (AV.sl 1 (is .i64 (m.mul))), (AV.sl 1 (is .i64 (m.add)))] Gd.none Xb_tA24 rfl rfl rfl rfl rfl ?_
  refine o_call [(AV.agg [(AV.lit (.int .i64 (m.mod))), (AV.sl 1 (is .i64 (m.mul))), (AV.sl 1 (is .i64 (m.add)))])] (AV.lit (.bool (okM m))) Gd.none Xb_tC46 rfl (c_sValid m) ?_
  refine o_not (b := okM m) Gd.none rfl ?_
  refine o_move (AV.lit (.bool (!(okM m)))) Gd.none rfl ?_
  refine o_split (b := !(okM m)) 16 rfl (fun h1 => ?_) (fun h1 => ?_)
  · have hm' : ¬ okM m = true := by simpa using h1
    refine o_skip (b := !(okM m)) rfl rfl h1 ?_
    refine o_skip (b := !(okM m)) rfl rfl h1 ?_
    refine o_skip (b := !(okM m)) rfl rfl h1 ?_
    refine o_pickT (b := !(okM m)) (AV.lit (.bool true)) Gd.none rfl h1 rfl ?_
    refine o_assign (AV.lit (.bool true)) Gd.none rfl ?_
    refine aops_end ?_
    refine hK2 _ ?_
    refine awp_condB (b := true) rfl (fun _ => ?_) (fun hh => absurd (hh.symm.trans rfl) (by decide))
    refine awp_seq fun K3 hK3 => ?_
    refine awp_region rfl ?_
    refine o_assign (AV.lit (.slice none 0 0)) Gd.none rfl ?_
    refine o_assign (nm .i64 (1)) Gd.none rfl ?_
    refine aops_end ?_
    refine hK3 _ ?_
    refine awp_ret ?_
    refine post_ret ⟨[(AV.sl 1 (is .i64 ([]))), (nm .i64 (1))], And.intro (AV.le_nil' (by decide) (by first | rfl | simp [digs_zero, ns, is])) (And.intro (AV.le_refl _) (trivial)), rfl, ?_⟩
    have e := wordE_1 (m := m) (a := a) (K := K) (fun e => hm' e.1)
    exact tup_eq2 (congrArg (fun l => AV.sl 1 (is .i64 l)) e.2) (congrArg (nm _) e.1)
  · have hm' : okM m = true := by simpa using h1
    refine o_move (AV.lit (.string (a))) (Gd.yes rfl rfl h1) rfl ?_
    refine o_call [(AV.lit (.string (a)))] (AV.lit (.bool (okS (a)))) (Gd.yes rfl rfl h1) Xb_tC47 rfl (c_nValid (a) (by first | assumption | decide | omega)) ?_
    refine o_not (b := okS (a)) (Gd.yes rfl rfl h1) rfl ?_
    refine o_pickF (b := !(okM m)) (AV.lit (.bool (!(okS (a))))) Gd.none rfl h1 rfl ?_
    refine o_assign (AV.lit (.bool (!(okS (a))))) Gd.none rfl ?_
    refine aops_end ?_
    refine hK2 _ ?_
    refine awp_condB (b := !(okS (a))) rfl (fun h2 => ?_) (fun h2 => ?_)
    · have ha' : ¬ okS a = true := by simpa using h2
      refine awp_seq fun K4 hK4 => ?_
      refine awp_region rfl ?_
      refine o_assign (AV.lit (.slice none 0 0)) Gd.none rfl ?_
      refine o_assign (nm .i64 (1)) Gd.none rfl ?_
      refine aops_end ?_
      refine hK4 _ ?_
      refine awp_ret ?_
      refine post_ret ⟨[(AV.sl 1 (is .i64 ([]))), (nm .i64 (1))], And.intro (AV.le_nil' (by decide) (by first | rfl | simp [digs_zero, ns, is])) (And.intro (AV.le_refl _) (trivial)), rfl, ?_⟩
      have e := wordE_1 (m := m) (a := a) (K := K) (fun e => ha' e.2)
      exact tup_eq2 (congrArg (fun l => AV.sl 1 (is .i64 l)) e.2) (congrArg (nm _) e.1)
    · have ha' : okS a = true := by simpa using h2
      have hM := okM_iff.1 hm'
      have hl0 := len_numS (okS_iff.1 ha')
      refine awp_seq fun K5 hK5 => ?_
      refine awp_region rfl ?_
      refine o_move (AV.lit (.int .i64 (K))) Gd.none rfl ?_
      refine o_lss (a := (K)) (c := (((0 : Nat) : Int))) Gd.none rfl rfl ?_
      refine o_move (bp ((K) < (((0 : Nat) : Int)))) Gd.none rfl ?_
      refine o_splitP (q := (K) < (((0 : Nat) : Int))) 24 rfl (fun h3 => ?_) (fun h3 => ?_)
      · refine o_skip (b := decide ((K) < (((0 : Nat) : Int)))) rfl rfl (decide_eq_true h3) ?_
        refine o_skip (b := decide ((K) < (((0 : Nat) : Int)))) rfl rfl (decide_eq_true h3) ?_
        refine o_pickT (b := decide ((K) < (((0 : Nat) : Int)))) (AV.lit (.bool true)) Gd.none rfl (decide_eq_true h3) rfl ?_
        refine o_assign (AV.lit (.bool true)) Gd.none rfl ?_
        refine aops_end ?_
        refine hK5 _ ?_
        refine awp_condB (b := true) rfl (fun _ => ?_) (fun hh => absurd (hh.symm.trans rfl) (by decide))
        refine awp_seq fun K6 hK6 => ?_
        refine awp_region rfl ?_
        refine o_assign (AV.lit (.slice none 0 0)) Gd.none rfl ?_
        refine o_assign (nm .i64 (2)) Gd.none rfl ?_
        refine aops_end ?_
        refine hK6 _ ?_
        refine awp_ret ?_
        refine post_ret ⟨[(AV.sl 1 (is .i64 ([]))), (nm .i64 (2))], And.intro (AV.le_nil' (by decide) (by first | rfl | simp [digs_zero, ns, is])) (And.intro (AV.le_refl _) (trivial)), rfl, ?_⟩
        have e := wordE_2 (m := m) (a := a) (K := K) ⟨hm', ha'⟩ (by omega)
        exact tup_eq2 (congrArg (fun l => AV.sl 1 (is .i64 l)) e.2) (congrArg (nm _) e.1)
      · refine o_move (AV.lit (.int .i64 (K))) (Gd.yes rfl rfl (decide_eq_false h3)) rfl ?_
        refine o_gtr (a := (K)) (c := (((200 : Nat) : Int))) (Gd.yes rfl rfl (decide_eq_false h3)) rfl rfl ?_
        refine o_pickF (b := decide ((K) < (((0 : Nat) : Int)))) (bp ((((200 : Nat) : Int)) < (K))) Gd.none rfl (decide_eq_false h3) rfl ?_
        refine o_assign (bp ((((200 : Nat) : Int)) < (K))) Gd.none rfl ?_
        refine aops_end ?_
        refine hK5 _ ?_
        refine awp_condQ (q := (((200 : Nat) : Int)) < (K)) rfl (fun h4 => ?_) (fun h4 => ?_)
        · refine awp_seq fun K7 hK7 => ?_
          refine awp_region rfl ?_
          refine o_assign (AV.lit (.slice none 0 0)) Gd.none rfl ?_
          refine o_assign (nm .i64 (2)) Gd.none rfl ?_
          refine aops_end ?_
          refine hK7 _ ?_
          refine awp_ret ?_
          refine post_ret ⟨[(AV.sl 1 (is .i64 ([]))), (nm .i64 (2))], And.intro (AV.le_nil' (by decide) (by first | rfl | simp [digs_zero, ns, is])) (And.intro (AV.le_refl _) (trivial)), rfl, ?_⟩
          have e := wordE_2 (m := m) (a := a) (K := K) ⟨hm', ha'⟩ (by omega)
          exact tup_eq2 (congrArg (fun l => AV.sl 1 (is .i64 l)) e.2) (congrArg (nm _) e.1)
        · refine awp_skip ?_
          refine hK1 _ ?_
          refine awp_seq fun K8 hK8 => ?_
          refine awp_region rfl ?_
          refine o_assign (AV.lit (.slice none 0 0)) Gd.none rfl ?_
          refine aops_end ?_
          refine hK8 _ ?_
          refine awp_seq fun K9 hK9 => ?_
          refine awp_region rfl ?_
          refine o_move (AV.lit (.string (a))) Gd.none rfl ?_
          refine o_call [(AV.lit (.string (a)))] (intW ((numS (a)))) Gd.none Xb_tC48 rfl (c_wParse (a) (by first | assumption | exact okS_iff.1 (by assumption))) ?_
          refine o_alloc 3 [(AV.lit (.bool false)), (AV.lit (.slice none 0 0))] Gd.none Xb_tO79 rfl rfl rfl ?_
          refine o_store [(3, (AO.var 79 [(bp ((numS (a)) < 0)), (AV.sl 1 (ns .u32 (digs ((numS (a))).natAbs)))])), (2, (AO.var 24 [(AV.lit (.int .i64 (m.mod))), (AV.sl 1 (is .i64 (m.mul))), (AV.sl 1 (is .i64 (m.add)))]))] Gd.none Xb_tZ79 rfl rfl rfl rfl rfl rfl ?_
          refine aops_end ?_
          refine hK9 _ ?_
          refine awp_seq fun K10 hK10 => ?_
          refine awp_seq fun K11 hK11 => ?_
          refine awp_region rfl ?_
          refine o_move (AV.lit (.int .i64 (K))) Gd.none rfl ?_
          refine o_move (nm .i64 (0)) Gd.none rfl ?_
          refine aops_end ?_
          refine hK11 _ ?_
          refine awp_block ?_
          refine awp_loopR (fun κ σ => ∃ (i : Nat), ((i : Int) ≤ K) ∧ (FitK m (numS a) i) ∧ ((digs (iterZ m i (numS a)).natAbs).length ≤ 1000) ∧ (K.toNat - i) = κ ∧ σ = ⟨[(3, (AV.ref 2 (0))), (8, (AV.row 50)), (9, (AV.ref 3 (0))), (30, (AV.lit (.int .i64 (K)))), (31, (nm .i64 (i)))], [(2, (AO.var 24 [(AV.lit (.int .i64 (m.mod))), (AV.sl 1 (is .i64 (m.mul))), (AV.sl 1 (is .i64 (m.add)))])), (3, (AO.var 79 [(bp ((iterZ m i (numS a)) < 0)), (AV.sl 1 (ns .u32 (digs ((iterZ m i (numS a))).natAbs)))])), (50, (AO.row 3 1 (is .i64 (wordZ m (numS a) i))))]⟩) ⟨_, _, ⟨0, (by omega), (fun j hj => by omega), (show (digs (numS a).natAbs).length ≤ 1000 by omega), rfl, rfl⟩, ?wk0⟩ ?rd0
          case wk0 =>
            exact Wk.trans (Wk.newNil (i := 8) (id := 504) (e := 3) (sz := 1) rfl rfl (by decide)) (Wk.trans (Wk.sub (σ' := ⟨[(3, (AV.ref 2 (0))), (8, (AV.row 504)), (9, (AV.ref 3 (0))), (30, (AV.lit (.int .i64 (K)))), (31, (nm .i64 (0)))], [(2, (AO.var 24 [(AV.lit (.int .i64 (m.mod))), (AV.sl 1 (is .i64 (m.mul))), (AV.sl 1 (is .i64 (m.add)))])), (504, (AO.row 3 1 (is .i64 ([])))), (3, (AO.var 79 [(bp ((numS (a)) < 0)), (AV.sl 1 (ns .u32 (digs ((numS (a))).natAbs)))]))]⟩) (And.intro rfl (And.intro rfl (And.intro rfl (And.intro rfl (And.intro rfl (trivial)))))) (And.intro rfl (And.intro rfl (And.intro rfl (trivial))))) (Wk.trans (Wk.ren (id := 504) (id' := 50) rfl) (Wk.sub (And.intro (by exact rfl) (And.intro (by first | rfl | (simp)) (And.intro (by exact rfl) (And.intro (by exact rfl) (And.intro (by first | rfl | exact congrArg (nm _) (by omega) | exact nm_int (by omega) | exact nm_int (by simp [IntKind.wrap, IntKind.bits, IntKind.signed]; omega)) (trivial)))))) (And.intro (by first | rfl | exact row_ns (by simp) | exact congrArg (fun x => some (AO.blk (.stringIter _ x))) (by omega)) (And.intro (by first | rfl | exact row_ns (by simp) | exact congrArg (fun x => some (AO.blk (.stringIter _ x))) (by omega)) (And.intro (by first | rfl | exact row_ns (by simp) | exact congrArg (fun x => some (AO.blk (.stringIter _ x))) (by omega)) (trivial)))))))
          rintro κ _ ⟨i, hi, hf, hlz, rfl, rfl⟩
          refine awp_seq fun K12 hK12 => ?_
          refine awp_region rfl ?_
          refine o_lss (a := (((i : Nat) : Int))) (c := (K)) Gd.none rfl rfl ?_
          refine aops_end ?_
          refine hK12 _ ?_
          refine awp_seq fun K13 hK13 => ?_
          refine awp_condQ (q := (((i : Nat) : Int)) < (K)) rfl (fun h5 => ?_) (fun h5 => ?_)
          · refine awp_skip ?_
            refine hK13 _ ?_
            refine awp_seq fun K14 hK14 => ?_
            refine awp_block ?_
            refine awp_seq fun K15 hK15 => ?_
            refine awp_seq fun K16 hK16 => ?_
            refine awp_region rfl ?_
            refine o_loadA [(bp ((iterZ m i (numS a)) < 0)), (AV.sl 1 (ns .u32 (digs ((iterZ m i (numS a))).natAbs)))] Gd.none Xb_tA79 rfl rfl rfl rfl rfl ?_
            refine o_call [(AV.agg [(bp ((iterZ m i (numS a)) < 0)), (AV.sl 1 (ns .u32 (digs ((iterZ m i (numS a))).natAbs)))])] (nm .i64 (ndig ((iterZ m i (numS a))).natAbs)) Gd.none Xb_tC49 rfl (c_wDigits ((iterZ m i (numS a))) (by first | assumption | omega | (simp only [Int.natAbs_neg]; omega))) ?_
            refine n_gtr (ndig ((iterZ m i (numS a))).natAbs) (2000) Gd.none rfl rfl ?_
            refine aops_end ?_
            refine hK16 _ ?_
            refine awp_condQ (q := (2000) < (ndig ((iterZ m i (numS a))).natAbs)) rfl (fun h6 => ?_) (fun h6 => ?_)
            · refine awp_seq fun K17 hK17 => ?_
              refine awp_region rfl ?_
              refine o_assign (AV.lit (.slice none 0 0)) Gd.none rfl ?_
              refine o_assign (nm .i64 (3)) Gd.none rfl ?_
              refine aops_end ?_
              refine hK17 _ ?_
              refine awp_ret ?_
              refine post_ret ⟨[(AV.sl 1 (is .i64 ([]))), (nm .i64 (3))], And.intro (AV.le_nil' (by decide) (by first | rfl | simp [digs_zero, ns, is])) (And.intro (AV.le_refl _) (trivial)), rfl, ?_⟩
              have e := wordE_3 (m := m) (a := a) (K := K) ⟨hm', ha'⟩ (by omega) (fun hF => by have := hF i (by omega); unfold Fit at this; omega)
              exact tup_eq2 (congrArg (fun l => AV.sl 1 (is .i64 l)) e.2) (congrArg (nm _) e.1)
            · have hfi : Fit (iterZ m i (numS a)) := by unfold Fit; omega
              have hli := fit_len hfi
              have hln := step_len (z := (iterZ m i (numS a))) hM hli (by omega)
              refine awp_skip ?_
              refine hK15 _ ?_
              refine awp_seq fun K18 hK18 => ?_
              refine awp_region rfl ?_
              refine o_loadA [(AV.lit (.int .i64 (m.mod))), (AV.sl 1 (is .i64 (m.mul))), (AV.sl 1 (is .i64 (m.add)))] Gd.none Xb_tA24 rfl rfl rfl rfl rfl ?_
              refine o_loadA [(bp ((iterZ m i (numS a)) < 0)), (AV.sl 1 (ns .u32 (digs ((iterZ m i (numS a))).natAbs)))] Gd.none Xb_tA79 rfl rfl rfl rfl rfl ?_
              refine o_call [(AV.agg [(AV.lit (.int .i64 (m.mod))), (AV.sl 1 (is .i64 (m.mul))), (AV.sl 1 (is .i64 (m.add)))]), (AV.agg [(bp ((iterZ m i (numS a)) < 0)), (AV.sl 1 (ns .u32 (digs ((iterZ m i (numS a))).natAbs)))])] (AV.tup [(intW ((stepZ m (iterZ m i (numS a))))), (AV.lit (.int .i64 ((iterZ m i (numS a)) % m.mod)))]) Gd.none Xb_tC50 rfl (c_sNext m ((iterZ m i (numS a))) (by first | assumption | exact okM_iff.1 (by assumption)) (by first | assumption | omega | (simp only [Int.natAbs_neg]; omega))) ?_
              refine o_move (AV.tup [(intW ((stepZ m (iterZ m i (numS a))))), (AV.lit (.int .i64 ((iterZ m i (numS a)) % m.mod)))]) Gd.none rfl ?_
              refine o_extract (intW ((stepZ m (iterZ m i (numS a))))) Gd.none rfl rfl ?_
              refine o_extract (AV.lit (.int .i64 ((iterZ m i (numS a)) % m.mod))) Gd.none rfl rfl ?_
              refine o_alloc 101 [(AV.lit (.bool false)), (AV.lit (.slice none 0 0))] Gd.none Xb_tO79 rfl rfl rfl ?_
              refine o_store [(101, (AO.var 79 [(bp ((stepZ m (iterZ m i (numS a))) < 0)), (AV.sl 1 (ns .u32 (digs ((stepZ m (iterZ m i (numS a)))).natAbs)))])), (2, (AO.var 24 [(AV.lit (.int .i64 (m.mod))), (AV.sl 1 (is .i64 (m.mul))), (AV.sl 1 (is .i64 (m.add)))])), (3, (AO.var 79 [(bp ((iterZ m i (numS a)) < 0)), (AV.sl 1 (ns .u32 (digs ((iterZ m i (numS a))).natAbs)))])), (50, (AO.row 3 1 (is .i64 (wordZ m (numS a) i))))] Gd.none Xb_tZ79 rfl rfl rfl rfl rfl rfl ?_
              refine o_assign (AV.lit (.int .i64 ((iterZ m i (numS a)) % m.mod))) Gd.none rfl ?_
              refine aops_end ?_
              refine hK18 _ ?_
              refine awp_seq fun K19 hK19 => ?_
              refine awp_region rfl ?_
              refine o_move (AV.row 50) Gd.none rfl ?_
              refine o_move (AV.lit (.int .i64 ((iterZ m i (numS a)) % m.mod))) Gd.none rfl ?_
              refine o_buildSlice 102 (is .i64 ([(iterZ m i (numS a)) % m.mod])) [(0, [(AV.lit (.int .i64 ((iterZ m i (numS a)) % m.mod)))])] Gd.none Xb_tE22 rfl Xb_tO3 rfl rfl rfl rfl rfl rfl rfl ?_
              refine i_append 103 (wordZ m (numS a) i) ([(iterZ m i (numS a)) % m.mod]) [(102, (AO.row 3 1 (is .i64 ([(iterZ m i (numS a)) % m.mod])))), (101, (AO.var 79 [(bp ((stepZ m (iterZ m i (numS a))) < 0)), (AV.sl 1 (ns .u32 (digs ((stepZ m (iterZ m i (numS a)))).natAbs)))])), (2, (AO.var 24 [(AV.lit (.int .i64 (m.mod))), (AV.sl 1 (is .i64 (m.mul))), (AV.sl 1 (is .i64 (m.add)))])), (3, (AO.var 79 [(bp ((iterZ m i (numS a)) < 0)), (AV.sl 1 (ns .u32 (digs ((iterZ m i (numS a))).natAbs)))]))] Gd.none Xb_tE22 Xb_tO3 rfl rfl rfl rfl rfl (by simp only [wordZ_len, List.length_cons, List.length_nil]; omega) (by decide) rfl rfl ?_
              refine o_assign (AV.row 103) Gd.none rfl ?_
              refine aops_end ?_
              refine hK19 _ ?_
              refine awp_region rfl ?_
              refine o_loadA [(bp ((stepZ m (iterZ m i (numS a))) < 0)), (AV.sl 1 (ns .u32 (digs ((stepZ m (iterZ m i (numS a)))).natAbs)))] Gd.none Xb_tA79 rfl rfl rfl rfl rfl ?_
              refine o_store [(103, (AO.row 3 1 (is .i64 ((wordZ m (numS a) i) ++ ([(iterZ m i (numS a)) % m.mod]))))), (102, (AO.row 3 1 (is .i64 ([(iterZ m i (numS a)) % m.mod])))), (101, (AO.var 79 [(bp ((stepZ m (iterZ m i (numS a))) < 0)), (AV.sl 1 (ns .u32 (digs ((stepZ m (iterZ m i (numS a)))).natAbs)))])), (2, (AO.var 24 [(AV.lit (.int .i64 (m.mod))), (AV.sl 1 (is .i64 (m.mul))), (AV.sl 1 (is .i64 (m.add)))])), (3, (AO.var 79 [(bp ((stepZ m (iterZ m i (numS a))) < 0)), (AV.sl 1 (ns .u32 (digs ((stepZ m (iterZ m i (numS a)))).natAbs)))]))] Gd.none Xb_tZ79 rfl rfl rfl rfl rfl rfl ?_
              refine aops_end ?_
              refine hK14 _ ?_
              refine awp_region rfl ?_
              refine n_add (i) (1) Gd.none rfl rfl (by simp only [topOf]; omega) ?_
              refine o_move (nm .i64 ((i) + (1))) Gd.none rfl ?_
              refine aops_end ?_
              refine ⟨_, _, ?lt, ⟨i + 1, (by omega), (fitK_snoc hf hfi), (show (digs (stepZ m (iterZ m i (numS a))).natAbs).length ≤ 1000 by omega), rfl, rfl⟩, ?wk⟩
              case lt => omega
              case wk => exact Wk.trans (Wk.sub (σ' := ⟨[(3, (AV.ref 2 (0))), (8, (AV.row 103)), (9, (AV.ref 3 (0))), (30, (AV.lit (.int .i64 (K)))), (31, (nm .i64 ((i) + (1))))], [(2, (AO.var 24 [(AV.lit (.int .i64 (m.mod))), (AV.sl 1 (is .i64 (m.mul))), (AV.sl 1 (is .i64 (m.add)))])), (103, (AO.row 3 1 (is .i64 ((wordZ m (numS a) i) ++ ([(iterZ m i (numS a)) % m.mod]))))), (3, (AO.var 79 [(bp ((stepZ m (iterZ m i (numS a))) < 0)), (AV.sl 1 (ns .u32 (digs ((stepZ m (iterZ m i (numS a)))).natAbs)))]))]⟩) (And.intro rfl (And.intro rfl (And.intro rfl (And.intro rfl (And.intro rfl (trivial)))))) (And.intro rfl (And.intro rfl (And.intro rfl (trivial))))) (Wk.trans (Wk.ren (id := 103) (id' := 50) rfl) (Wk.sub (And.intro (by exact rfl) (And.intro (by first | rfl | (simp)) (And.intro (by exact rfl) (And.intro (by exact rfl) (And.intro (by first | rfl | exact congrArg (nm _) (by omega) | exact nm_int (by omega) | exact nm_int (by simp [IntKind.wrap, IntKind.bits, IntKind.signed]; omega)) (trivial)))))) (And.intro (by first | rfl | exact row_ns (by simp) | exact congrArg (fun x => some (AO.blk (.stringIter _ x))) (by omega)) (And.intro (by first | rfl | exact row_ns (by simp) | exact congrArg (fun x => some (AO.blk (.stringIter _ x))) (by omega)) (And.intro (by first | rfl | exact row_ns (by simp) | exact congrArg (fun x => some (AO.blk (.stringIter _ x))) (by omega)) (trivial))))))
          · refine awp_exit ?_
            refine hK10 _ ?_
            refine awp_seq fun K20 hK20 => ?_
            refine awp_region rfl ?_
            refine o_move (AV.row 50) Gd.none rfl ?_
            refine o_assign (AV.row 50) Gd.none rfl ?_
            refine o_assign (nm .i64 (0)) Gd.none rfl ?_
            refine aops_end ?_
            refine hK20 _ ?_
            refine awp_wk (σ' := ⟨[(6, (AV.row 50)), (7, (nm .i64 (0)))], [(50, (AO.row 3 1 (is .i64 (wordZ m (numS a) i))))]⟩) (Wk.sub (And.intro rfl (And.intro rfl (trivial))) (And.intro rfl (trivial))) ?_
            refine awp_wk (σ' := ⟨[(6, (AV.sl 1 (is .i64 (wordZ m (numS a) i)))), (7, (nm .i64 (0)))], []⟩) (Wk.freeze (id := 50) (e := 3) (sz := 1) (cs := (is .i64 (wordZ m (numS a) i))) rfl) ?_
            refine awp_ret ?_
            refine post_ret ⟨[(AV.sl 1 (is .i64 (wordZ m (numS a) i))), (nm .i64 (0))], And.intro (AV.le_refl _) (And.intro (AV.le_refl _) (trivial)), rfl, ?_⟩
            have e := wordE_0 (m := m) (a := a) (K := K) ⟨hm', ha'⟩ (by omega) (by rw [show K.toNat = i by omega]; exact hf); rw [show K.toNat = i by omega] at e
            exact tup_eq2 (congrArg (fun l => AV.sl 1 (is .i64 l)) e.2) (congrArg (nm _) e.1)

theorem c_oApply (l : LineS) (a : ByteArray) (h1m : l.mul.size ≤ 9223372036854775807) (h2m : l.add.size ≤ 9223372036854775807) (h3m : l.div.size ≤ 9223372036854775807) (ha : a.size ≤ 9223372036854775807) : ECalls cx 28 [(AV.agg [(AV.lit (.string ((l).mul))), (AV.lit (.string ((l).add))), (AV.lit (.string ((l).div)))]), (AV.lit (.string (a)))] (.tup [.lit (.string (appS l a)), bp (AppB l a), nm .i64 (appE l a)]) := by
  refine ecalls_of_awp Tryd.func28 (c := _) rfl (Nat.le_of_ble_eq_true rfl) ?_
  show awp cx 66 _ (postF cx Tryd.f28 _) ⟨[(0, (AV.agg [(AV.lit (.string ((l).mul))), (AV.lit (.string ((l).add))), (AV.lit (.string ((l).div)))])), (1, (AV.lit (.string (a))))], []⟩
  refine awp_seq fun K0 hK0 => ?_
  refine awp_region rfl ?_
  refine o_box 2 [(AV.lit (.string ((l).mul))), (AV.lit (.string ((l).add))), (AV.lit (.string ((l).div)))] Gd.none rfl rfl ?_
  refine o_assign (AV.lit (.string (({data := #[]} : ByteArray)))) Gd.none rfl ?_
  refine o_assign (AV.lit (.bool false)) Gd.none rfl ?_
  refine o_assign (nm .i64 (0)) Gd.none rfl ?_
  refine aops_end ?_
  refine hK0 _ ?_
  refine awp_seq fun K1 hK1 => ?_
  refine awp_seq fun K2 hK2 => ?_
  refine awp_region rfl ?_
  refine o_fieldRef 0 Gd.none Xb_tF41_0 rfl rfl ?_
  refine o_loadS (AV.lit (.string ((l).mul))) Gd.none Xb_tS9 rfl rfl rfl ?_
  refine o_call [(AV.lit (.string ((l).mul)))] (AV.lit (.bool (okS ((l).mul)))) Gd.none Xb_tC47 rfl (c_nValid ((l).mul) (by first | assumption | decide | omega)) ?_
  refine o_not (b := okS ((l).mul)) Gd.none rfl ?_
  refine o_move (AV.lit (.bool (!(okS ((l).mul))))) Gd.none rfl ?_
  refine o_split (b := !(okS ((l).mul))) 15 rfl (fun h1 => ?_) (fun h1 => ?_)
  · have k1 : okS l.mul = false := by simpa using h1
    refine o_skip (b := !(okS ((l).mul))) rfl rfl h1 ?_
    refine o_skip (b := !(okS ((l).mul))) rfl rfl h1 ?_
    refine o_skip (b := !(okS ((l).mul))) rfl rfl h1 ?_
    refine o_skip (b := !(okS ((l).mul))) rfl rfl h1 ?_
    refine o_pickT (b := !(okS ((l).mul))) (AV.lit (.bool true)) Gd.none rfl h1 rfl ?_
    refine o_move (AV.lit (.bool true)) Gd.none rfl ?_
    refine o_skip (b := true) rfl rfl rfl ?_
    refine o_skip (b := true) rfl rfl rfl ?_
    refine o_skip (b := true) rfl rfl rfl ?_
    refine o_skip (b := true) rfl rfl rfl ?_
    refine o_pickT (b := true) (AV.lit (.bool true)) Gd.none rfl rfl rfl ?_
    refine o_move (AV.lit (.bool true)) Gd.none rfl ?_
    refine o_skip (b := true) rfl rfl rfl ?_
    refine o_skip (b := true) rfl rfl rfl ?_
    refine o_skip (b := true) rfl rfl rfl ?_
    refine o_pickT (b := true) (AV.lit (.bool true)) Gd.none rfl rfl rfl ?_
    refine aops_end ?_
    refine hK2 _ ?_
    refine awp_condB (b := true) rfl (fun _ => ?_) (fun hh => absurd (hh.symm.trans rfl) (by decide))
    refine awp_seq fun K3 hK3 => ?_
    refine awp_region rfl ?_
    refine o_assign (AV.lit (.string (({data := #[]} : ByteArray)))) Gd.none rfl ?_
    refine o_assign (AV.lit (.bool false)) Gd.none rfl ?_
    refine o_assign (nm .i64 (1)) Gd.none rfl ?_
    refine aops_end ?_
    refine hK3 _ ?_
    refine awp_ret ?_
    refine post_ret ⟨[(AV.lit (.string (({data := #[]} : ByteArray)))), (AV.lit (.bool false)), (nm .i64 (1))], And.intro (AV.le_refl _) (And.intro (AV.le_refl _) (And.intro (AV.le_refl _) (trivial))), rfl, ?_⟩
    have e := app_1 (l := l) (a := a) (fun e => by have := e.1; unfold okL at this; rw [k1] at this; simp at this)
    exact tup_eq3 (str_as e.2.2) (bp_no e.2.1) (congrArg (nm _) e.1)
  · have k1 : okS l.mul = true := by simpa using h1
    refine o_fieldRef 1 (Gd.yes rfl rfl h1) Xb_tF41_1 rfl rfl ?_
    refine o_loadS (AV.lit (.string ((l).add))) (Gd.yes rfl rfl h1) Xb_tS9 rfl rfl rfl ?_
    refine o_call [(AV.lit (.string ((l).add)))] (AV.lit (.bool (okS ((l).add)))) (Gd.yes rfl rfl h1) Xb_tC47 rfl (c_nValid ((l).add) (by first | assumption | decide | omega)) ?_
    refine o_not (b := okS ((l).add)) (Gd.yes rfl rfl h1) rfl ?_
    refine o_pickF (b := !(okS ((l).mul))) (AV.lit (.bool (!(okS ((l).add))))) Gd.none rfl h1 rfl ?_
    refine o_move (AV.lit (.bool (!(okS ((l).add))))) Gd.none rfl ?_
    refine o_split (b := !(okS ((l).add))) 21 rfl (fun h2 => ?_) (fun h2 => ?_)
    · have k2 : okS l.add = false := by simpa using h2
      refine o_skip (b := !(okS ((l).add))) rfl rfl h2 ?_
      refine o_skip (b := !(okS ((l).add))) rfl rfl h2 ?_
      refine o_skip (b := !(okS ((l).add))) rfl rfl h2 ?_
      refine o_skip (b := !(okS ((l).add))) rfl rfl h2 ?_
      refine o_pickT (b := !(okS ((l).add))) (AV.lit (.bool true)) Gd.none rfl h2 rfl ?_
      refine o_move (AV.lit (.bool true)) Gd.none rfl ?_
      refine o_skip (b := true) rfl rfl rfl ?_
      refine o_skip (b := true) rfl rfl rfl ?_
      refine o_skip (b := true) rfl rfl rfl ?_
      refine o_pickT (b := true) (AV.lit (.bool true)) Gd.none rfl rfl rfl ?_
      refine aops_end ?_
      refine hK2 _ ?_
      refine awp_condB (b := true) rfl (fun _ => ?_) (fun hh => absurd (hh.symm.trans rfl) (by decide))
      refine awp_seq fun K4 hK4 => ?_
      refine awp_region rfl ?_
      refine o_assign (AV.lit (.string (({data := #[]} : ByteArray)))) Gd.none rfl ?_
      refine o_assign (AV.lit (.bool false)) Gd.none rfl ?_
      refine o_assign (nm .i64 (1)) Gd.none rfl ?_
      refine aops_end ?_
      refine hK4 _ ?_
      refine awp_ret ?_
      refine post_ret ⟨[(AV.lit (.string (({data := #[]} : ByteArray)))), (AV.lit (.bool false)), (nm .i64 (1))], And.intro (AV.le_refl _) (And.intro (AV.le_refl _) (And.intro (AV.le_refl _) (trivial))), rfl, ?_⟩
      have e := app_1 (l := l) (a := a) (fun e => by have := e.1; unfold okL at this; rw [k2] at this; simp at this)
      exact tup_eq3 (str_as e.2.2) (bp_no e.2.1) (congrArg (nm _) e.1)
    · have k2 : okS l.add = true := by simpa using h2
      refine o_fieldRef 2 (Gd.yes rfl rfl h2) Xb_tF41_2 rfl rfl ?_
      refine o_loadS (AV.lit (.string ((l).div))) (Gd.yes rfl rfl h2) Xb_tS9 rfl rfl rfl ?_
      refine o_call [(AV.lit (.string ((l).div)))] (AV.lit (.bool (okS ((l).div)))) (Gd.yes rfl rfl h2) Xb_tC47 rfl (c_nValid ((l).div) (by first | assumption | decide | omega)) ?_
      refine o_not (b := okS ((l).div)) (Gd.yes rfl rfl h2) rfl ?_
      refine o_pickF (b := !(okS ((l).add))) (AV.lit (.bool (!(okS ((l).div))))) Gd.none rfl h2 rfl ?_
      refine o_move (AV.lit (.bool (!(okS ((l).div))))) Gd.none rfl ?_
      refine o_split (b := !(okS ((l).div))) 27 rfl (fun h3 => ?_) (fun h3 => ?_)
      · have k3 : okS l.div = false := by simpa using h3
        refine o_skip (b := !(okS ((l).div))) rfl rfl h3 ?_
        refine o_skip (b := !(okS ((l).div))) rfl rfl h3 ?_
        refine o_skip (b := !(okS ((l).div))) rfl rfl h3 ?_
        refine o_pickT (b := !(okS ((l).div))) (AV.lit (.bool true)) Gd.none rfl h3 rfl ?_
        refine aops_end ?_
        refine hK2 _ ?_
        refine awp_condB (b := true) rfl (fun _ => ?_) (fun hh => absurd (hh.symm.trans rfl) (by decide))
        refine awp_seq fun K5 hK5 => ?_
        refine awp_region rfl ?_
        refine o_assign (AV.lit (.string (({data := #[]} : ByteArray)))) Gd.none rfl ?_
        refine o_assign (AV.lit (.bool false)) Gd.none rfl ?_
        refine o_assign (nm .i64 (1)) Gd.none rfl ?_
        refine aops_end ?_
        refine hK5 _ ?_
        refine awp_ret ?_
        refine post_ret ⟨[(AV.lit (.string (({data := #[]} : ByteArray)))), (AV.lit (.bool false)), (nm .i64 (1))], And.intro (AV.le_refl _) (And.intro (AV.le_refl _) (And.intro (AV.le_refl _) (trivial))), rfl, ?_⟩
        have e := app_1 (l := l) (a := a) (fun e => by have := e.1; unfold okL at this; rw [k3] at this; simp at this)
        exact tup_eq3 (str_as e.2.2) (bp_no e.2.1) (congrArg (nm _) e.1)
      · have k3 : okS l.div = true := by simpa using h3
        refine o_move (AV.lit (.string (a))) (Gd.yes rfl rfl h3) rfl ?_
        refine o_call [(AV.lit (.string (a)))] (AV.lit (.bool (okS (a)))) (Gd.yes rfl rfl h3) Xb_tC47 rfl (c_nValid (a) (by first | assumption | decide | omega)) ?_
        refine o_not (b := okS (a)) (Gd.yes rfl rfl h3) rfl ?_
        refine o_pickF (b := !(okS ((l).div))) (AV.lit (.bool (!(okS (a))))) Gd.none rfl h3 rfl ?_
        refine aops_end ?_
        refine hK2 _ ?_
        refine awp_condB (b := !(okS (a))) rfl (fun h4 => ?_) (fun h4 => ?_)
        · have k4 : okS a = false := by simpa using h4
          refine awp_seq fun K6 hK6 => ?_
          refine awp_region rfl ?_
          refine o_assign (AV.lit (.string (({data := #[]} : ByteArray)))) Gd.none rfl ?_
          refine o_assign (AV.lit (.bool false)) Gd.none rfl ?_
          refine o_assign (nm .i64 (1)) Gd.none rfl ?_
          refine aops_end ?_
          refine hK6 _ ?_
          refine awp_ret ?_
          refine post_ret ⟨[(AV.lit (.string (({data := #[]} : ByteArray)))), (AV.lit (.bool false)), (nm .i64 (1))], And.intro (AV.le_refl _) (And.intro (AV.le_refl _) (And.intro (AV.le_refl _) (trivial))), rfl, ?_⟩
          have e := app_1 (l := l) (a := a) (fun e => by rw [k4] at e; simp at e)
          exact tup_eq3 (str_as e.2.2) (bp_no e.2.1) (congrArg (nm _) e.1)
        · have k4 : okS a = true := by simpa using h4
          have ho : okL l = true ∧ okS a = true := ⟨by unfold okL; rw [k1, k2, k3]; rfl, k4⟩
          have s1 := len_numS (okS_iff.1 k1)
          have s2 := len_numS (okS_iff.1 k2)
          have s3 := len_numS (okS_iff.1 k3)
          have s4 := len_numS (okS_iff.1 k4)
          have hA := len_mulZ (numS l.mul) (numS a)
          have hB := len_addZ (numS l.mul * numS a) (numS l.add)
          refine awp_skip ?_
          refine hK1 _ ?_
          refine awp_seq fun K7 hK7 => ?_
          refine awp_seq fun K8 hK8 => ?_
          refine awp_region rfl ?_
          refine o_loadA [(AV.lit (.string ((l).mul))), (AV.lit (.string ((l).add))), (AV.lit (.string ((l).div)))] Gd.none Xb_tA41 rfl rfl rfl rfl rfl ?_
          refine o_build [(AV.lit (.string (({data := #[49]} : ByteArray)))), (AV.lit (.string (({data := #[48]} : ByteArray)))), (AV.lit (.string (({data := #[49]} : ByteArray))))] [(0, [(AV.lit (.string (({data := #[49]} : ByteArray))))]), (1, [(AV.lit (.string (({data := #[48]} : ByteArray))))]), (2, [(AV.lit (.string (({data := #[49]} : ByteArray))))])] Gd.none Xb_tP41 Xb_tO41 rfl rfl rfl ?_
          refine o_eqlA [.string ((l).mul), .string ((l).add), .string ((l).div)] [.string (({data := #[49]} : ByteArray)), .string (({data := #[48]} : ByteArray)), .string (({data := #[49]} : ByteArray))] (((l).mul) = (({data := #[49]} : ByteArray)) ∧ ((l).add) = (({data := #[48]} : ByteArray)) ∧ ((l).div) = (({data := #[49]} : ByteArray))) Gd.none rfl rfl (eq_api_Line _ _ _ _ _ _) ?_
          refine aops_end ?_
          refine hK8 _ ?_
          refine awp_condQ (q := ((l).mul) = (({data := #[49]} : ByteArray)) ∧ ((l).add) = (({data := #[48]} : ByteArray)) ∧ ((l).div) = (({data := #[49]} : ByteArray))) rfl (fun h5 => ?_) (fun h5 => ?_)
          · refine awp_seq fun K9 hK9 => ?_
            refine awp_region rfl ?_
            refine o_move (AV.lit (.string (a))) Gd.none rfl ?_
            refine o_assign (AV.lit (.string (a))) Gd.none rfl ?_
            refine o_assign (AV.lit (.bool true)) Gd.none rfl ?_
            refine o_assign (nm .i64 (0)) Gd.none rfl ?_
            refine aops_end ?_
            refine hK9 _ ?_
            refine awp_ret ?_
            refine post_ret ⟨[(AV.lit (.string (a))), (AV.lit (.bool true)), (nm .i64 (0))], And.intro (AV.le_refl _) (And.intro (AV.le_refl _) (And.intro (AV.le_refl _) (trivial))), rfl, ?_⟩
            have e := app_one ho h5.1 h5.2.1 h5.2.2
            exact tup_eq3 (str_as e.2.2) (bp_yes e.2.1) (congrArg (nm _) e.1)
          · refine awp_skip ?_
            refine hK7 _ ?_
            refine awp_seq fun K10 hK10 => ?_
            refine awp_region rfl ?_
            refine o_fieldRef 2 Gd.none Xb_tF41_2 rfl rfl ?_
            refine o_loadS (AV.lit (.string ((l).div))) Gd.none Xb_tS9 rfl rfl rfl ?_
            refine o_call [(AV.lit (.string ((l).div)))] (intW ((numS ((l).div)))) Gd.none Xb_tC48 rfl (c_wParse ((l).div) (by first | assumption | exact okS_iff.1 (by assumption))) ?_
            refine o_alloc 3 [(AV.lit (.bool false)), (AV.lit (.slice none 0 0))] Gd.none Xb_tO79 rfl rfl rfl ?_
            refine o_store [(3, (AO.var 79 [(bp ((numS ((l).div)) < 0)), (AV.sl 1 (ns .u32 (digs ((numS ((l).div))).natAbs)))])), (2, (AO.var 41 [(AV.lit (.string ((l).mul))), (AV.lit (.string ((l).add))), (AV.lit (.string ((l).div)))]))] Gd.none Xb_tZ79 rfl rfl rfl rfl rfl rfl ?_
            refine aops_end ?_
            refine hK10 _ ?_
            refine awp_seq fun K11 hK11 => ?_
            refine awp_seq fun K12 hK12 => ?_
            refine awp_region rfl ?_
            refine o_loadA [(bp ((numS ((l).div)) < 0)), (AV.sl 1 (ns .u32 (digs ((numS ((l).div))).natAbs)))] Gd.none Xb_tA79 rfl rfl rfl rfl rfl ?_
            refine o_call [(AV.agg [(bp ((numS ((l).div)) < 0)), (AV.sl 1 (ns .u32 (digs ((numS ((l).div))).natAbs)))])] (AV.lit (.int .i64 (sgn ((numS ((l).div)))))) Gd.none Xb_tC68 rfl (c_wSign ((numS ((l).div)))) ?_
            refine o_leq (a := (sgn ((numS ((l).div))))) (c := (((0 : Nat) : Int))) Gd.none rfl rfl ?_
            refine aops_end ?_
            refine hK12 _ ?_
            refine awp_condQ (q := (sgn ((numS ((l).div)))) ≤ (((0 : Nat) : Int))) rfl (fun h6 => ?_) (fun h6 => ?_)
            · have hd : ¬ 0 < numS l.div := by have := sgn_le.1 h6; omega
              refine awp_seq fun K13 hK13 => ?_
              refine awp_region rfl ?_
              refine o_assign (AV.lit (.string (({data := #[]} : ByteArray)))) Gd.none rfl ?_
              refine o_assign (AV.lit (.bool false)) Gd.none rfl ?_
              refine o_assign (nm .i64 (2)) Gd.none rfl ?_
              refine aops_end ?_
              refine hK13 _ ?_
              refine awp_ret ?_
              refine post_ret ⟨[(AV.lit (.string (({data := #[]} : ByteArray)))), (AV.lit (.bool false)), (nm .i64 (2))], And.intro (AV.le_refl _) (And.intro (AV.le_refl _) (And.intro (AV.le_refl _) (trivial))), rfl, ?_⟩
              have e := app_2 ho hd
              exact tup_eq3 (str_as e.2.2) (bp_no e.2.1) (congrArg (nm _) e.1)
            · have hd : 0 < numS l.div := by rcases Int.lt_or_le 0 (numS l.div) with e | e; exact e; exact absurd (sgn_le.2 e) h6
              have hE := len_ediv (numS l.mul * numS a + numS l.add) hd
              refine awp_skip ?_
              refine hK11 _ ?_
              refine awp_seq fun K14 hK14 => ?_
              refine awp_regionD rfl ?_
              refine o_fieldRef 0 Gd.none Xb_tF41_0 rfl rfl ?_
              refine o_loadS (AV.lit (.string ((l).mul))) Gd.none Xb_tS9 rfl rfl rfl ?_
              refine o_call [(AV.lit (.string ((l).mul)))] (intW ((numS ((l).mul)))) Gd.none Xb_tC48 rfl (c_wParse ((l).mul) (by first | assumption | exact okS_iff.1 (by assumption))) ?_
              refine o_move (AV.lit (.string (a))) Gd.none rfl ?_
              refine o_call [(AV.lit (.string (a)))] (intW ((numS (a)))) Gd.none Xb_tC48 rfl (c_wParse (a) (by first | assumption | exact okS_iff.1 (by assumption))) ?_
              refine o_call [(intW ((numS ((l).mul)))), (intW ((numS (a))))] (intW (((numS ((l).mul)) * (numS (a))))) Gd.none Xb_tC60 rfl (c_wMul ((numS ((l).mul))) ((numS (a))) (by first | assumption | omega | (simp only [Int.natAbs_neg]; omega)) (by first | assumption | omega | (simp only [Int.natAbs_neg]; omega))) ?_
              refine o_fieldRef 1 Gd.none Xb_tF41_1 rfl rfl ?_
              refine o_loadS (AV.lit (.string ((l).add))) Gd.none Xb_tS9 rfl rfl rfl ?_
              refine o_call [(AV.lit (.string ((l).add)))] (intW ((numS ((l).add)))) Gd.none Xb_tC48 rfl (c_wParse ((l).add) (by first | assumption | exact okS_iff.1 (by assumption))) ?_
              refine o_call [(intW (((numS ((l).mul)) * (numS (a))))), (intW ((numS ((l).add))))] (intW ((((numS ((l).mul)) * (numS (a))) + (numS ((l).add))))) Gd.none Xb_tC61 rfl (c_wAdd (((numS ((l).mul)) * (numS (a)))) ((numS ((l).add))) (by first | assumption | omega | (simp only [Int.natAbs_neg]; omega)) (by first | assumption | omega | (simp only [Int.natAbs_neg]; omega))) ?_
              refine o_alloc 4 [(AV.lit (.bool false)), (AV.lit (.slice none 0 0))] Gd.none Xb_tO79 rfl rfl rfl ?_
              refine o_store [(4, (AO.var 79 [(bp ((((numS ((l).mul)) * (numS (a))) + (numS ((l).add))) < 0)), (AV.sl 1 (ns .u32 (digs ((((numS ((l).mul)) * (numS (a))) + (numS ((l).add)))).natAbs)))])), (3, (AO.var 79 [(bp ((numS ((l).div)) < 0)), (AV.sl 1 (ns .u32 (digs ((numS ((l).div))).natAbs)))])), (2, (AO.var 41 [(AV.lit (.string ((l).mul))), (AV.lit (.string ((l).add))), (AV.lit (.string ((l).div)))]))] Gd.none Xb_tZ79 rfl rfl rfl rfl rfl rfl ?_
              refine aops_end ⟨by kernel_rfl, ?_⟩
              refine hK14 _ ?_
              refine awp_seq fun K15 hK15 => ?_
              refine awp_seq fun K16 hK16 => ?_
              refine awp_region rfl ?_
              refine o_loadA [(bp ((((numS ((l).mul)) * (numS (a))) + (numS ((l).add))) < 0)), (AV.sl 1 (ns .u32 (digs ((((numS ((l).mul)) * (numS (a))) + (numS ((l).add)))).natAbs)))] Gd.none Xb_tA79 rfl rfl rfl rfl rfl ?_
              refine o_call [(AV.agg [(bp ((((numS ((l).mul)) * (numS (a))) + (numS ((l).add))) < 0)), (AV.sl 1 (ns .u32 (digs ((((numS ((l).mul)) * (numS (a))) + (numS ((l).add)))).natAbs)))])] (nm .i64 (ndig ((((numS ((l).mul)) * (numS (a))) + (numS ((l).add)))).natAbs)) Gd.none Xb_tC49 rfl (c_wDigits ((((numS ((l).mul)) * (numS (a))) + (numS ((l).add)))) (by first | assumption | omega | (simp only [Int.natAbs_neg]; omega))) ?_
              refine n_gtr (ndig ((((numS ((l).mul)) * (numS (a))) + (numS ((l).add)))).natAbs) (2000) Gd.none rfl rfl ?_
              refine aops_end ?_
              refine hK16 _ ?_
              refine awp_condQ (q := (2000) < (ndig ((((numS ((l).mul)) * (numS (a))) + (numS ((l).add)))).natAbs)) rfl (fun h7 => ?_) (fun h7 => ?_)
              · have hf : ¬ Fit (appV l a) := by unfold Fit appV; omega
                refine awp_seq fun K17 hK17 => ?_
                refine awp_region rfl ?_
                refine o_assign (AV.lit (.string (({data := #[]} : ByteArray)))) Gd.none rfl ?_
                refine o_assign (AV.lit (.bool false)) Gd.none rfl ?_
                refine o_assign (nm .i64 (3)) Gd.none rfl ?_
                refine aops_end ?_
                refine hK17 _ ?_
                refine awp_ret ?_
                refine post_ret ⟨[(AV.lit (.string (({data := #[]} : ByteArray)))), (AV.lit (.bool false)), (nm .i64 (3))], And.intro (AV.le_refl _) (And.intro (AV.le_refl _) (And.intro (AV.le_refl _) (trivial))), rfl, ?_⟩
                have e := app_3 ho hd hf
                exact tup_eq3 (str_as e.2.2) (bp_no e.2.1) (congrArg (nm _) e.1)
              · have hf : Fit (appV l a) := by unfold Fit appV; omega
                refine awp_skip ?_
                refine hK15 _ ?_
                refine awp_seq fun K18 hK18 => ?_
                refine awp_region rfl ?_
                refine o_loadA [(bp ((((numS ((l).mul)) * (numS (a))) + (numS ((l).add))) < 0)), (AV.sl 1 (ns .u32 (digs ((((numS ((l).mul)) * (numS (a))) + (numS ((l).add)))).natAbs)))] Gd.none Xb_tA79 rfl rfl rfl rfl rfl ?_
                refine o_loadA [(bp ((numS ((l).div)) < 0)), (AV.sl 1 (ns .u32 (digs ((numS ((l).div))).natAbs)))] Gd.none Xb_tA79 rfl rfl rfl rfl rfl ?_
                refine o_call [(AV.agg [(bp ((((numS ((l).mul)) * (numS (a))) + (numS ((l).add))) < 0)), (AV.sl 1 (ns .u32 (digs ((((numS ((l).mul)) * (numS (a))) + (numS ((l).add)))).natAbs)))]), (AV.agg [(bp ((numS ((l).div)) < 0)), (AV.sl 1 (ns .u32 (digs ((numS ((l).div))).natAbs)))])] (AV.tup [(intW (((((numS ((l).mul)) * (numS (a))) + (numS ((l).add))) / (numS ((l).div))))), (intW (((((numS ((l).mul)) * (numS (a))) + (numS ((l).add))) % (numS ((l).div)))))]) Gd.none Xb_tC62 rfl (c_wDivide ((((numS ((l).mul)) * (numS (a))) + (numS ((l).add)))) ((numS ((l).div))) (by omega) (by omega) (by omega)) ?_
                refine o_move (AV.tup [(intW (((((numS ((l).mul)) * (numS (a))) + (numS ((l).add))) / (numS ((l).div))))), (intW (((((numS ((l).mul)) * (numS (a))) + (numS ((l).add))) % (numS ((l).div)))))]) Gd.none rfl ?_
                refine o_extract (intW (((((numS ((l).mul)) * (numS (a))) + (numS ((l).add))) / (numS ((l).div))))) Gd.none rfl rfl ?_
                refine o_extract (intW (((((numS ((l).mul)) * (numS (a))) + (numS ((l).add))) % (numS ((l).div))))) Gd.none rfl rfl ?_
                refine o_alloc 5 [(AV.lit (.bool false)), (AV.lit (.slice none 0 0))] Gd.none Xb_tO79 rfl rfl rfl ?_
                refine o_alloc 6 [(AV.lit (.bool false)), (AV.lit (.slice none 0 0))] Gd.none Xb_tO79 rfl rfl rfl ?_
                refine o_store [(6, (AO.var 79 [(AV.lit (.bool false)), (AV.lit (.slice none 0 0))])), (5, (AO.var 79 [(bp (((((numS ((l).mul)) * (numS (a))) + (numS ((l).add))) / (numS ((l).div))) < 0)), (AV.sl 1 (ns .u32 (digs (((((numS ((l).mul)) * (numS (a))) + (numS ((l).add))) / (numS ((l).div)))).natAbs)))])), (4, (AO.var 79 [(bp ((((numS ((l).mul)) * (numS (a))) + (numS ((l).add))) < 0)), (AV.sl 1 (ns .u32 (digs ((((numS ((l).mul)) * (numS (a))) + (numS ((l).add)))).natAbs)))])), (3, (AO.var 79 [(bp ((numS ((l).div)) < 0)), (AV.sl 1 (ns .u32 (digs ((numS ((l).div))).natAbs)))])), (2, (AO.var 41 [(AV.lit (.string ((l).mul))), (AV.lit (.string ((l).add))), (AV.lit (.string ((l).div)))]))] Gd.none Xb_tZ79 rfl rfl rfl rfl rfl rfl ?_
                refine o_store [(6, (AO.var 79 [(bp (((((numS ((l).mul)) * (numS (a))) + (numS ((l).add))) % (numS ((l).div))) < 0)), (AV.sl 1 (ns .u32 (digs (((((numS ((l).mul)) * (numS (a))) + (numS ((l).add))) % (numS ((l).div)))).natAbs)))])), (5, (AO.var 79 [(bp (((((numS ((l).mul)) * (numS (a))) + (numS ((l).add))) / (numS ((l).div))) < 0)), (AV.sl 1 (ns .u32 (digs (((((numS ((l).mul)) * (numS (a))) + (numS ((l).add))) / (numS ((l).div)))).natAbs)))])), (4, (AO.var 79 [(bp ((((numS ((l).mul)) * (numS (a))) + (numS ((l).add))) < 0)), (AV.sl 1 (ns .u32 (digs ((((numS ((l).mul)) * (numS (a))) + (numS ((l).add)))).natAbs)))])), (3, (AO.var 79 [(bp ((numS ((l).div)) < 0)), (AV.sl 1 (ns .u32 (digs ((numS ((l).div))).natAbs)))])), (2, (AO.var 41 [(AV.lit (.string ((l).mul))), (AV.lit (.string ((l).add))), (AV.lit (.string ((l).div)))]))] Gd.none Xb_tZ79 rfl rfl rfl rfl rfl rfl ?_
                refine aops_end ?_
                refine hK18 _ ?_
                refine awp_seq fun K19 hK19 => ?_
                refine awp_seq fun K20 hK20 => ?_
                refine awp_region rfl ?_
                refine o_loadA [(bp (((((numS ((l).mul)) * (numS (a))) + (numS ((l).add))) % (numS ((l).div))) < 0)), (AV.sl 1 (ns .u32 (digs (((((numS ((l).mul)) * (numS (a))) + (numS ((l).add))) % (numS ((l).div)))).natAbs)))] Gd.none Xb_tA79 rfl rfl rfl rfl rfl ?_
                refine o_call [(AV.agg [(bp (((((numS ((l).mul)) * (numS (a))) + (numS ((l).add))) % (numS ((l).div))) < 0)), (AV.sl 1 (ns .u32 (digs (((((numS ((l).mul)) * (numS (a))) + (numS ((l).add))) % (numS ((l).div)))).natAbs)))])] (AV.lit (.int .i64 (sgn (((((numS ((l).mul)) * (numS (a))) + (numS ((l).add))) % (numS ((l).div))))))) Gd.none Xb_tC68 rfl (c_wSign (((((numS ((l).mul)) * (numS (a))) + (numS ((l).add))) % (numS ((l).div))))) ?_
                refine o_neq (a := (sgn (((((numS ((l).mul)) * (numS (a))) + (numS ((l).add))) % (numS ((l).div)))))) (c := (((0 : Nat) : Int))) Gd.none rfl rfl ?_
                refine aops_end ?_
                refine hK20 _ ?_
                refine awp_condQ (q := (sgn (((((numS ((l).mul)) * (numS (a))) + (numS ((l).add))) % (numS ((l).div))))) ≠ (((0 : Nat) : Int))) rfl (fun h8 => ?_) (fun h8 => ?_)
                · have hr : ¬ appV l a % numS l.div = 0 := fun e => h8 (sgn_z0.2 e)
                  refine awp_seq fun K21 hK21 => ?_
                  refine awp_region rfl ?_
                  refine o_assign (AV.lit (.string (({data := #[]} : ByteArray)))) Gd.none rfl ?_
                  refine o_assign (AV.lit (.bool false)) Gd.none rfl ?_
                  refine o_assign (nm .i64 (0)) Gd.none rfl ?_
                  refine aops_end ?_
                  refine hK21 _ ?_
                  refine awp_ret ?_
                  refine post_ret ⟨[(AV.lit (.string (({data := #[]} : ByteArray)))), (AV.lit (.bool false)), (nm .i64 (0))], And.intro (AV.le_refl _) (And.intro (AV.le_refl _) (And.intro (AV.le_refl _) (trivial))), rfl, ?_⟩
                  have e := app_no ho hd hf hr
                  exact tup_eq3 (str_as e.2.2) (bp_no e.2.1) (congrArg (nm _) e.1)
                · have hr : appV l a % numS l.div = 0 := sgn_z0.1 (Decidable.not_not.1 h8)
                  refine awp_skip ?_
                  refine hK19 _ ?_
                  refine awp_seq fun K22 hK22 => ?_
                  refine awp_region rfl ?_
                  refine o_loadA [(bp (((((numS ((l).mul)) * (numS (a))) + (numS ((l).add))) / (numS ((l).div))) < 0)), (AV.sl 1 (ns .u32 (digs (((((numS ((l).mul)) * (numS (a))) + (numS ((l).add))) / (numS ((l).div)))).natAbs)))] Gd.none Xb_tA79 rfl rfl rfl rfl rfl ?_
                  refine o_call [(AV.agg [(bp (((((numS ((l).mul)) * (numS (a))) + (numS ((l).add))) / (numS ((l).div))) < 0)), (AV.sl 1 (ns .u32 (digs (((((numS ((l).mul)) * (numS (a))) + (numS ((l).add))) / (numS ((l).div)))).natAbs)))])] (AV.lit (.string (txt (((((numS ((l).mul)) * (numS (a))) + (numS ((l).add))) / (numS ((l).div))))))) Gd.none Xb_tC64 rfl (c_wText (((((numS ((l).mul)) * (numS (a))) + (numS ((l).add))) / (numS ((l).div)))) (by first | assumption | omega | (simp only [Int.natAbs_neg]; omega))) ?_
                  refine o_assign (AV.lit (.string (txt (((((numS ((l).mul)) * (numS (a))) + (numS ((l).add))) / (numS ((l).div))))))) Gd.none rfl ?_
                  refine o_assign (AV.lit (.bool true)) Gd.none rfl ?_
                  refine o_assign (nm .i64 (0)) Gd.none rfl ?_
                  refine aops_end ?_
                  refine hK22 _ ?_
                  refine awp_ret ?_
                  refine post_ret ⟨[(AV.lit (.string (txt (((((numS ((l).mul)) * (numS (a))) + (numS ((l).add))) / (numS ((l).div))))))), (AV.lit (.bool true)), (nm .i64 (0))], And.intro (AV.le_refl _) (And.intro (AV.le_refl _) (And.intro (AV.le_refl _) (trivial))), rfl, ?_⟩
                  have e := app_yes ho hd hf hr
                  exact tup_eq3 (str_as e.2.2) (bp_yes e.2.1) (congrArg (nm _) e.1)

theorem c_oRest (m : MapM) (w : List Int) (hwl : w.length ≤ 17592186044416) : ECalls cx 21 [(mapV m), (AV.sl 1 (is .i64 (w)))] (.tup [.lit (.string (restS m w)), .lit (.string (restD m w)), nm .i64 (restE m w)]) := by
  refine ecalls_of_awp Tryd.func21 (c := _) rfl (Nat.le_of_ble_eq_true rfl) ?_
  show awp cx 84 _ (postF cx Tryd.f21 _) ⟨[(0, (mapV m)), (1, (AV.sl 1 (is .i64 (w))))], []⟩
  refine awp_seq fun K0 hK0 => ?_
  refine awp_region rfl ?_
  refine o_box 2 [(AV.lit (.int .i64 (m.mod))), (AV.sl 1 (is .i64 (m.mul))), (AV.sl 1 (is .i64 (m.add)))] Gd.none rfl rfl ?_
  refine o_assign (AV.lit (.string (({data := #[]} : ByteArray)))) Gd.none rfl ?_
  refine o_assign (AV.lit (.string (({data := #[]} : ByteArray)))) Gd.none rfl ?_
  refine o_assign (nm .i64 (0)) Gd.none rfl ?_
  refine aops_end ?_
  refine hK0 _ ?_
  refine awp_seq fun K1 hK1 => ?_
  refine awp_block ?_
  refine awp_seq fun K2 hK2 => ?_
  refine awp_region rfl ?_
  refine o_loadA [(AV.lit (.int .i64 (m.mod))), (AV.sl 1 (is .i64 (m.mul))), (AV.sl 1 (is .i64 (m.add)))] Gd.none Xb_tA24 rfl rfl rfl rfl rfl ?_
  refine o_call [(AV.agg [(AV.lit (.int .i64 (m.mod))), (AV.sl 1 (is .i64 (m.mul))), (AV.sl 1 (is .i64 (m.add)))])] (AV.lit (.bool (okM m))) Gd.none Xb_tC46 rfl (c_sValid m) ?_
  refine o_not (b := okM m) Gd.none rfl ?_
  refine o_assign (AV.lit (.bool (!(okM m)))) Gd.none rfl ?_
  refine aops_end ?_
  refine hK2 _ ?_
  refine awp_condB (b := !(okM m)) rfl (fun h1 => ?_) (fun h1 => ?_)
  · have hm' : ¬ okM m = true := by simpa using h1
    refine awp_seq fun K3 hK3 => ?_
    refine awp_region rfl ?_
    refine o_assign (AV.lit (.string (({data := #[]} : ByteArray)))) Gd.none rfl ?_
    refine o_assign (AV.lit (.string (({data := #[]} : ByteArray)))) Gd.none rfl ?_
    refine o_assign (nm .i64 (1)) Gd.none rfl ?_
    refine aops_end ?_
    refine hK3 _ ?_
    refine awp_ret ?_
    refine post_ret ⟨[(AV.lit (.string (({data := #[]} : ByteArray)))), (AV.lit (.string (({data := #[]} : ByteArray)))), (nm .i64 (1))], And.intro (AV.le_refl _) (And.intro (AV.le_refl _) (And.intro (AV.le_refl _) (trivial))), rfl, ?_⟩
    have e := rest_1 (m := m) (w := w) hm'
    exact tup_eq3 (str_as e.2.1) (str_as e.2.2) (congrArg (nm _) e.1)
  · have hm' : okM m = true := by simpa using h1
    have hM := okM_iff.1 hm'
    have hM2 := hM
    obtain ⟨o1, o2, o3, o4, o5⟩ := hM2
    refine awp_seq fun K4 hK4 => ?_
    refine awp_region rfl ?_
    refine o_loadA [(AV.lit (.int .i64 (m.mod))), (AV.sl 1 (is .i64 (m.mul))), (AV.sl 1 (is .i64 (m.add)))] Gd.none Xb_tA24 rfl rfl rfl rfl rfl ?_
    refine o_move (AV.sl 1 (is .i64 (w))) Gd.none rfl ?_
    refine o_call [(AV.agg [(AV.lit (.int .i64 (m.mod))), (AV.sl 1 (is .i64 (m.mul))), (AV.sl 1 (is .i64 (m.add)))]), (AV.sl 1 (is .i64 (w)))] (bp (OkW m (w))) Gd.none Xb_tC55 rfl (c_oIs m (w)) ?_
    refine o_notP (q := OkW m (w)) Gd.none rfl ?_
    refine o_move (bp (¬ (OkW m (w)))) Gd.none rfl ?_
    refine o_splitP (q := ¬ (OkW m (w))) 25 rfl (fun h2 => ?_) (fun h2 => ?_)
    · refine o_skip (b := decide (¬ (OkW m (w)))) rfl rfl (decide_eq_true h2) ?_
      refine o_skip (b := decide (¬ (OkW m (w)))) rfl rfl (decide_eq_true h2) ?_
      refine o_skip (b := decide (¬ (OkW m (w)))) rfl rfl (decide_eq_true h2) ?_
      refine o_pickT (b := decide (¬ (OkW m (w)))) (AV.lit (.bool true)) Gd.none rfl (decide_eq_true h2) rfl ?_
      refine o_assign (AV.lit (.bool true)) Gd.none rfl ?_
      refine aops_end ?_
      refine hK4 _ ?_
      refine awp_condB (b := true) rfl (fun _ => ?_) (fun hh => absurd (hh.symm.trans rfl) (by decide))
      refine awp_seq fun K5 hK5 => ?_
      refine awp_region rfl ?_
      refine o_assign (AV.lit (.string (({data := #[]} : ByteArray)))) Gd.none rfl ?_
      refine o_assign (AV.lit (.string (({data := #[]} : ByteArray)))) Gd.none rfl ?_
      refine o_assign (nm .i64 (2)) Gd.none rfl ?_
      refine aops_end ?_
      refine hK5 _ ?_
      refine awp_ret ?_
      refine post_ret ⟨[(AV.lit (.string (({data := #[]} : ByteArray)))), (AV.lit (.string (({data := #[]} : ByteArray)))), (nm .i64 (2))], And.intro (AV.le_refl _) (And.intro (AV.le_refl _) (And.intro (AV.le_refl _) (trivial))), rfl, ?_⟩
      have e := rest_2 (m := m) (w := w) hm' (fun e => h2 e.1)
      exact tup_eq3 (str_as e.2.1) (str_as e.2.2) (congrArg (nm _) e.1)
    · have hW : OkW m w := Decidable.not_not.1 h2
      have hWl := hW.2
      refine o_loadA [(AV.lit (.int .i64 (m.mod))), (AV.sl 1 (is .i64 (m.mul))), (AV.sl 1 (is .i64 (m.add)))] (Gd.yes rfl rfl (decide_eq_false h2)) Xb_tA24 rfl rfl rfl rfl rfl ?_
      refine o_call [(AV.agg [(AV.lit (.int .i64 (m.mod))), (AV.sl 1 (is .i64 (m.mul))), (AV.sl 1 (is .i64 (m.add)))])] (bp (freeM m)) (Gd.yes rfl rfl (decide_eq_false h2)) Xb_tC58 rfl (c_sFree m (by first | assumption | exact okM_iff.1 (by assumption))) ?_
      refine o_notP (q := freeM m) (Gd.yes rfl rfl (decide_eq_false h2)) rfl ?_
      refine o_pickF (b := decide (¬ (OkW m (w)))) (bp (¬ (freeM m))) Gd.none rfl (decide_eq_false h2) rfl ?_
      refine o_assign (bp (¬ (freeM m))) Gd.none rfl ?_
      refine aops_end ?_
      refine hK4 _ ?_
      refine awp_condQ (q := ¬ (freeM m)) rfl (fun h3 => ?_) (fun h3 => ?_)
      · refine awp_seq fun K6 hK6 => ?_
        refine awp_region rfl ?_
        refine o_assign (AV.lit (.string (({data := #[]} : ByteArray)))) Gd.none rfl ?_
        refine o_assign (AV.lit (.string (({data := #[]} : ByteArray)))) Gd.none rfl ?_
        refine o_assign (nm .i64 (2)) Gd.none rfl ?_
        refine aops_end ?_
        refine hK6 _ ?_
        refine awp_ret ?_
        refine post_ret ⟨[(AV.lit (.string (({data := #[]} : ByteArray)))), (AV.lit (.string (({data := #[]} : ByteArray)))), (nm .i64 (2))], And.intro (AV.le_refl _) (And.intro (AV.le_refl _) (And.intro (AV.le_refl _) (trivial))), rfl, ?_⟩
        have e := rest_2 (m := m) (w := w) hm' (fun e => h3 e.2)
        exact tup_eq3 (str_as e.2.1) (str_as e.2.2) (congrArg (nm _) e.1)
      · have hF : freeM m := Decidable.not_not.1 h3
        refine awp_skip ?_
        refine hK1 _ ?_
        refine awp_seq fun K7 hK7 => ?_
        refine awp_region rfl ?_
        refine o_call [(nm .i64 (0))] (intW ((0 : Int))) Gd.none Xb_tC59 rfl (c_wOf ((0 : Int)) (by first | decide | omega) (by first | decide | omega)) ?_
        refine o_call [(nm .i64 (1))] (intW ((1 : Int))) Gd.none Xb_tC59 rfl (c_wOf ((1 : Int)) (by first | decide | omega) (by first | decide | omega)) ?_
        refine o_alloc 3 [(AV.lit (.bool false)), (AV.lit (.slice none 0 0))] Gd.none Xb_tO79 rfl rfl rfl ?_
        refine o_alloc 4 [(AV.lit (.bool false)), (AV.lit (.slice none 0 0))] Gd.none Xb_tO79 rfl rfl rfl ?_
        refine o_store [(4, (AO.var 79 [(AV.lit (.bool false)), (AV.lit (.slice none 0 0))])), (3, (AO.var 79 [(bp ((0 : Int) < 0)), (AV.sl 1 (ns .u32 (digs ((0 : Int)).natAbs)))])), (2, (AO.var 24 [(AV.lit (.int .i64 (m.mod))), (AV.sl 1 (is .i64 (m.mul))), (AV.sl 1 (is .i64 (m.add)))]))] Gd.none Xb_tZ79 rfl rfl rfl rfl rfl rfl ?_
        refine o_store [(4, (AO.var 79 [(bp ((1 : Int) < 0)), (AV.sl 1 (ns .u32 (digs ((1 : Int)).natAbs)))])), (3, (AO.var 79 [(bp ((0 : Int) < 0)), (AV.sl 1 (ns .u32 (digs ((0 : Int)).natAbs)))])), (2, (AO.var 24 [(AV.lit (.int .i64 (m.mod))), (AV.sl 1 (is .i64 (m.mul))), (AV.sl 1 (is .i64 (m.add)))]))] Gd.none Xb_tZ79 rfl rfl rfl rfl rfl rfl ?_
        refine aops_end ?_
        refine hK7 _ ?_
        refine awp_seq fun K8 hK8 => ?_
        refine awp_seq fun K9 hK9 => ?_
        refine awp_region rfl ?_
        refine o_move (AV.sl 1 (is .i64 (w))) Gd.none rfl ?_
        refine i_len (w) Gd.none Xb_tU22 rfl ?_
        refine o_move (nm .i64 (0)) Gd.none rfl ?_
        refine aops_end ?_
        refine hK9 _ ?_
        refine awp_block ?_
        refine awp_loopR (fun κ σ => ∃ (i : Nat), ∃ (R : Int), (i ≤ w.length) ∧ (R = (restZ m (w.take i)).1) ∧ ((digs R.natAbs).length ≤ 13 * i + 4) ∧ (w.length - i) = κ ∧ σ = ⟨[(1, (AV.sl 1 (is .i64 (w)))), (2, (AV.ref 2 (0))), (7, (AV.ref 3 (0))), (8, (AV.ref 4 (0))), (32, (AV.sl 1 (is .i64 (w)))), (33, (nm .i64 ((w).length))), (34, (nm .i64 (i)))], [(2, (AO.var 24 [(AV.lit (.int .i64 (m.mod))), (AV.sl 1 (is .i64 (m.mul))), (AV.sl 1 (is .i64 (m.add)))])), (3, (AO.var 79 [(bp (R < 0)), (AV.sl 1 (ns .u32 (digs (R).natAbs)))])), (4, (AO.var 79 [(bp ((m.mod ^ i) < 0)), (AV.sl 1 (ns .u32 (digs ((m.mod ^ i)).natAbs)))]))]⟩) ⟨_, _, ⟨0, 0, (by omega), rfl, (by simp [digs_zero]), rfl, rfl⟩, ?wk0⟩ ?rd0
        case wk0 =>
          exact Wk.sub (And.intro (by exact rfl) (And.intro (by exact rfl) (And.intro (by exact rfl) (And.intro (by exact rfl) (And.intro (by exact rfl) (And.intro (by exact rfl) (And.intro (by first | rfl | exact congrArg (nm _) (by omega) | exact nm_int (by omega) | exact nm_int (by simp [IntKind.wrap, IntKind.bits, IntKind.signed]; omega)) (trivial)))))))) (And.intro (by first | rfl | exact row_ns (by simp) | exact congrArg (fun x => some (AO.blk (.stringIter _ x))) (by omega) | (simp only [Int.pow_zero, Int.pow_succ]; rfl)) (And.intro (by first | rfl | exact row_ns (by simp) | exact congrArg (fun x => some (AO.blk (.stringIter _ x))) (by omega) | (simp only [Int.pow_zero, Int.pow_succ]; rfl)) (And.intro (by first | rfl | exact row_ns (by simp) | exact congrArg (fun x => some (AO.blk (.stringIter _ x))) (by omega) | (simp only [Int.pow_zero, Int.pow_succ]; rfl)) (trivial))))
        rintro κ _ ⟨i, R, hi, hR, hRl, rfl, rfl⟩
        obtain ⟨L1, L2, L3⟩ := line_len hM (w.take i) (isW_take hW.1 i)
        have L4 : (w.take i).length = i := by rw [List.length_take]; omega
        have L5 : (digs (m.mod ^ i).natAbs).length ≤ 3 * i + 3 := by have := lineZ_div m (w.take i); rw [L4] at this; rw [← this]; omega
        refine awp_seq fun K10 hK10 => ?_
        refine awp_region rfl ?_
        refine n_lss (i) ((w).length) Gd.none rfl rfl ?_
        refine aops_end ?_
        refine hK10 _ ?_
        refine awp_seq fun K11 hK11 => ?_
        refine awp_condQ (q := (i) < ((w).length)) rfl (fun h4 => ?_) (fun h4 => ?_)
        · have hwi := isW_get hW.1 h4
          have hd1 := small_len (z := m.mod) (by omega)
          obtain ⟨T, hT⟩ : ∃ T, T = lookT (lineZ m (w.take i)).mul m.mod (((lineZ m (w.take i)).mul * R + (lineZ m (w.take i)).add) / (lineZ m (w.take i)).div) (w.getD i 0) := ⟨_, rfl⟩
          obtain ⟨t1, t2, t3, t4⟩ := rest_step hM hF hW.1 h4 hR hT
          have hp1 := len_mulZ (lineZ m (w.take i)).mul R
          have hp2 := len_addZ ((lineZ m (w.take i)).mul * R) (lineZ m (w.take i)).add
          have hp3 : 0 < (lineZ m (w.take i)).div := by rw [lineZ_div]; exact Int.pow_pos (by omega)
          have hmd : ((m.mod.toNat : Nat) : Int) = m.mod := Int.toNat_of_nonneg (by omega)
          have hp5 := len_mulZ (m.mod ^ i) m.mod
          have hp4 := len_ediv ((lineZ m (w.take i)).mul * R + (lineZ m (w.take i)).add) hp3
          refine awp_skip ?_
          refine hK11 _ ?_
          refine awp_seq fun K12 hK12 => ?_
          refine awp_block ?_
          refine awp_seq fun K13 hK13 => ?_
          refine awp_region rfl ?_
          refine o_move (nm .i64 (i)) Gd.none rfl ?_
          refine i_index (w) (i) Gd.none Xb_tE22 rfl rfl (by omega) ?_
          refine i_loadI (w) (i) Gd.none Xb_tS3 rfl (by omega) ?_
          refine o_assign (nm .i64 (i)) Gd.none rfl ?_
          refine o_assign (AV.lit (.int .i64 ((w).getD (i) 0))) Gd.none rfl ?_
          refine aops_end ?_
          refine hK13 _ ?_
          refine awp_seq fun K14 hK14 => ?_
          refine awp_regionD rfl ?_
          refine o_loadA [(AV.lit (.int .i64 (m.mod))), (AV.sl 1 (is .i64 (m.mul))), (AV.sl 1 (is .i64 (m.add)))] Gd.none Xb_tA24 rfl rfl rfl rfl rfl ?_
          refine o_move (AV.sl 1 (is .i64 (w))) Gd.none rfl ?_
          refine o_move (nm .i64 (i)) Gd.none rfl ?_
          refine i_slice (w) (0) (i) Gd.none Xb_tE22 rfl rfl (hi_nm rfl) trivial (by omega) (by omega) ?_
          refine n_as (v' := (AV.sl 1 (is .i64 ((w).take (i))))) (by rfl) ?_
          refine o_call [(AV.agg [(AV.lit (.int .i64 (m.mod))), (AV.sl 1 (is .i64 (m.mul))), (AV.sl 1 (is .i64 (m.add)))]), (AV.sl 1 (is .i64 ((w).take (i))))] (linW (lineZ m ((w).take (i)))) Gd.none Xb_tC56 rfl (c_oOf m ((w).take (i)) (by first | assumption | exact okM_iff.1 (by assumption)) (by first | assumption | exact (by assumption : OkW _ _).1 | exact isW_take (by assumption : OkW _ _).1 _) (by first | omega | exact (by assumption : OkW _ _).2)) ?_
          refine o_alloc 101 [(AV.lit (.bool false)), (AV.lit (.slice none 0 0)), (AV.lit (.bool false)), (AV.lit (.slice none 0 0)), (AV.lit (.bool false)), (AV.lit (.slice none 0 0))] Gd.none Xb_tO89 rfl rfl rfl ?_
          refine o_store [(101, (AO.var 89 [(bp (((lineZ m ((w).take (i))).mul) < 0)), (AV.sl 1 (ns .u32 (digs ((lineZ m ((w).take (i))).mul).natAbs))), (bp (((lineZ m ((w).take (i))).add) < 0)), (AV.sl 1 (ns .u32 (digs ((lineZ m ((w).take (i))).add).natAbs))), (bp (((lineZ m ((w).take (i))).div) < 0)), (AV.sl 1 (ns .u32 (digs ((lineZ m ((w).take (i))).div).natAbs)))])), (2, (AO.var 24 [(AV.lit (.int .i64 (m.mod))), (AV.sl 1 (is .i64 (m.mul))), (AV.sl 1 (is .i64 (m.add)))])), (3, (AO.var 79 [(bp (R < 0)), (AV.sl 1 (ns .u32 (digs (R).natAbs)))])), (4, (AO.var 79 [(bp ((m.mod ^ i) < 0)), (AV.sl 1 (ns .u32 (digs ((m.mod ^ i)).natAbs)))]))] Gd.none Xb_tZ89 rfl rfl rfl rfl rfl rfl ?_
          refine aops_end ⟨by kernel_rfl, ?_⟩
          refine hK14 _ ?_
          refine awp_seq fun K15 hK15 => ?_
          refine awp_regionD rfl ?_
          refine o_fieldRef 0 Gd.none Xb_tF89_0 rfl rfl ?_
          refine o_loadA [(bp (((lineZ m ((w).take (i))).mul) < 0)), (AV.sl 1 (ns .u32 (digs ((lineZ m ((w).take (i))).mul).natAbs)))] Gd.none Xb_tA79 rfl rfl rfl rfl rfl ?_
          refine o_loadA [(bp (R < 0)), (AV.sl 1 (ns .u32 (digs (R).natAbs)))] Gd.none Xb_tA79 rfl rfl rfl rfl rfl ?_
          refine o_call [(AV.agg [(bp (((lineZ m ((w).take (i))).mul) < 0)), (AV.sl 1 (ns .u32 (digs ((lineZ m ((w).take (i))).mul).natAbs)))]), (AV.agg [(bp (R < 0)), (AV.sl 1 (ns .u32 (digs (R).natAbs)))])] (intW ((((lineZ m ((w).take (i))).mul) * R))) Gd.none Xb_tC60 rfl (c_wMul (((lineZ m ((w).take (i))).mul)) (R) (by first | assumption | omega | (simp only [Int.natAbs_neg]; omega)) (by first | assumption | omega | (simp only [Int.natAbs_neg]; omega))) ?_
          refine o_fieldRef 2 Gd.none Xb_tF89_1 rfl rfl ?_
          refine o_loadA [(bp (((lineZ m ((w).take (i))).add) < 0)), (AV.sl 1 (ns .u32 (digs ((lineZ m ((w).take (i))).add).natAbs)))] Gd.none Xb_tA79 rfl rfl rfl rfl rfl ?_
          refine o_call [(intW ((((lineZ m ((w).take (i))).mul) * R))), (AV.agg [(bp (((lineZ m ((w).take (i))).add) < 0)), (AV.sl 1 (ns .u32 (digs ((lineZ m ((w).take (i))).add).natAbs)))])] (intW (((((lineZ m ((w).take (i))).mul) * R) + ((lineZ m ((w).take (i))).add)))) Gd.none Xb_tC61 rfl (c_wAdd ((((lineZ m ((w).take (i))).mul) * R)) (((lineZ m ((w).take (i))).add)) (by first | assumption | omega | (simp only [Int.natAbs_neg]; omega)) (by first | assumption | omega | (simp only [Int.natAbs_neg]; omega))) ?_
          refine o_fieldRef 4 Gd.none Xb_tF89_2 rfl rfl ?_
          refine o_loadA [(bp (((lineZ m ((w).take (i))).div) < 0)), (AV.sl 1 (ns .u32 (digs ((lineZ m ((w).take (i))).div).natAbs)))] Gd.none Xb_tA79 rfl rfl rfl rfl rfl ?_
          refine o_call [(intW (((((lineZ m ((w).take (i))).mul) * R) + ((lineZ m ((w).take (i))).add)))), (AV.agg [(bp (((lineZ m ((w).take (i))).div) < 0)), (AV.sl 1 (ns .u32 (digs ((lineZ m ((w).take (i))).div).natAbs)))])] (AV.tup [(intW ((((((lineZ m ((w).take (i))).mul) * R) + ((lineZ m ((w).take (i))).add)) / ((lineZ m ((w).take (i))).div)))), (intW ((((((lineZ m ((w).take (i))).mul) * R) + ((lineZ m ((w).take (i))).add)) % ((lineZ m ((w).take (i))).div))))]) Gd.none Xb_tC62 rfl (c_wDivide (((((lineZ m ((w).take (i))).mul) * R) + ((lineZ m ((w).take (i))).add))) (((lineZ m ((w).take (i))).div)) (by omega) (by omega) (by omega)) ?_
          refine o_move (AV.tup [(intW ((((((lineZ m ((w).take (i))).mul) * R) + ((lineZ m ((w).take (i))).add)) / ((lineZ m ((w).take (i))).div)))), (intW ((((((lineZ m ((w).take (i))).mul) * R) + ((lineZ m ((w).take (i))).add)) % ((lineZ m ((w).take (i))).div))))]) Gd.none rfl ?_
          refine o_extract (intW ((((((lineZ m ((w).take (i))).mul) * R) + ((lineZ m ((w).take (i))).add)) / ((lineZ m ((w).take (i))).div)))) Gd.none rfl rfl ?_
          refine o_extract (intW ((((((lineZ m ((w).take (i))).mul) * R) + ((lineZ m ((w).take (i))).add)) % ((lineZ m ((w).take (i))).div)))) Gd.none rfl rfl ?_
          refine o_alloc 102 [(AV.lit (.bool false)), (AV.lit (.slice none 0 0))] Gd.none Xb_tO79 rfl rfl rfl ?_
          refine o_alloc 103 [(AV.lit (.bool false)), (AV.lit (.slice none 0 0))] Gd.none Xb_tO79 rfl rfl rfl ?_
          refine o_store [(103, (AO.var 79 [(AV.lit (.bool false)), (AV.lit (.slice none 0 0))])), (102, (AO.var 79 [(bp ((((((lineZ m ((w).take (i))).mul) * R) + ((lineZ m ((w).take (i))).add)) / ((lineZ m ((w).take (i))).div)) < 0)), (AV.sl 1 (ns .u32 (digs ((((((lineZ m ((w).take (i))).mul) * R) + ((lineZ m ((w).take (i))).add)) / ((lineZ m ((w).take (i))).div))).natAbs)))])), (101, (AO.var 89 [(bp (((lineZ m ((w).take (i))).mul) < 0)), (AV.sl 1 (ns .u32 (digs ((lineZ m ((w).take (i))).mul).natAbs))), (bp (((lineZ m ((w).take (i))).add) < 0)), (AV.sl 1 (ns .u32 (digs ((lineZ m ((w).take (i))).add).natAbs))), (bp (((lineZ m ((w).take (i))).div) < 0)), (AV.sl 1 (ns .u32 (digs ((lineZ m ((w).take (i))).div).natAbs)))])), (2, (AO.var 24 [(AV.lit (.int .i64 (m.mod))), (AV.sl 1 (is .i64 (m.mul))), (AV.sl 1 (is .i64 (m.add)))])), (3, (AO.var 79 [(bp (R < 0)), (AV.sl 1 (ns .u32 (digs (R).natAbs)))])), (4, (AO.var 79 [(bp ((m.mod ^ i) < 0)), (AV.sl 1 (ns .u32 (digs ((m.mod ^ i)).natAbs)))]))] Gd.none Xb_tZ79 rfl rfl rfl rfl rfl rfl ?_
          refine o_store [(103, (AO.var 79 [(bp ((((((lineZ m ((w).take (i))).mul) * R) + ((lineZ m ((w).take (i))).add)) % ((lineZ m ((w).take (i))).div)) < 0)), (AV.sl 1 (ns .u32 (digs ((((((lineZ m ((w).take (i))).mul) * R) + ((lineZ m ((w).take (i))).add)) % ((lineZ m ((w).take (i))).div))).natAbs)))])), (102, (AO.var 79 [(bp ((((((lineZ m ((w).take (i))).mul) * R) + ((lineZ m ((w).take (i))).add)) / ((lineZ m ((w).take (i))).div)) < 0)), (AV.sl 1 (ns .u32 (digs ((((((lineZ m ((w).take (i))).mul) * R) + ((lineZ m ((w).take (i))).add)) / ((lineZ m ((w).take (i))).div))).natAbs)))])), (101, (AO.var 89 [(bp (((lineZ m ((w).take (i))).mul) < 0)), (AV.sl 1 (ns .u32 (digs ((lineZ m ((w).take (i))).mul).natAbs))), (bp (((lineZ m ((w).take (i))).add) < 0)), (AV.sl 1 (ns .u32 (digs ((lineZ m ((w).take (i))).add).natAbs))), (bp (((lineZ m ((w).take (i))).div) < 0)), (AV.sl 1 (ns .u32 (digs ((lineZ m ((w).take (i))).div).natAbs)))])), (2, (AO.var 24 [(AV.lit (.int .i64 (m.mod))), (AV.sl 1 (is .i64 (m.mul))), (AV.sl 1 (is .i64 (m.add)))])), (3, (AO.var 79 [(bp (R < 0)), (AV.sl 1 (ns .u32 (digs (R).natAbs)))])), (4, (AO.var 79 [(bp ((m.mod ^ i) < 0)), (AV.sl 1 (ns .u32 (digs ((m.mod ^ i)).natAbs)))]))] Gd.none Xb_tZ79 rfl rfl rfl rfl rfl rfl ?_
          refine aops_end ⟨by kernel_rfl, ?_⟩
          refine hK15 _ ?_
          refine awp_seq fun K16 hK16 => ?_
          refine awp_block ?_
          refine awp_loopR (fun κ σ => ∃ (t : Nat), ∃ (A : Int), ∃ (B : Int), (t ≤ T) ∧ (A = ((lineZ m (w.take i)).mul * R + (lineZ m (w.take i)).add) / (lineZ m (w.take i)).div + (t : Int) * (lineZ m (w.take i)).mul) ∧ (B = R + (t : Int) * m.mod ^ i) ∧ ((digs A.natAbs).length ≤ 10000 + t) ∧ ((digs B.natAbs).length ≤ 13 * i + 4 + t) ∧ (T - t) = κ ∧ σ = ⟨[(1, (AV.sl 1 (is .i64 (w)))), (2, (AV.ref 2 (0))), (7, (AV.ref 3 (0))), (8, (AV.ref 4 (0))), (10, (AV.lit (.int .i64 ((w).getD (i) 0)))), (11, (AV.ref 10 (0))), (12, (AV.ref 11 (0))), (32, (AV.sl 1 (is .i64 (w)))), (33, (nm .i64 ((w).length))), (34, (nm .i64 (i)))], [(2, (AO.var 24 [(AV.lit (.int .i64 (m.mod))), (AV.sl 1 (is .i64 (m.mul))), (AV.sl 1 (is .i64 (m.add)))])), (3, (AO.var 79 [(bp (B < 0)), (AV.sl 1 (ns .u32 (digs (B).natAbs)))])), (4, (AO.var 79 [(bp ((m.mod ^ i) < 0)), (AV.sl 1 (ns .u32 (digs ((m.mod ^ i)).natAbs)))])), (10, (AO.var 89 [(bp (((lineZ m ((w).take (i))).mul) < 0)), (AV.sl 1 (ns .u32 (digs ((lineZ m ((w).take (i))).mul).natAbs))), (bp (((lineZ m ((w).take (i))).add) < 0)), (AV.sl 1 (ns .u32 (digs ((lineZ m ((w).take (i))).add).natAbs))), (bp (((lineZ m ((w).take (i))).div) < 0)), (AV.sl 1 (ns .u32 (digs ((lineZ m ((w).take (i))).div).natAbs)))])), (11, (AO.var 79 [(bp (A < 0)), (AV.sl 1 (ns .u32 (digs (A).natAbs)))]))]⟩) ⟨_, _, ⟨0, ((((lineZ m ((w).take (i))).mul) * R + ((lineZ m ((w).take (i))).add)) / ((lineZ m ((w).take (i))).div)), R, (by omega), (by simp), (by simp), (by omega), (by omega), rfl, rfl⟩, ?wk1⟩ ?rd1
          case wk1 =>
            exact Wk.trans (Wk.sub (σ' := ⟨[(1, (AV.sl 1 (is .i64 (w)))), (2, (AV.ref 2 (0))), (7, (AV.ref 3 (0))), (8, (AV.ref 4 (0))), (10, (AV.lit (.int .i64 ((w).getD (i) 0)))), (11, (AV.ref 101 (0))), (12, (AV.ref 102 (0))), (32, (AV.sl 1 (is .i64 (w)))), (33, (nm .i64 ((w).length))), (34, (nm .i64 (i)))], [(2, (AO.var 24 [(AV.lit (.int .i64 (m.mod))), (AV.sl 1 (is .i64 (m.mul))), (AV.sl 1 (is .i64 (m.add)))])), (3, (AO.var 79 [(bp (R < 0)), (AV.sl 1 (ns .u32 (digs (R).natAbs)))])), (4, (AO.var 79 [(bp ((m.mod ^ i) < 0)), (AV.sl 1 (ns .u32 (digs ((m.mod ^ i)).natAbs)))])), (101, (AO.var 89 [(bp (((lineZ m ((w).take (i))).mul) < 0)), (AV.sl 1 (ns .u32 (digs ((lineZ m ((w).take (i))).mul).natAbs))), (bp (((lineZ m ((w).take (i))).add) < 0)), (AV.sl 1 (ns .u32 (digs ((lineZ m ((w).take (i))).add).natAbs))), (bp (((lineZ m ((w).take (i))).div) < 0)), (AV.sl 1 (ns .u32 (digs ((lineZ m ((w).take (i))).div).natAbs)))])), (102, (AO.var 79 [(bp ((((((lineZ m ((w).take (i))).mul) * R) + ((lineZ m ((w).take (i))).add)) / ((lineZ m ((w).take (i))).div)) < 0)), (AV.sl 1 (ns .u32 (digs ((((((lineZ m ((w).take (i))).mul) * R) + ((lineZ m ((w).take (i))).add)) / ((lineZ m ((w).take (i))).div))).natAbs)))]))]⟩) (And.intro rfl (And.intro rfl (And.intro rfl (And.intro rfl (And.intro rfl (And.intro rfl (And.intro rfl (And.intro rfl (And.intro rfl (And.intro rfl (trivial))))))))))) (And.intro rfl (And.intro rfl (And.intro rfl (And.intro rfl (And.intro rfl (trivial))))))) (Wk.trans (Wk.ren (id := 101) (id' := 10) rfl) (Wk.trans (Wk.ren (id := 102) (id' := 11) rfl) (Wk.sub (And.intro (by exact rfl) (And.intro (by exact rfl) (And.intro (by exact rfl) (And.intro (by exact rfl) (And.intro (by exact rfl) (And.intro (by first | rfl | (simp)) (And.intro (by first | rfl | (simp)) (And.intro (by exact rfl) (And.intro (by exact rfl) (And.intro (by exact rfl) (trivial))))))))))) (And.intro (by first | rfl | exact row_ns (by simp) | exact congrArg (fun x => some (AO.blk (.stringIter _ x))) (by omega) | (simp only [Int.pow_zero, Int.pow_succ]; rfl)) (And.intro (by first | rfl | exact row_ns (by simp) | exact congrArg (fun x => some (AO.blk (.stringIter _ x))) (by omega) | (simp only [Int.pow_zero, Int.pow_succ]; rfl)) (And.intro (by first | rfl | exact row_ns (by simp) | exact congrArg (fun x => some (AO.blk (.stringIter _ x))) (by omega) | (simp only [Int.pow_zero, Int.pow_succ]; rfl)) (And.intro (by first | rfl | exact row_ns (by simp) | exact congrArg (fun x => some (AO.blk (.stringIter _ x))) (by omega) | (simp only [Int.pow_zero, Int.pow_succ]; rfl)) (And.intro (by first | rfl | exact row_ns (by simp) | exact congrArg (fun x => some (AO.blk (.stringIter _ x))) (by omega) | (simp only [Int.pow_zero, Int.pow_succ]; rfl)) (trivial)))))))))
          rintro κ _ ⟨t, A, B, ht, hA, hB, hAl, hBl, rfl, rfl⟩
          refine awp_block ?_
          refine awp_seq fun K17 hK17 => ?_
          refine awp_seq fun K18 hK18 => ?_
          refine awp_region rfl ?_
          refine o_loadA [(bp (A < 0)), (AV.sl 1 (ns .u32 (digs (A).natAbs)))] Gd.none Xb_tA79 rfl rfl rfl rfl rfl ?_
          refine o_fieldRef 0 Gd.none Xb_tF24_0 rfl rfl ?_
          refine o_loadS (AV.lit (.int .i64 (m.mod))) Gd.none Xb_tS3 rfl rfl rfl ?_
          refine n_as (v' := (nm .i64 (m.mod.toNat))) (nm_int (by omega)) ?_
          refine o_call [(AV.agg [(bp (A < 0)), (AV.sl 1 (ns .u32 (digs (A).natAbs)))]), (nm .i64 (m.mod.toNat))] (AV.tup [(intW ((A / ((m.mod.toNat : Nat) : Int)))), (AV.lit (.int .i64 (A % ((m.mod.toNat : Nat) : Int))))]) Gd.none Xb_tC63 rfl (c_wQR (A) (m.mod.toNat) (by omega) (by omega) (by first | assumption | omega | (simp only [Int.natAbs_neg]; omega))) ?_
          refine o_move (AV.tup [(intW ((A / ((m.mod.toNat : Nat) : Int)))), (AV.lit (.int .i64 (A % ((m.mod.toNat : Nat) : Int))))]) Gd.none rfl ?_
          refine o_extract (intW ((A / ((m.mod.toNat : Nat) : Int)))) Gd.none rfl rfl ?_
          refine o_extract (AV.lit (.int .i64 (A % ((m.mod.toNat : Nat) : Int)))) Gd.none rfl rfl ?_
          refine o_alloc 201 [(AV.lit (.bool false)), (AV.lit (.slice none 0 0))] Gd.none Xb_tO79 rfl rfl rfl ?_
          refine o_store [(201, (AO.var 79 [(bp ((A / ((m.mod.toNat : Nat) : Int)) < 0)), (AV.sl 1 (ns .u32 (digs ((A / ((m.mod.toNat : Nat) : Int))).natAbs)))])), (2, (AO.var 24 [(AV.lit (.int .i64 (m.mod))), (AV.sl 1 (is .i64 (m.mul))), (AV.sl 1 (is .i64 (m.add)))])), (3, (AO.var 79 [(bp (B < 0)), (AV.sl 1 (ns .u32 (digs (B).natAbs)))])), (4, (AO.var 79 [(bp ((m.mod ^ i) < 0)), (AV.sl 1 (ns .u32 (digs ((m.mod ^ i)).natAbs)))])), (10, (AO.var 89 [(bp (((lineZ m ((w).take (i))).mul) < 0)), (AV.sl 1 (ns .u32 (digs ((lineZ m ((w).take (i))).mul).natAbs))), (bp (((lineZ m ((w).take (i))).add) < 0)), (AV.sl 1 (ns .u32 (digs ((lineZ m ((w).take (i))).add).natAbs))), (bp (((lineZ m ((w).take (i))).div) < 0)), (AV.sl 1 (ns .u32 (digs ((lineZ m ((w).take (i))).div).natAbs)))])), (11, (AO.var 79 [(bp (A < 0)), (AV.sl 1 (ns .u32 (digs (A).natAbs)))]))] Gd.none Xb_tZ79 rfl rfl rfl rfl rfl rfl ?_
          refine o_assign (AV.lit (.int .i64 (A % ((m.mod.toNat : Nat) : Int)))) Gd.none rfl ?_
          refine aops_end ?_
          refine hK18 _ ?_
          refine awp_seq fun K19 hK19 => ?_
          refine awp_region rfl ?_
          refine o_move (AV.lit (.int .i64 (A % ((m.mod.toNat : Nat) : Int)))) Gd.none rfl ?_
          refine o_move (AV.lit (.int .i64 ((w).getD (i) 0))) Gd.none rfl ?_
          refine o_eql (a := (A % ((m.mod.toNat : Nat) : Int))) (c := ((w).getD (i) 0)) Gd.none rfl rfl ?_
          refine aops_end ?_
          refine hK19 _ ?_
          refine awp_condQ (q := (A % ((m.mod.toNat : Nat) : Int)) = ((w).getD (i) 0)) rfl (fun h5 => ?_) (fun h5 => ?_)
          · have h5' := h5
            rw [hmd, hA] at h5'
            have htT : t = T := by rcases Nat.lt_or_ge t T with e | e; exact absurd h5' (t3 t e); omega
            have hq4 : R + (t : Int) * m.mod ^ i = (restZ m (w.take (i + 1))).1 := by rw [htT]; exact t4
            refine awp_exit ?_
            refine hK16 _ ?_
            refine awp_regionD rfl ?_
            refine o_loadA [(bp ((m.mod ^ i) < 0)), (AV.sl 1 (ns .u32 (digs ((m.mod ^ i)).natAbs)))] Gd.none Xb_tA79 rfl rfl rfl rfl rfl ?_
            refine o_fieldRef 0 Gd.none Xb_tF24_0 rfl rfl ?_
            refine o_loadS (AV.lit (.int .i64 (m.mod))) Gd.none Xb_tS3 rfl rfl rfl ?_
            refine o_call [(AV.lit (.int .i64 (m.mod)))] (intW ((m.mod))) Gd.none Xb_tC59 rfl (c_wOf (m.mod) (by first | decide | omega) (by first | decide | omega)) ?_
            refine o_call [(AV.agg [(bp ((m.mod ^ i) < 0)), (AV.sl 1 (ns .u32 (digs ((m.mod ^ i)).natAbs)))]), (intW ((m.mod)))] (intW (((m.mod ^ i) * (m.mod)))) Gd.none Xb_tC60 rfl (c_wMul ((m.mod ^ i)) ((m.mod)) (by first | assumption | omega | (simp only [Int.natAbs_neg]; omega)) (by first | assumption | omega | (simp only [Int.natAbs_neg]; omega))) ?_
            refine o_store [(201, (AO.var 79 [(bp ((A / ((m.mod.toNat : Nat) : Int)) < 0)), (AV.sl 1 (ns .u32 (digs ((A / ((m.mod.toNat : Nat) : Int))).natAbs)))])), (2, (AO.var 24 [(AV.lit (.int .i64 (m.mod))), (AV.sl 1 (is .i64 (m.mul))), (AV.sl 1 (is .i64 (m.add)))])), (3, (AO.var 79 [(bp (B < 0)), (AV.sl 1 (ns .u32 (digs (B).natAbs)))])), (4, (AO.var 79 [(bp (((m.mod ^ i) * (m.mod)) < 0)), (AV.sl 1 (ns .u32 (digs (((m.mod ^ i) * (m.mod))).natAbs)))])), (10, (AO.var 89 [(bp (((lineZ m ((w).take (i))).mul) < 0)), (AV.sl 1 (ns .u32 (digs ((lineZ m ((w).take (i))).mul).natAbs))), (bp (((lineZ m ((w).take (i))).add) < 0)), (AV.sl 1 (ns .u32 (digs ((lineZ m ((w).take (i))).add).natAbs))), (bp (((lineZ m ((w).take (i))).div) < 0)), (AV.sl 1 (ns .u32 (digs ((lineZ m ((w).take (i))).div).natAbs)))])), (11, (AO.var 79 [(bp (A < 0)), (AV.sl 1 (ns .u32 (digs (A).natAbs)))]))] Gd.none Xb_tZ79 rfl rfl rfl rfl rfl rfl ?_
            refine aops_end ⟨by kernel_rfl, ?_⟩
            refine hK12 _ ?_
            refine awp_region rfl ?_
            refine n_add (i) (1) Gd.none rfl rfl (by simp only [topOf]; omega) ?_
            refine o_move (nm .i64 ((i) + (1))) Gd.none rfl ?_
            refine aops_end ?_
            refine ⟨_, _, ?lt, ⟨i + 1, B, (by omega), (hB.trans hq4), (by omega), rfl, rfl⟩, ?wk⟩
            case lt => omega
            case wk => exact Wk.sub (And.intro (by exact rfl) (And.intro (by exact rfl) (And.intro (by exact rfl) (And.intro (by exact rfl) (And.intro (by exact rfl) (And.intro (by exact rfl) (And.intro (by first | rfl | exact congrArg (nm _) (by omega) | exact nm_int (by omega) | exact nm_int (by simp [IntKind.wrap, IntKind.bits, IntKind.signed]; omega)) (trivial)))))))) (And.intro (by first | rfl | exact row_ns (by simp) | exact congrArg (fun x => some (AO.blk (.stringIter _ x))) (by omega) | (simp only [Int.pow_zero, Int.pow_succ]; rfl)) (And.intro (by first | rfl | exact row_ns (by simp) | exact congrArg (fun x => some (AO.blk (.stringIter _ x))) (by omega) | (simp only [Int.pow_zero, Int.pow_succ]; rfl)) (And.intro (by first | rfl | exact row_ns (by simp) | exact congrArg (fun x => some (AO.blk (.stringIter _ x))) (by omega) | (simp only [Int.pow_zero, Int.pow_succ]; rfl)) (trivial))))
          · have htT : t < T := by rcases Nat.lt_or_ge t T with e | e; exact e; exact absurd (by rw [hmd, hA, show t = T by omega]; exact t2) h5
            have hz1 := len_addZ A (lineZ m (w.take i)).mul
            have hz2 := len_addZ B (m.mod ^ i)
            refine awp_skip ?_
            refine hK17 _ ?_
            refine awp_regionD rfl ?_
            refine o_loadA [(bp (B < 0)), (AV.sl 1 (ns .u32 (digs (B).natAbs)))] Gd.none Xb_tA79 rfl rfl rfl rfl rfl ?_
            refine o_loadA [(bp ((m.mod ^ i) < 0)), (AV.sl 1 (ns .u32 (digs ((m.mod ^ i)).natAbs)))] Gd.none Xb_tA79 rfl rfl rfl rfl rfl ?_
            refine o_call [(AV.agg [(bp (B < 0)), (AV.sl 1 (ns .u32 (digs (B).natAbs)))]), (AV.agg [(bp ((m.mod ^ i) < 0)), (AV.sl 1 (ns .u32 (digs ((m.mod ^ i)).natAbs)))])] (intW ((B + (m.mod ^ i)))) Gd.none Xb_tC61 rfl (c_wAdd (B) ((m.mod ^ i)) (by first | assumption | omega | (simp only [Int.natAbs_neg]; omega)) (by first | assumption | omega | (simp only [Int.natAbs_neg]; omega))) ?_
            refine o_loadA [(bp (A < 0)), (AV.sl 1 (ns .u32 (digs (A).natAbs)))] Gd.none Xb_tA79 rfl rfl rfl rfl rfl ?_
            refine o_fieldRef 0 Gd.none Xb_tF89_0 rfl rfl ?_
            refine o_loadA [(bp (((lineZ m ((w).take (i))).mul) < 0)), (AV.sl 1 (ns .u32 (digs ((lineZ m ((w).take (i))).mul).natAbs)))] Gd.none Xb_tA79 rfl rfl rfl rfl rfl ?_
            refine o_call [(AV.agg [(bp (A < 0)), (AV.sl 1 (ns .u32 (digs (A).natAbs)))]), (AV.agg [(bp (((lineZ m ((w).take (i))).mul) < 0)), (AV.sl 1 (ns .u32 (digs ((lineZ m ((w).take (i))).mul).natAbs)))])] (intW ((A + ((lineZ m ((w).take (i))).mul)))) Gd.none Xb_tC61 rfl (c_wAdd (A) (((lineZ m ((w).take (i))).mul)) (by first | assumption | omega | (simp only [Int.natAbs_neg]; omega)) (by first | assumption | omega | (simp only [Int.natAbs_neg]; omega))) ?_
            refine o_store [(201, (AO.var 79 [(bp ((A / ((m.mod.toNat : Nat) : Int)) < 0)), (AV.sl 1 (ns .u32 (digs ((A / ((m.mod.toNat : Nat) : Int))).natAbs)))])), (2, (AO.var 24 [(AV.lit (.int .i64 (m.mod))), (AV.sl 1 (is .i64 (m.mul))), (AV.sl 1 (is .i64 (m.add)))])), (3, (AO.var 79 [(bp ((B + (m.mod ^ i)) < 0)), (AV.sl 1 (ns .u32 (digs ((B + (m.mod ^ i))).natAbs)))])), (4, (AO.var 79 [(bp ((m.mod ^ i) < 0)), (AV.sl 1 (ns .u32 (digs ((m.mod ^ i)).natAbs)))])), (10, (AO.var 89 [(bp (((lineZ m ((w).take (i))).mul) < 0)), (AV.sl 1 (ns .u32 (digs ((lineZ m ((w).take (i))).mul).natAbs))), (bp (((lineZ m ((w).take (i))).add) < 0)), (AV.sl 1 (ns .u32 (digs ((lineZ m ((w).take (i))).add).natAbs))), (bp (((lineZ m ((w).take (i))).div) < 0)), (AV.sl 1 (ns .u32 (digs ((lineZ m ((w).take (i))).div).natAbs)))])), (11, (AO.var 79 [(bp (A < 0)), (AV.sl 1 (ns .u32 (digs (A).natAbs)))]))] Gd.none Xb_tZ79 rfl rfl rfl rfl rfl rfl ?_
            refine o_store [(201, (AO.var 79 [(bp ((A / ((m.mod.toNat : Nat) : Int)) < 0)), (AV.sl 1 (ns .u32 (digs ((A / ((m.mod.toNat : Nat) : Int))).natAbs)))])), (2, (AO.var 24 [(AV.lit (.int .i64 (m.mod))), (AV.sl 1 (is .i64 (m.mul))), (AV.sl 1 (is .i64 (m.add)))])), (3, (AO.var 79 [(bp ((B + (m.mod ^ i)) < 0)), (AV.sl 1 (ns .u32 (digs ((B + (m.mod ^ i))).natAbs)))])), (4, (AO.var 79 [(bp ((m.mod ^ i) < 0)), (AV.sl 1 (ns .u32 (digs ((m.mod ^ i)).natAbs)))])), (10, (AO.var 89 [(bp (((lineZ m ((w).take (i))).mul) < 0)), (AV.sl 1 (ns .u32 (digs ((lineZ m ((w).take (i))).mul).natAbs))), (bp (((lineZ m ((w).take (i))).add) < 0)), (AV.sl 1 (ns .u32 (digs ((lineZ m ((w).take (i))).add).natAbs))), (bp (((lineZ m ((w).take (i))).div) < 0)), (AV.sl 1 (ns .u32 (digs ((lineZ m ((w).take (i))).div).natAbs)))])), (11, (AO.var 79 [(bp ((A + ((lineZ m ((w).take (i))).mul)) < 0)), (AV.sl 1 (ns .u32 (digs ((A + ((lineZ m ((w).take (i))).mul))).natAbs)))]))] Gd.none Xb_tZ79 rfl rfl rfl rfl rfl rfl ?_
            refine aops_end ⟨by kernel_rfl, ?_⟩
            refine ⟨_, _, ?lt, ⟨t + 1, (A + (lineZ m ((w).take (i))).mul), (B + (m.mod ^ i)), (by omega), (by rw [hA, Int.natCast_add, Int.add_mul, Int.natCast_one, Int.one_mul]; omega), (by rw [hB, Int.natCast_add, Int.add_mul, Int.natCast_one, Int.one_mul]; omega), (by omega), (by omega), rfl, rfl⟩, ?wk⟩
            case lt => omega
            case wk => exact Wk.sub (And.intro (by exact rfl) (And.intro (by exact rfl) (And.intro (by exact rfl) (And.intro (by exact rfl) (And.intro (by exact rfl) (And.intro (by exact rfl) (And.intro (by exact rfl) (And.intro (by exact rfl) (And.intro (by exact rfl) (And.intro (by exact rfl) (trivial))))))))))) (And.intro (by first | rfl | exact row_ns (by simp) | exact congrArg (fun x => some (AO.blk (.stringIter _ x))) (by omega) | (simp only [Int.pow_zero, Int.pow_succ]; rfl)) (And.intro (by first | rfl | exact row_ns (by simp) | exact congrArg (fun x => some (AO.blk (.stringIter _ x))) (by omega) | (simp only [Int.pow_zero, Int.pow_succ]; rfl)) (And.intro (by first | rfl | exact row_ns (by simp) | exact congrArg (fun x => some (AO.blk (.stringIter _ x))) (by omega) | (simp only [Int.pow_zero, Int.pow_succ]; rfl)) (And.intro (by first | rfl | exact row_ns (by simp) | exact congrArg (fun x => some (AO.blk (.stringIter _ x))) (by omega) | (simp only [Int.pow_zero, Int.pow_succ]; rfl)) (And.intro (by first | rfl | exact row_ns (by simp) | exact congrArg (fun x => some (AO.blk (.stringIter _ x))) (by omega) | (simp only [Int.pow_zero, Int.pow_succ]; rfl)) (trivial))))))
        · refine awp_exit ?_
          refine hK8 _ ?_
          refine awp_seq fun K20 hK20 => ?_
          refine awp_regionD rfl ?_
          refine o_loadA [(bp (R < 0)), (AV.sl 1 (ns .u32 (digs (R).natAbs)))] Gd.none Xb_tA79 rfl rfl rfl rfl rfl ?_
          refine o_call [(AV.agg [(bp (R < 0)), (AV.sl 1 (ns .u32 (digs (R).natAbs)))])] (AV.lit (.string (txt (R)))) Gd.none Xb_tC64 rfl (c_wText (R) (by first | assumption | omega | (simp only [Int.natAbs_neg]; omega))) ?_
          refine o_loadA [(bp ((m.mod ^ i) < 0)), (AV.sl 1 (ns .u32 (digs ((m.mod ^ i)).natAbs)))] Gd.none Xb_tA79 rfl rfl rfl rfl rfl ?_
          refine o_call [(AV.agg [(bp ((m.mod ^ i) < 0)), (AV.sl 1 (ns .u32 (digs ((m.mod ^ i)).natAbs)))])] (AV.lit (.string (txt ((m.mod ^ i))))) Gd.none Xb_tC64 rfl (c_wText ((m.mod ^ i)) (by first | assumption | omega | (simp only [Int.natAbs_neg]; omega))) ?_
          refine o_assign (AV.lit (.string (txt (R)))) Gd.none rfl ?_
          refine o_assign (AV.lit (.string (txt ((m.mod ^ i))))) Gd.none rfl ?_
          refine o_assign (nm .i64 (0)) Gd.none rfl ?_
          refine aops_end ⟨by kernel_rfl, ?_⟩
          refine hK20 _ ?_
          refine awp_ret ?_
          refine post_ret ⟨[(AV.lit (.string (txt (R)))), (AV.lit (.string (txt ((m.mod ^ i))))), (nm .i64 (0))], And.intro (AV.le_refl _) (And.intro (AV.le_refl _) (And.intro (AV.le_refl _) (trivial))), rfl, ?_⟩
          have e := rest_0 (m := m) (w := w) hm' ⟨hW, hF⟩; rw [show w.take i = w from List.take_of_length_le (by omega)] at hR; rw [← hR, show w.length = i by omega] at e
          exact tup_eq3 (str_as e.2.1) (str_as e.2.2) (congrArg (nm _) e.1)

end Go.Proofs.YtbilndahjkimkaaDoor

set_option linter.unusedVariables false
set_option linter.unusedSimpArgs false
namespace Go.Ab
theorem Wk.cells {C : Ctx} {n : Nat} {σ : St} {i ty : Nat} {cs cs' : List AV} (hs : lookO σ.objs i = some (.var ty cs)) (hl : LeL cs cs') : Wk C n σ ⟨σ.slots, (i, .var ty cs') :: σ.objs⟩ := fun w0 H L a w hr => by
  have conv : ∀ j o, lookO ((i, .var ty cs') :: σ.objs) j = some o → (j = i ∧ o = .var ty cs') ∨ (j ≠ i ∧ σ.sem.μ j = some o) := fun j o ho => by
    simp only [lookO] at ho
    by_cases h2 : j = i
    · subst h2
      simp at ho
      exact .inl ⟨rfl, ho.symm⟩
    · rw [beq_ne (fun e => h2 e.symm)] at ho
      exact .inr ⟨h2, ho⟩
  have hi0 := hr.objs i (.var ty cs) hs
  refine ⟨H, L, Ext.refl _ _, ⟨hr.glob, hr.heap, hr.size, hr.slot, fun j o ho => ?_, fun j k o o' g x x' hjk hj hk => ?_, hr.below, hr.defers⟩⟩
  · rcases conv j o ho with ⟨rfl, rfl⟩ | ⟨h1, h2⟩
    · obtain ⟨g, vs, a1, a2, a3, a4, a5, a6⟩ := hi0
      exact ⟨g, vs, a1, a2, hl.rep a3, a4, a5, a6⟩
    · exact hr.objs j o h2
  · have conv' : ∀ j o, lookO ((i, .var ty cs') :: σ.objs) j = some o → ∃ o', σ.sem.μ j = some o' := fun j o ho => by
      rcases conv j o ho with ⟨rfl, rfl⟩ | ⟨h1, h2⟩
      · exact ⟨_, hs⟩
      · exact ⟨_, h2⟩
    obtain ⟨o1, h1⟩ := conv' j o hj
    obtain ⟨o2, h2⟩ := conv' k o' hk
    exact hr.apart j k o1 o2 g x x' hjk h1 h2
end Go.Ab
namespace Go.Mth
open Go.Ab
def gC (a b : Nat) : Prop := ((digs a).getD ((digs a).length - 1) 0) ≤ ((digs b).getD ((digs b).length - 1) 0) ∧ 0 < (digs a).length - (digs b).length
instance (a b : Nat) : Decidable (gC a b) := inferInstanceAs (Decidable ((digs a).getD ((digs a).length - 1) 0 ≤ ((digs b).getD ((digs b).length - 1) 0) ∧ 0 < (digs a).length - (digs b).length))
def gSh (a b : Nat) : Nat := if gC a b then (digs a).length - (digs b).length - 1 else (digs a).length - (digs b).length
def gTop (a b : Nat) : Nat := if gC a b then ((digs a).getD ((digs a).length - 1) 0) * 1000000000 + (digs a).getD ((digs a).length - 2) 0 else ((digs a).getD ((digs a).length - 1) 0)
def gQ (a b : Nat) : Nat := max (gTop a b / ((digs b).getD ((digs b).length - 1) 0 + 1)) 1
def guessN (a b : Nat) : Nat := 1000000000 ^ gSh a b * gQ a b
theorem top_lo {a : Nat} (h : 0 < (digs a).length) : ((digs a).getD ((digs a).length - 1) 0) * 1000000000 ^ ((digs a).length - 1) ≤ a := by
  have h1 := val_split (digs a) (j := (digs a).length - 1) (by omega)
  have h2 := val_drop_succ (xs := digs a) (j := (digs a).length - 1) (by omega)
  rw [val_drop_all (xs := digs a) (j := (digs a).length - 1 + 1) (by omega), Nat.mul_zero, Nat.add_zero] at h2
  rw [val_digs, h2] at h1
  rw [Nat.mul_comm]
  omega
theorem top_hi {a : Nat} (h : 0 < (digs a).length) : a < ((digs a).getD ((digs a).length - 1) 0 + 1) * 1000000000 ^ ((digs a).length - 1) := by
  have h1 := val_split (digs a) (j := (digs a).length - 1) (by omega)
  have h2 := val_drop_succ (xs := digs a) (j := (digs a).length - 1) (by omega)
  rw [val_drop_all (xs := digs a) (j := (digs a).length - 1 + 1) (by omega), Nat.mul_zero, Nat.add_zero] at h2
  rw [val_digs, h2] at h1
  have h3 := val_lt ((digs_dig a).take ((digs a).length - 1))
  rw [List.length_take, Nat.min_eq_left (by omega)] at h3
  rw [Nat.add_mul, Nat.one_mul, Nat.mul_comm]
  omega
theorem top2_lo {a : Nat} (h : 2 ≤ (digs a).length) : ((digs a).getD ((digs a).length - 1) 0 * 1000000000 + (digs a).getD ((digs a).length - 2) 0) * 1000000000 ^ ((digs a).length - 2) ≤ a := by
  have h1 := val_split (digs a) (j := (digs a).length - 2) (by omega)
  have h2 := val_drop_succ (xs := digs a) (j := (digs a).length - 1) (by omega)
  rw [val_drop_all (xs := digs a) (j := (digs a).length - 1 + 1) (by omega), Nat.mul_zero, Nat.add_zero] at h2
  have h3 := val_drop_succ (xs := digs a) (j := (digs a).length - 2) (by omega)
  rw [show (digs a).length - 2 + 1 = (digs a).length - 1 by omega, h2] at h3
  rw [val_digs, h3] at h1
  rw [Nat.mul_comm, Nat.add_comm (_ * _), Nat.mul_comm ((digs a).getD ((digs a).length - 1) 0)]
  omega
theorem top_pos {a : Nat} (h : 0 < (digs a).length) : 0 < ((digs a).getD ((digs a).length - 1) 0) := by
  have h1 := val_drop_pos (n := a) (j := (digs a).length - 1) (by omega)
  have h2 := val_drop_succ (xs := digs a) (j := (digs a).length - 1) (by omega)
  rw [val_drop_all (xs := digs a) (j := (digs a).length - 1 + 1) (by omega), Nat.mul_zero, Nat.add_zero] at h2
  omega
theorem digs_pos_len {a : Nat} (h : 0 < a) : 0 < (digs a).length := by
  rcases Nat.eq_zero_or_pos ((digs a).length) with e | e
  · have := digs_len_zero.1 e; omega
  · exact e
theorem guess_le {a b : Nat} (hb : 0 < b) (hab : b ≤ a) : 1 ≤ guessN a b ∧ guessN a b * b ≤ a := by
  have hlb := digs_pos_len hb
  have hla := digs_pos_len (show 0 < a by omega)
  have hll : (digs b).length ≤ (digs a).length := digs_len_le hab
  have hq1 : 1 ≤ gQ a b := Nat.le_max_right _ _
  have hbh := top_hi hlb
  refine ⟨?_, ?_⟩
  · have := Nat.mul_le_mul (show 1 ≤ 1000000000 ^ gSh a b from Nat.pow_pos (by decide)) hq1
    unfold guessN; omega
  · have htop : gTop a b * 1000000000 ^ (gSh a b + ((digs b).length - 1)) ≤ a := by
      unfold gTop gSh
      split
      · rename_i h
        have := h.2
        rw [show (digs a).length - (digs b).length - 1 + ((digs b).length - 1) = (digs a).length - 2 by omega]
        exact top2_lo (by omega)
      · rw [show (digs a).length - (digs b).length + ((digs b).length - 1) = (digs a).length - 1 by omega]
        exact top_lo hla
    by_cases hc : ((digs b).getD ((digs b).length - 1) 0) + 1 ≤ gTop a b
    · have hq : gQ a b * ((digs b).getD ((digs b).length - 1) 0 + 1) ≤ gTop a b := by
        have h1 : 1 ≤ gTop a b / ((digs b).getD ((digs b).length - 1) 0 + 1) := Nat.div_pos hc (by omega)
        have h2 : gQ a b = gTop a b / ((digs b).getD ((digs b).length - 1) 0 + 1) := Nat.max_eq_left h1
        rw [h2]; exact Nat.div_mul_le_self _ _
      refine Nat.le_trans ?_ htop
      unfold guessN
      calc 1000000000 ^ gSh a b * gQ a b * b ≤ 1000000000 ^ gSh a b * gQ a b * (((digs b).getD ((digs b).length - 1) 0 + 1) * 1000000000 ^ ((digs b).length - 1)) := Nat.mul_le_mul_left _ (Nat.le_of_lt hbh)
        _ = (gQ a b * ((digs b).getD ((digs b).length - 1) 0 + 1)) * 1000000000 ^ (gSh a b + ((digs b).length - 1)) := by
          rw [Nat.pow_add, Nat.mul_comm (1000000000 ^ gSh a b) (gQ a b), Nat.mul_assoc, Nat.mul_assoc, Nat.mul_left_comm (1000000000 ^ gSh a b)]
        _ ≤ gTop a b * 1000000000 ^ (gSh a b + ((digs b).length - 1)) := Nat.mul_le_mul_right _ hq
    · have hnc : ¬ gC a b := fun h => by
        have ht : gTop a b = ((digs a).getD ((digs a).length - 1) 0) * 1000000000 + (digs a).getD ((digs a).length - 2) 0 := if_pos h
        have := top_pos hla
        have hbt := Dig.getD (digs_dig b) ((digs b).length - 1)
        omega
      have ht : gTop a b = ((digs a).getD ((digs a).length - 1) 0) := if_neg hnc
      have hsh : gSh a b = 0 := by
        unfold gSh
        rw [if_neg hnc]
        rcases Nat.eq_zero_or_pos ((digs a).length - (digs b).length) with e | e
        · exact e
        · exact absurd ⟨by omega, e⟩ hnc
      have hq : gQ a b = 1 := by
        unfold gQ
        rw [Nat.div_eq_of_lt (by omega)]
        rfl
      unfold guessN
      rw [hsh, hq]
      omega
theorem app_step {r L : List Nat} {x : Nat} (h : r ++ digs x = L) (hx : 0 < x) : (r ++ [x % 1000000000]) ++ digs (x / 1000000000) = L := by
  rw [← h, digs_pos hx]; simp
theorem app_end {r L : List Nat} {x : Nat} (h : r ++ digs x = L) (hx : ¬ 0 < x) : r = L := by
  rw [show x = 0 by omega, digs_zero, List.append_nil] at h; exact h
theorem val_guess (sh q : Nat) : val (List.replicate sh 0 ++ digs q) = 1000000000 ^ sh * q := by
  rw [val_app, val_repl, val_digs, List.length_replicate]; omega
theorem div_inv {X q g Y r : Nat} (hv : X = q * Y + r) (h : g * Y ≤ r) : X = (q + g) * Y + (r - g * Y) := by rw [Nat.add_mul]; omega
theorem div_fin {X q Y r : Nat} (hv : X = q * Y + r) (h : r < Y) : q = X / Y ∧ r = X % Y := by
  subst hv
  constructor
  · rw [Nat.mul_comm, Nat.mul_add_div (by omega), Nat.div_eq_of_lt h]; rfl
  · rw [Nat.mul_comm, Nat.mul_add_mod, Nat.mod_eq_of_lt h]
theorem absR (x : Int) : AV.agg [AV.lit (.bool false), .sl 1 (ns .i64 (digs x.natAbs))] = intR ((x.natAbs : Nat) : Int) :=
  intK_eq (bl_bp (b := false) ⟨fun h => (by cases h), fun h => (by omega)⟩) rfl
theorem sgn_zero {n : Nat} : sgn ((n : Nat) : Int) = 0 ↔ n = 0 := by unfold sgn; repeat' split <;> omega
theorem cmpZ_nn {y : Int} {r : Nat} (hy : 0 < y) : 0 ≤ cmpZ ((r : Nat) : Int) y ↔ y.natAbs ≤ r := by unfold cmpZ; repeat' split <;> omega
theorem sub_cast {g r : Nat} {y : Int} (h : g * y.natAbs ≤ r) (hy : 0 < y) : ((r : Nat) : Int) - ((g : Nat) : Int) * y = ((r - g * y.natAbs : Nat) : Int) := by
  rw [Int.natCast_sub h, Int.natCast_mul, show ((y.natAbs : Nat) : Int) = y by omega]
theorem len_gy {g r : Nat} {y : Int} (h : g * y.natAbs ≤ r) : (digs (((g : Nat) : Int) * y).natAbs).length ≤ (digs r).length := by
  rw [Int.natAbs_mul]
  exact digs_len_le h
end Go.Mth

set_option linter.unusedVariables false
set_option linter.unusedSimpArgs false
namespace Go.Proofs.YtbilndahjkimkaaDoor
open Go Go.Ab Go.Mth
theorem Wx_tO36 : tyZero cx.P 36 = some [(Go.Value.bool false), (Go.Value.slice none 0 0)] := by kernel_rfl
theorem Wx_tF36_1 : tyField cx.P 36 1 = some (1, 22) := by kernel_rfl
theorem Wx_tS22 : tySc cx.P 22 = true := by kernel_rfl
theorem Wx_tU22 : cx.P.underlying 22 = some (.slice 3) := by kernel_rfl
theorem Wx_tE22 : tyElem cx.P 22 = some (3, 1, 8) := by kernel_rfl
theorem Wx_tS3 : tySc cx.P 3 = true := by kernel_rfl
theorem Wx_tO3 : tyZero cx.P 3 = some [(Go.Value.int IntKind.i64 0)] := by kernel_rfl
theorem Wx_tC54 : callable cx.P 54 = true := by kernel_rfl
theorem Wx_tZ36 : tySize cx.P 36 = some 2 := by kernel_rfl
theorem Wx_tA36 : tyAgg cx.P 36 = some 2 := by kernel_rfl
theorem Wx_tP36 : tyPlaces cx.P 36 = some (fun i => (#[(0, 1), (1, 1)] : Array (Nat × Nat))[i]?) := by kernel_rfl
theorem Wx_tC33 : callable cx.P 33 = true := by kernel_rfl
theorem Wx_tC70 : callable cx.P 70 = true := by kernel_rfl
theorem Wx_tC34 : callable cx.P 34 = true := by kernel_rfl
theorem Wx_tC37 : callable cx.P 37 = true := by kernel_rfl
theorem Wx_tC35 : callable cx.P 35 = true := by kernel_rfl
theorem Wx_tF36_0 : tyField cx.P 36 0 = some (0, 4) := by kernel_rfl
theorem Wx_tS4 : tySc cx.P 4 = true := by kernel_rfl
theorem Wx_tC29 : callable cx.P 29 = true := by kernel_rfl
theorem Wx_tC71 : callable cx.P 71 = true := by kernel_rfl
theorem Wx_tC38 : callable cx.P 38 = true := by kernel_rfl
theorem c_rGuess (x y : Int) (hy : 0 < y.natAbs) (hxy : y.natAbs ≤ x.natAbs) (hx : (digs x.natAbs).length ≤ 1000000000) : ECalls cx 70 [(intR (x)), (intR (y))] (intR ((guessN x.natAbs y.natAbs : Nat) : Int)) := by
  refine ecalls_of_awp Tryd.func70 (c := _) rfl (Nat.le_of_ble_eq_true rfl) ?_
  show awp cx 74 _ (postF cx Tryd.f70 _) ⟨[(0, (intR (x))), (1, (intR (y)))], []⟩
  have hlb := digs_pos_len hy
  have hla := digs_pos_len (show 0 < x.natAbs by omega)
  have hll := digs_len_le hxy
  have hta := Dig.getD (digs_dig x.natAbs) ((digs (x).natAbs).length - 1)
  have hta2 := Dig.getD (digs_dig x.natAbs) ((digs (x).natAbs).length - 2)
  have htb := Dig.getD (digs_dig y.natAbs) ((digs (y).natAbs).length - 1)
  refine awp_seq fun K0 hK0 => ?_
  refine awp_region rfl ?_
  refine o_box 2 [(bp (x < 0)), (AV.sl 1 (ns .i64 (digs (x).natAbs)))] Gd.none rfl rfl ?_
  refine o_box 3 [(bp (y < 0)), (AV.sl 1 (ns .i64 (digs (y).natAbs)))] Gd.none rfl rfl ?_
  refine o_alloc 4 [(AV.lit (.bool false)), (AV.lit (.slice none 0 0))] Gd.none Wx_tO36 rfl rfl rfl ?_
  refine aops_end ?_
  refine hK0 _ ?_
  refine awp_seq fun K1 hK1 => ?_
  refine awp_region rfl ?_
  refine o_fieldRef 1 Gd.none Wx_tF36_1 rfl rfl ?_
  refine o_loadS (AV.sl 1 (ns .i64 (digs (y).natAbs))) Gd.none Wx_tS22 rfl rfl rfl ?_
  refine n_len (digs (y).natAbs) Gd.none Wx_tU22 rfl ?_
  refine o_assign (nm .i64 ((digs (y).natAbs).length)) Gd.none rfl ?_
  refine aops_end ?_
  refine hK1 _ ?_
  refine awp_seq fun K2 hK2 => ?_
  refine awp_region rfl ?_
  refine o_fieldRef 1 Gd.none Wx_tF36_1 rfl rfl ?_
  refine o_loadS (AV.sl 1 (ns .i64 (digs (x).natAbs))) Gd.none Wx_tS22 rfl rfl rfl ?_
  refine n_len (digs (x).natAbs) Gd.none Wx_tU22 rfl ?_
  refine o_move (nm .i64 ((digs (y).natAbs).length)) Gd.none rfl ?_
  refine n_sub ((digs (x).natAbs).length) ((digs (y).natAbs).length) Gd.none rfl rfl (by omega) (by simp only [topOf]; omega) ?_
  refine o_assign (nm .i64 (((digs (x).natAbs).length) - ((digs (y).natAbs).length))) Gd.none rfl ?_
  refine aops_end ?_
  refine hK2 _ ?_
  refine awp_seq fun K3 hK3 => ?_
  refine awp_region rfl ?_
  refine o_fieldRef 1 Gd.none Wx_tF36_1 rfl rfl ?_
  refine o_loadS (AV.sl 1 (ns .i64 (digs (x).natAbs))) Gd.none Wx_tS22 rfl rfl rfl ?_
  refine o_fieldRef 1 Gd.none Wx_tF36_1 rfl rfl ?_
  refine o_loadS (AV.sl 1 (ns .i64 (digs (x).natAbs))) Gd.none Wx_tS22 rfl rfl rfl ?_
  refine n_len (digs (x).natAbs) Gd.none Wx_tU22 rfl ?_
  refine n_sub ((digs (x).natAbs).length) (1) Gd.none rfl rfl (by omega) (by simp only [topOf]; omega) ?_
  refine n_index (digs (x).natAbs) (((digs (x).natAbs).length) - (1)) Gd.none Wx_tE22 rfl rfl (by omega) ?_
  refine n_loadI (digs (x).natAbs) (((digs (x).natAbs).length) - (1)) Gd.none Wx_tS3 rfl (by omega) ?_
  refine o_assign (nm .i64 ((digs (x).natAbs).getD (((digs (x).natAbs).length) - (1)) 0)) Gd.none rfl ?_
  refine aops_end ?_
  refine hK3 _ ?_
  refine awp_seqJ (J := fun σ => ∃ (sh : Nat), ∃ (top : Nat), (sh = gSh x.natAbs y.natAbs) ∧ (top = gTop x.natAbs y.natAbs) ∧ (sh ≤ 1000000000) ∧ (top < 1000000000000000000) ∧ True ∧ σ = ⟨[(2, (AV.ref 2 (0))), (3, (AV.ref 3 (0))), (4, (AV.ref 4 (0))), (5, (nm .i64 ((digs (y).natAbs).length))), (6, (nm .i64 (sh))), (7, (nm .i64 (top)))], [(2, (AO.var 36 [(bp (x < 0)), (AV.sl 1 (ns .i64 (digs (x).natAbs)))])), (3, (AO.var 36 [(bp (y < 0)), (AV.sl 1 (ns .i64 (digs (y).natAbs)))])), (4, (AO.var 36 [(AV.lit (.bool false)), (AV.lit (.slice none 0 0))]))]⟩) ?ja0 ?jb0
  case ja0 =>
    refine awp_seq fun K4 hK4 => ?_
    refine awp_region rfl ?_
    refine o_move (nm .i64 ((digs (x).natAbs).getD (((digs (x).natAbs).length) - (1)) 0)) Gd.none rfl ?_
    refine o_fieldRef 1 Gd.none Wx_tF36_1 rfl rfl ?_
    refine o_loadS (AV.sl 1 (ns .i64 (digs (y).natAbs))) Gd.none Wx_tS22 rfl rfl rfl ?_
    refine o_move (nm .i64 ((digs (y).natAbs).length)) Gd.none rfl ?_
    refine n_sub ((digs (y).natAbs).length) (1) Gd.none rfl rfl (by omega) (by simp only [topOf]; omega) ?_
    refine n_index (digs (y).natAbs) (((digs (y).natAbs).length) - (1)) Gd.none Wx_tE22 rfl rfl (by omega) ?_
    refine n_loadI (digs (y).natAbs) (((digs (y).natAbs).length) - (1)) Gd.none Wx_tS3 rfl (by omega) ?_
    refine n_leq ((digs (x).natAbs).getD (((digs (x).natAbs).length) - (1)) 0) ((digs (y).natAbs).getD (((digs (y).natAbs).length) - (1)) 0) Gd.none rfl rfl ?_
    refine o_move (bp (((digs (x).natAbs).getD (((digs (x).natAbs).length) - (1)) 0) ≤ ((digs (y).natAbs).getD (((digs (y).natAbs).length) - (1)) 0))) Gd.none rfl ?_
    refine o_splitP (q := ((digs (x).natAbs).getD (((digs (x).natAbs).length) - (1)) 0) ≤ ((digs (y).natAbs).getD (((digs (y).natAbs).length) - (1)) 0)) 34 rfl (fun h1 => ?_) (fun h1 => ?_)
    · refine o_move (nm .i64 (((digs (x).natAbs).length) - ((digs (y).natAbs).length))) (Gd.yes rfl rfl (decide_eq_true h1)) rfl ?_
      refine n_gtr (((digs (x).natAbs).length) - ((digs (y).natAbs).length)) (0) (Gd.yes rfl rfl (decide_eq_true h1)) rfl rfl ?_
      refine o_pickT (b := decide (((digs (x).natAbs).getD (((digs (x).natAbs).length) - (1)) 0) ≤ ((digs (y).natAbs).getD (((digs (y).natAbs).length) - (1)) 0))) (bp ((0) < (((digs (x).natAbs).length) - ((digs (y).natAbs).length)))) Gd.none rfl (decide_eq_true h1) rfl ?_
      refine aops_end ?_
      refine hK4 _ ?_
      refine awp_condQ (q := (0) < (((digs (x).natAbs).length) - ((digs (y).natAbs).length))) rfl (fun h2 => ?_) (fun h2 => ?_)
      · refine awp_seq fun K5 hK5 => ?_
        refine awp_region rfl ?_
        refine o_move (nm .i64 (((digs (x).natAbs).length) - ((digs (y).natAbs).length))) Gd.none rfl ?_
        refine n_sub (((digs (x).natAbs).length) - ((digs (y).natAbs).length)) (1) Gd.none rfl rfl (by omega) (by simp only [topOf]; omega) ?_
        refine o_assign (nm .i64 ((((digs (x).natAbs).length) - ((digs (y).natAbs).length)) - (1))) Gd.none rfl ?_
        refine aops_end ?_
        refine hK5 _ ?_
        refine awp_region rfl ?_
        refine o_move (nm .i64 ((digs (x).natAbs).getD (((digs (x).natAbs).length) - (1)) 0)) Gd.none rfl ?_
        refine n_mul ((digs (x).natAbs).getD (((digs (x).natAbs).length) - (1)) 0) (1000000000) Gd.none rfl rfl (by simp only [topOf]; omega) ?_
        refine o_fieldRef 1 Gd.none Wx_tF36_1 rfl rfl ?_
        refine o_loadS (AV.sl 1 (ns .i64 (digs (x).natAbs))) Gd.none Wx_tS22 rfl rfl rfl ?_
        refine o_fieldRef 1 Gd.none Wx_tF36_1 rfl rfl ?_
        refine o_loadS (AV.sl 1 (ns .i64 (digs (x).natAbs))) Gd.none Wx_tS22 rfl rfl rfl ?_
        refine n_len (digs (x).natAbs) Gd.none Wx_tU22 rfl ?_
        refine n_sub ((digs (x).natAbs).length) (2) Gd.none rfl rfl (by omega) (by simp only [topOf]; omega) ?_
        refine n_index (digs (x).natAbs) (((digs (x).natAbs).length) - (2)) Gd.none Wx_tE22 rfl rfl (by omega) ?_
        refine n_loadI (digs (x).natAbs) (((digs (x).natAbs).length) - (2)) Gd.none Wx_tS3 rfl (by omega) ?_
        refine n_add (((digs (x).natAbs).getD (((digs (x).natAbs).length) - (1)) 0) * (1000000000)) ((digs (x).natAbs).getD (((digs (x).natAbs).length) - (2)) 0) Gd.none rfl rfl (by simp only [topOf]; omega) ?_
        refine o_assign (nm .i64 ((((digs (x).natAbs).getD (((digs (x).natAbs).length) - (1)) 0) * (1000000000)) + ((digs (x).natAbs).getD (((digs (x).natAbs).length) - (2)) 0))) Gd.none rfl ?_
        refine aops_end ?_
        exact ⟨_, ⟨(digs (x).natAbs).length - (digs (y).natAbs).length - 1, ((digs (x).natAbs).getD ((digs (x).natAbs).length - 1) 0) * 1000000000 + (digs (x).natAbs).getD ((digs (x).natAbs).length - 2) 0, (by unfold gSh; rw [if_pos (show gC x.natAbs y.natAbs from ⟨h1, by omega⟩)]), (by unfold gTop; rw [if_pos (show gC x.natAbs y.natAbs from ⟨h1, by omega⟩)]), (by omega), (by omega), trivial, rfl⟩, Wk.sub (And.intro (by exact rfl) (And.intro (by exact rfl) (And.intro (by exact rfl) (And.intro (by exact rfl) (And.intro (by first | rfl | exact congrArg (nm _) (by omega) | exact nm_int (by omega) | exact nm_int (by simp [IntKind.wrap, IntKind.bits, IntKind.signed]; omega)) (And.intro (by first | rfl | exact congrArg (nm _) (by omega) | exact nm_int (by omega) | exact nm_int (by simp [IntKind.wrap, IntKind.bits, IntKind.signed]; omega)) (trivial))))))) (And.intro (by first | rfl | exact row_ns (by simp) | exact congrArg (fun x => some (AO.blk (.stringIter _ x))) (by omega)) (And.intro (by first | rfl | exact row_ns (by simp) | exact congrArg (fun x => some (AO.blk (.stringIter _ x))) (by omega)) (And.intro (by first | rfl | exact row_ns (by simp) | exact congrArg (fun x => some (AO.blk (.stringIter _ x))) (by omega)) (trivial))))⟩
      · refine awp_skip ?_
        exact ⟨_, ⟨(digs (x).natAbs).length - (digs (y).natAbs).length, ((digs (x).natAbs).getD ((digs (x).natAbs).length - 1) 0), (by unfold gSh; rw [if_neg (show ¬ gC x.natAbs y.natAbs from fun h => absurd h.2 (by omega))]), (by unfold gTop; rw [if_neg (show ¬ gC x.natAbs y.natAbs from fun h => absurd h.2 (by omega))]), (by omega), (by omega), trivial, rfl⟩, Wk.sub (And.intro (by exact rfl) (And.intro (by exact rfl) (And.intro (by exact rfl) (And.intro (by exact rfl) (And.intro (by first | rfl | exact congrArg (nm _) (by omega) | exact nm_int (by omega) | exact nm_int (by simp [IntKind.wrap, IntKind.bits, IntKind.signed]; omega)) (And.intro (by first | rfl | exact congrArg (nm _) (by omega) | exact nm_int (by omega) | exact nm_int (by simp [IntKind.wrap, IntKind.bits, IntKind.signed]; omega)) (trivial))))))) (And.intro (by first | rfl | exact row_ns (by simp) | exact congrArg (fun x => some (AO.blk (.stringIter _ x))) (by omega)) (And.intro (by first | rfl | exact row_ns (by simp) | exact congrArg (fun x => some (AO.blk (.stringIter _ x))) (by omega)) (And.intro (by first | rfl | exact row_ns (by simp) | exact congrArg (fun x => some (AO.blk (.stringIter _ x))) (by omega)) (trivial))))⟩
    · refine o_skip (b := decide (((digs (x).natAbs).getD (((digs (x).natAbs).length) - (1)) 0) ≤ ((digs (y).natAbs).getD (((digs (y).natAbs).length) - (1)) 0))) rfl rfl (decide_eq_false h1) ?_
      refine o_skip (b := decide (((digs (x).natAbs).getD (((digs (x).natAbs).length) - (1)) 0) ≤ ((digs (y).natAbs).getD (((digs (y).natAbs).length) - (1)) 0))) rfl rfl (decide_eq_false h1) ?_
      refine o_pickF (b := decide (((digs (x).natAbs).getD (((digs (x).natAbs).length) - (1)) 0) ≤ ((digs (y).natAbs).getD (((digs (y).natAbs).length) - (1)) 0))) (AV.lit (.bool false)) Gd.none rfl (decide_eq_false h1) rfl ?_
      refine aops_end ?_
      refine hK4 _ ?_
      refine awp_condB (b := false) rfl (fun hh => absurd (hh.symm.trans rfl) (by decide)) (fun _ => ?_)
      refine awp_skip ?_
      exact ⟨_, ⟨(digs (x).natAbs).length - (digs (y).natAbs).length, ((digs (x).natAbs).getD ((digs (x).natAbs).length - 1) 0), (by unfold gSh; rw [if_neg (show ¬ gC x.natAbs y.natAbs from fun h => absurd h.1 (by omega))]), (by unfold gTop; rw [if_neg (show ¬ gC x.natAbs y.natAbs from fun h => absurd h.1 (by omega))]), (by omega), (by omega), trivial, rfl⟩, Wk.sub (And.intro (by exact rfl) (And.intro (by exact rfl) (And.intro (by exact rfl) (And.intro (by exact rfl) (And.intro (by first | rfl | exact congrArg (nm _) (by omega) | exact nm_int (by omega) | exact nm_int (by simp [IntKind.wrap, IntKind.bits, IntKind.signed]; omega)) (And.intro (by first | rfl | exact congrArg (nm _) (by omega) | exact nm_int (by omega) | exact nm_int (by simp [IntKind.wrap, IntKind.bits, IntKind.signed]; omega)) (trivial))))))) (And.intro (by first | rfl | exact row_ns (by simp) | exact congrArg (fun x => some (AO.blk (.stringIter _ x))) (by omega)) (And.intro (by first | rfl | exact row_ns (by simp) | exact congrArg (fun x => some (AO.blk (.stringIter _ x))) (by omega)) (And.intro (by first | rfl | exact row_ns (by simp) | exact congrArg (fun x => some (AO.blk (.stringIter _ x))) (by omega)) (trivial))))⟩
  rintro _ ⟨sh, top, hs, ht, hs2, ht2, -, rfl⟩
  have hdq := Nat.div_le_self top (((digs (y).natAbs).getD ((digs (y).natAbs).length - 1) 0) + 1)
  refine awp_seq fun K6 hK6 => ?_
  refine awp_region rfl ?_
  refine o_move (nm .i64 (top)) Gd.none rfl ?_
  refine o_fieldRef 1 Gd.none Wx_tF36_1 rfl rfl ?_
  refine o_loadS (AV.sl 1 (ns .i64 (digs (y).natAbs))) Gd.none Wx_tS22 rfl rfl rfl ?_
  refine o_move (nm .i64 ((digs (y).natAbs).length)) Gd.none rfl ?_
  refine n_sub ((digs (y).natAbs).length) (1) Gd.none rfl rfl (by omega) (by simp only [topOf]; omega) ?_
  refine n_index (digs (y).natAbs) (((digs (y).natAbs).length) - (1)) Gd.none Wx_tE22 rfl rfl (by omega) ?_
  refine n_loadI (digs (y).natAbs) (((digs (y).natAbs).length) - (1)) Gd.none Wx_tS3 rfl (by omega) ?_
  refine n_add ((digs (y).natAbs).getD (((digs (y).natAbs).length) - (1)) 0) (1) Gd.none rfl rfl (by simp only [topOf]; omega) ?_
  refine n_quo (top) (((digs (y).natAbs).getD (((digs (y).natAbs).length) - (1)) 0) + (1)) Gd.none rfl rfl (by omega) (by simp only [topOf]; omega) ?_
  refine n_max ((top) / (((digs (y).natAbs).getD (((digs (y).natAbs).length) - (1)) 0) + (1))) (1) Gd.none rfl rfl (fun a c w => run_max a c w) ?_
  refine o_assign (nm .i64 (max ((top) / (((digs (y).natAbs).getD (((digs (y).natAbs).length) - (1)) 0) + (1))) (1))) Gd.none rfl ?_
  refine aops_end ?_
  refine hK6 _ ?_
  refine awp_seq fun K7 hK7 => ?_
  refine awp_region rfl ?_
  refine o_move (nm .i64 (sh)) Gd.none rfl ?_
  refine n_make 101 (sh) Gd.none Wx_tE22 Wx_tO3 rfl rfl (by omega) rfl rfl ?_
  refine o_assign (AV.row 101) Gd.none rfl ?_
  refine aops_end ?_
  refine hK7 _ ?_
  refine awp_seq fun K8 hK8 => ?_
  refine awp_block ?_
  refine awp_loopR (fun κ σ => ∃ (u : Nat), ∃ (r : List Nat), (u ≤ 1000000000000000000) ∧ (r ++ digs u = List.replicate sh 0 ++ digs (max (top / (((digs (y).natAbs).getD ((digs (y).natAbs).length - 1) 0) + 1)) 1)) ∧ (Dig r) ∧ (u) = κ ∧ σ = ⟨[(2, (AV.ref 2 (0))), (3, (AV.ref 3 (0))), (4, (AV.ref 4 (0))), (8, (nm .i64 (u))), (9, (AV.row 5))], [(2, (AO.var 36 [(bp (x < 0)), (AV.sl 1 (ns .i64 (digs (x).natAbs)))])), (3, (AO.var 36 [(bp (y < 0)), (AV.sl 1 (ns .i64 (digs (y).natAbs)))])), (4, (AO.var 36 [(AV.lit (.bool false)), (AV.lit (.slice none 0 0))])), (5, (AO.row 3 1 (ns .i64 (r))))]⟩) ⟨_, _, ⟨max (top / (((digs (y).natAbs).getD ((digs (y).natAbs).length - 1) 0) + 1)) 1, List.replicate sh 0, (by have := Nat.div_le_self top (((digs (y).natAbs).getD ((digs (y).natAbs).length - 1) 0) + 1); omega), rfl, (Dig.repl _), rfl, rfl⟩, ?wk1⟩ ?rd1
  case wk1 =>
    exact Wk.trans (Wk.sub (σ' := ⟨[(2, (AV.ref 2 (0))), (3, (AV.ref 3 (0))), (4, (AV.ref 4 (0))), (8, (nm .i64 (max ((top) / (((digs (y).natAbs).getD (((digs (y).natAbs).length) - (1)) 0) + (1))) (1)))), (9, (AV.row 101))], [(2, (AO.var 36 [(bp (x < 0)), (AV.sl 1 (ns .i64 (digs (x).natAbs)))])), (3, (AO.var 36 [(bp (y < 0)), (AV.sl 1 (ns .i64 (digs (y).natAbs)))])), (4, (AO.var 36 [(AV.lit (.bool false)), (AV.lit (.slice none 0 0))])), (101, (AO.row 3 1 (ns .i64 (List.replicate (sh) 0))))]⟩) (And.intro rfl (And.intro rfl (And.intro rfl (And.intro rfl (And.intro rfl (trivial)))))) (And.intro rfl (And.intro rfl (And.intro rfl (And.intro rfl (trivial)))))) (Wk.trans (Wk.ren (id := 101) (id' := 5) rfl) (Wk.sub (And.intro (by exact rfl) (And.intro (by exact rfl) (And.intro (by exact rfl) (And.intro (by first | rfl | exact congrArg (nm _) (by omega) | exact nm_int (by omega) | exact nm_int (by simp [IntKind.wrap, IntKind.bits, IntKind.signed]; omega)) (And.intro (by first | rfl | (simp)) (trivial)))))) (And.intro (by first | rfl | exact row_ns (by simp) | exact congrArg (fun x => some (AO.blk (.stringIter _ x))) (by omega)) (And.intro (by first | rfl | exact row_ns (by simp) | exact congrArg (fun x => some (AO.blk (.stringIter _ x))) (by omega)) (And.intro (by first | rfl | exact row_ns (by simp) | exact congrArg (fun x => some (AO.blk (.stringIter _ x))) (by omega)) (And.intro (by first | rfl | exact row_ns (by simp) | exact congrArg (fun x => some (AO.blk (.stringIter _ x))) (by omega)) (trivial)))))))
  rintro κ _ ⟨u, r, hu, hr, hrd, rfl, rfl⟩
  have hlen := congrArg List.length hr
  simp only [List.length_append, List.length_replicate] at hlen
  have hq3 := digs_len_small (n := max (top / (((digs (y).natAbs).getD ((digs (y).natAbs).length - 1) 0) + 1)) 1) (by have := Nat.div_le_self top (((digs (y).natAbs).getD ((digs (y).natAbs).length - 1) 0) + 1); omega)
  refine awp_seq fun K9 hK9 => ?_
  refine awp_seq fun K10 hK10 => ?_
  refine awp_region rfl ?_
  refine o_move (nm .i64 (u)) Gd.none rfl ?_
  refine n_gtr (u) (0) Gd.none rfl rfl ?_
  refine aops_end ?_
  refine hK10 _ ?_
  refine awp_condQ (q := (0) < (u)) rfl (fun h3 => ?_) (fun h3 => ?_)
  · refine awp_skip ?_
    refine hK9 _ ?_
    refine awp_block ?_
    refine awp_seq fun K11 hK11 => ?_
    refine awp_region rfl ?_
    refine o_move (AV.row 5) Gd.none rfl ?_
    refine o_move (nm .i64 (u)) Gd.none rfl ?_
    refine n_rem (u) (1000000000) Gd.none rfl rfl (by omega) ?_
    refine o_buildSlice 201 (ns .i64 ([(u) % (1000000000)])) [(0, [(nm .i64 ((u) % (1000000000)))])] Gd.none Wx_tE22 rfl Wx_tO3 rfl rfl rfl rfl rfl rfl rfl ?_
    refine n_append 202 (r) ([(u) % (1000000000)]) [(201, (AO.row 3 1 (ns .i64 ([(u) % (1000000000)])))), (2, (AO.var 36 [(bp (x < 0)), (AV.sl 1 (ns .i64 (digs (x).natAbs)))])), (3, (AO.var 36 [(bp (y < 0)), (AV.sl 1 (ns .i64 (digs (y).natAbs)))])), (4, (AO.var 36 [(AV.lit (.bool false)), (AV.lit (.slice none 0 0))]))] Gd.none Wx_tE22 Wx_tO3 rfl rfl rfl rfl rfl (by simp only [List.length_append, List.length_cons, List.length_nil]; omega) (by decide) rfl rfl ?_
    refine o_assign (AV.row 202) Gd.none rfl ?_
    refine aops_end ?_
    refine hK11 _ ?_
    refine awp_region rfl ?_
    refine o_move (nm .i64 (u)) Gd.none rfl ?_
    refine n_quo (u) (1000000000) Gd.none rfl rfl (by omega) (by simp only [topOf]; omega) ?_
    refine o_assign (nm .i64 ((u) / (1000000000))) Gd.none rfl ?_
    refine aops_end ?_
    refine ⟨_, _, ?lt, ⟨(u) / (1000000000), (r) ++ ([(u) % (1000000000)]), (by omega), (app_step hr (by assumption)), (hrd.snoc (Nat.mod_lt _ (by decide))), rfl, rfl⟩, ?wk⟩
    case lt => omega
    case wk => exact Wk.trans (Wk.sub (σ' := ⟨[(2, (AV.ref 2 (0))), (3, (AV.ref 3 (0))), (4, (AV.ref 4 (0))), (8, (nm .i64 ((u) / (1000000000)))), (9, (AV.row 202))], [(2, (AO.var 36 [(bp (x < 0)), (AV.sl 1 (ns .i64 (digs (x).natAbs)))])), (3, (AO.var 36 [(bp (y < 0)), (AV.sl 1 (ns .i64 (digs (y).natAbs)))])), (4, (AO.var 36 [(AV.lit (.bool false)), (AV.lit (.slice none 0 0))])), (202, (AO.row 3 1 (ns .i64 ((r) ++ ([(u) % (1000000000)])))))]⟩) (And.intro rfl (And.intro rfl (And.intro rfl (And.intro rfl (And.intro rfl (trivial)))))) (And.intro rfl (And.intro rfl (And.intro rfl (And.intro rfl (trivial)))))) (Wk.trans (Wk.ren (id := 202) (id' := 5) rfl) (Wk.sub (And.intro (by exact rfl) (And.intro (by exact rfl) (And.intro (by exact rfl) (And.intro (by first | rfl | exact congrArg (nm _) (by omega) | exact nm_int (by omega) | exact nm_int (by simp [IntKind.wrap, IntKind.bits, IntKind.signed]; omega)) (And.intro (by first | rfl | (simp)) (trivial)))))) (And.intro (by first | rfl | exact row_ns (by simp) | exact congrArg (fun x => some (AO.blk (.stringIter _ x))) (by omega)) (And.intro (by first | rfl | exact row_ns (by simp) | exact congrArg (fun x => some (AO.blk (.stringIter _ x))) (by omega)) (And.intro (by first | rfl | exact row_ns (by simp) | exact congrArg (fun x => some (AO.blk (.stringIter _ x))) (by omega)) (And.intro (by first | rfl | exact row_ns (by simp) | exact congrArg (fun x => some (AO.blk (.stringIter _ x))) (by omega)) (trivial)))))))
  · refine awp_exit ?_
    refine hK8 _ ?_
    refine awp_seq fun K12 hK12 => ?_
    refine awp_region rfl ?_
    refine o_move (AV.row 5) Gd.none rfl ?_
    refine o_callG [(5, 1, (ns .i64 (r)))] [(AV.lit (.bool false)), (AV.sl 1 (ns .i64 (r)))] _ (intR ((sg (false) (val (r))))) [(2, (AO.var 36 [(bp (x < 0)), (AV.sl 1 (ns .i64 (digs (x).natAbs)))])), (3, (AO.var 36 [(bp (y < 0)), (AV.sl 1 (ns .i64 (digs (y).natAbs)))])), (4, (AO.var 36 [(AV.lit (.bool false)), (AV.lit (.slice none 0 0))]))] Gd.none Wx_tC54 rfl (And.intro ⟨_, rfl⟩ (trivial)) rfl rfl (LeL.cons (AV.le_refl _) (LeL.cons (AV.le_refl _) (LeL.nil))) (c_rTrim (false) (r) (by first | assumption | exact dgn_dig _ _ | exact digs_dig _ | exact Dig.snoc (by assumption) (by assumption) | exact Dig.cons (by omega) (digs_dig _))) rfl ?_
    refine o_store [(2, (AO.var 36 [(bp (x < 0)), (AV.sl 1 (ns .i64 (digs (x).natAbs)))])), (3, (AO.var 36 [(bp (y < 0)), (AV.sl 1 (ns .i64 (digs (y).natAbs)))])), (4, (AO.var 36 [(bp ((sg (false) (val (r))) < 0)), (AV.sl 1 (ns .i64 (digs ((sg (false) (val (r)))).natAbs)))]))] Gd.none Wx_tZ36 rfl rfl rfl rfl rfl rfl ?_
    refine aops_end ?_
    refine hK12 _ ?_
    refine awp_ret ?_
    refine post_ret ⟨[(AV.agg [(bp ((sg (false) (val (r))) < 0)), (AV.sl 1 (ns .i64 (digs ((sg (false) (val (r)))).natAbs)))])], And.intro ⟨4, (AO.var 36 [(bp ((sg (false) (val (r))) < 0)), (AV.sl 1 (ns .i64 (digs ((sg (false) (val (r)))).natAbs)))]), rfl, rfl, rfl, Or.inl ⟨Wx_tA36, AV.le_refl _⟩⟩ (trivial), rfl, ?_⟩
    refine congrArg intR ?_
    rw [app_end hr (by assumption), val_guess]
    show _ = ((_ : Nat) : Int)
    unfold guessN gQ
    rw [← hs, ← ht]

theorem c_rDiv (x y : Int) (hy : 0 < y) (hx : (digs x.natAbs).length ≤ 800000000) (hyl : (digs y.natAbs).length ≤ 800000000) : ECalls cx 32 [(intR (x)), (intR (y))] (.tup [intR (x / y), intR (x % y)]) := by
  refine ecalls_of_awp Tryd.func32 (c := _) rfl (Nat.le_of_ble_eq_true rfl) ?_
  show awp cx 46 _ (postF cx Tryd.f32 _) ⟨[(0, (intR (x))), (1, (intR (y)))], []⟩
  refine awp_seq fun K0 hK0 => ?_
  refine awp_region rfl ?_
  refine o_box 2 [(bp (x < 0)), (AV.sl 1 (ns .i64 (digs (x).natAbs)))] Gd.none rfl rfl ?_
  refine o_box 3 [(bp (y < 0)), (AV.sl 1 (ns .i64 (digs (y).natAbs)))] Gd.none rfl rfl ?_
  refine o_alloc 4 [(AV.lit (.bool false)), (AV.lit (.slice none 0 0))] Gd.none Wx_tO36 rfl rfl rfl ?_
  refine o_alloc 5 [(AV.lit (.bool false)), (AV.lit (.slice none 0 0))] Gd.none Wx_tO36 rfl rfl rfl ?_
  refine aops_end ?_
  refine hK0 _ ?_
  refine awp_seq fun K1 hK1 => ?_
  refine awp_region rfl ?_
  refine o_build [(AV.lit (.bool false)), (AV.lit (.slice none 0 0))] [] Gd.none Wx_tP36 Wx_tO36 rfl rfl rfl ?_
  refine o_alloc 6 [(AV.lit (.bool false)), (AV.lit (.slice none 0 0))] Gd.none Wx_tO36 rfl rfl rfl ?_
  refine o_store [(6, (AO.var 36 [(AV.lit (.bool false)), (AV.lit (.slice none 0 0))])), (5, (AO.var 36 [(AV.lit (.bool false)), (AV.lit (.slice none 0 0))])), (4, (AO.var 36 [(AV.lit (.bool false)), (AV.lit (.slice none 0 0))])), (3, (AO.var 36 [(bp (y < 0)), (AV.sl 1 (ns .i64 (digs (y).natAbs)))])), (2, (AO.var 36 [(bp (x < 0)), (AV.sl 1 (ns .i64 (digs (x).natAbs)))]))] Gd.none Wx_tZ36 rfl rfl rfl rfl rfl rfl ?_
  refine aops_end ?_
  refine hK1 _ ?_
  refine awp_seq fun K2 hK2 => ?_
  refine awp_region rfl ?_
  refine o_fieldRef 1 Gd.none Wx_tF36_1 rfl rfl ?_
  refine o_loadS (AV.sl 1 (ns .i64 (digs (x).natAbs))) Gd.none Wx_tS22 rfl rfl rfl ?_
  refine o_build [(AV.lit (.bool false)), (AV.sl 1 (ns .i64 (digs (x).natAbs)))] [(1, [(AV.sl 1 (ns .i64 (digs (x).natAbs)))])] Gd.none Wx_tP36 Wx_tO36 rfl rfl rfl ?_
  refine n_as (v' := (intR (((x.natAbs : Nat) : Int)))) (by exact absR x) ?_
  refine o_alloc 7 [(AV.lit (.bool false)), (AV.lit (.slice none 0 0))] Gd.none Wx_tO36 rfl rfl rfl ?_
  refine o_store [(7, (AO.var 36 [(bp (((x.natAbs : Nat) : Int) < 0)), (AV.sl 1 (ns .i64 (digs (((x.natAbs : Nat) : Int)).natAbs)))])), (6, (AO.var 36 [(AV.lit (.bool false)), (AV.lit (.slice none 0 0))])), (5, (AO.var 36 [(AV.lit (.bool false)), (AV.lit (.slice none 0 0))])), (4, (AO.var 36 [(AV.lit (.bool false)), (AV.lit (.slice none 0 0))])), (3, (AO.var 36 [(bp (y < 0)), (AV.sl 1 (ns .i64 (digs (y).natAbs)))])), (2, (AO.var 36 [(bp (x < 0)), (AV.sl 1 (ns .i64 (digs (x).natAbs)))]))] Gd.none Wx_tZ36 rfl rfl rfl rfl rfl rfl ?_
  refine aops_end ?_
  refine hK2 _ ?_
  refine awp_seq fun K3 hK3 => ?_
  refine awp_block ?_
  refine awp_wk (Wk.cells (i := 6) (cs' := [bp (((0 : Nat) : Int) < 0), AV.sl 1 (ns .i64 (digs (((0 : Nat) : Int)).natAbs))]) rfl (LeL.cons (AV.le_eq (bl_bp (b := false) (by simp))) (LeL.cons (AV.le_nil' (by decide) (by simp [digs_zero, ns])) LeL.nil))) ?_
  refine awp_loopR (fun κ σ => ∃ (q : Nat), ∃ (r : Nat), (x.natAbs = q * y.natAbs + r) ∧ (r) = κ ∧ σ = ⟨[(2, (AV.ref 2 (0))), (3, (AV.ref 3 (0))), (4, (AV.ref 4 (0))), (5, (AV.ref 5 (0))), (6, (AV.ref 6 (0))), (7, (AV.ref 7 (0)))], [(2, (AO.var 36 [(bp (x < 0)), (AV.sl 1 (ns .i64 (digs (x).natAbs)))])), (3, (AO.var 36 [(bp (y < 0)), (AV.sl 1 (ns .i64 (digs (y).natAbs)))])), (4, (AO.var 36 [(AV.lit (.bool false)), (AV.lit (.slice none 0 0))])), (5, (AO.var 36 [(AV.lit (.bool false)), (AV.lit (.slice none 0 0))])), (6, (AO.var 36 [(bp (((q : Nat) : Int) < 0)), (AV.sl 1 (ns .i64 (digs (((q : Nat) : Int)).natAbs)))])), (7, (AO.var 36 [(bp (((r : Nat) : Int) < 0)), (AV.sl 1 (ns .i64 (digs (((r : Nat) : Int)).natAbs)))]))]⟩) ⟨_, _, ⟨0, x.natAbs, (by omega), rfl, rfl⟩, ?wk0⟩ ?rd0
  case wk0 =>
    exact Wk.sub (And.intro (by exact rfl) (And.intro (by exact rfl) (And.intro (by exact rfl) (And.intro (by exact rfl) (And.intro (by exact rfl) (And.intro (by exact rfl) (trivial))))))) (And.intro (by first | rfl | exact row_ns (by simp) | exact congrArg (fun x => some (AO.blk (.stringIter _ x))) (by omega)) (And.intro (by first | rfl | exact row_ns (by simp) | exact congrArg (fun x => some (AO.blk (.stringIter _ x))) (by omega)) (And.intro (by first | rfl | exact row_ns (by simp) | exact congrArg (fun x => some (AO.blk (.stringIter _ x))) (by omega)) (And.intro (by first | rfl | exact row_ns (by simp) | exact congrArg (fun x => some (AO.blk (.stringIter _ x))) (by omega)) (And.intro (by first | rfl | exact row_ns (by simp) | exact congrArg (fun x => some (AO.blk (.stringIter _ x))) (by omega)) (And.intro (by first | rfl | exact row_ns (by simp) | exact congrArg (fun x => some (AO.blk (.stringIter _ x))) (by omega)) (trivial)))))))
  rintro κ _ ⟨q, r, hv, rfl, rfl⟩
  have hrx : r ≤ x.natAbs := by omega
  have hqx : q ≤ x.natAbs := by have := Nat.le_mul_of_pos_right q (show 0 < y.natAbs by omega); omega
  have hrl := digs_len_le hrx
  have hql := digs_len_le hqx
  have hrl2 : (digs (((r : Nat) : Int)).natAbs).length ≤ 800000000 := Nat.le_trans hrl hx
  have hql2 : (digs (((q : Nat) : Int)).natAbs).length ≤ 800000000 := Nat.le_trans hql hx
  have ho := len_one
  have hq1 := len_addZ ((q : Nat) : Int) 1
  have hcz := cmpZ_nn (r := r) hy
  refine awp_seq fun K4 hK4 => ?_
  refine awp_seq fun K5 hK5 => ?_
  refine awp_region rfl ?_
  refine o_loadA [(bp (((r : Nat) : Int) < 0)), (AV.sl 1 (ns .i64 (digs (((r : Nat) : Int)).natAbs)))] Gd.none Wx_tA36 rfl rfl rfl rfl rfl ?_
  refine o_loadA [(bp (y < 0)), (AV.sl 1 (ns .i64 (digs (y).natAbs)))] Gd.none Wx_tA36 rfl rfl rfl rfl rfl ?_
  refine o_call [(AV.agg [(bp (((r : Nat) : Int) < 0)), (AV.sl 1 (ns .i64 (digs (((r : Nat) : Int)).natAbs)))]), (AV.agg [(bp (y < 0)), (AV.sl 1 (ns .i64 (digs (y).natAbs)))])] (AV.lit (.int .i64 (cmpZ (((r : Nat) : Int)) (y)))) Gd.none Wx_tC33 rfl (c_rCmp (((r : Nat) : Int)) (y)) ?_
  refine o_geq (a := (cmpZ (((r : Nat) : Int)) (y))) (c := (((0 : Nat) : Int))) Gd.none rfl rfl ?_
  refine aops_end ?_
  refine hK5 _ ?_
  refine awp_condQ (q := (((0 : Nat) : Int)) ≤ (cmpZ (((r : Nat) : Int)) (y))) rfl (fun h1 => ?_) (fun h1 => ?_)
  · have hyr := hcz.1 h1
    have hg := guess_le (show 0 < y.natAbs by omega) hyr
    have hgr : guessN r y.natAbs ≤ r := by have := Nat.le_mul_of_pos_right (guessN r y.natAbs) (show 0 < y.natAbs by omega); omega
    have hgl := digs_len_le hgr
    have hgl2 : (digs (((guessN r y.natAbs : Nat) : Int)).natAbs).length ≤ 800000000 := Nat.le_trans hgl hrl2
    have hml : (digs (((guessN r y.natAbs : Nat) : Int) * y).natAbs).length ≤ 800000000 := Nat.le_trans (len_gy hg.2) hrl2
    refine awp_skip ?_
    refine hK4 _ ?_
    refine awp_block ?_
    refine awp_seq fun K6 hK6 => ?_
    refine awp_region rfl ?_
    refine o_loadA [(bp (((r : Nat) : Int) < 0)), (AV.sl 1 (ns .i64 (digs (((r : Nat) : Int)).natAbs)))] Gd.none Wx_tA36 rfl rfl rfl rfl rfl ?_
    refine o_loadA [(bp (y < 0)), (AV.sl 1 (ns .i64 (digs (y).natAbs)))] Gd.none Wx_tA36 rfl rfl rfl rfl rfl ?_
    refine o_call [(AV.agg [(bp (((r : Nat) : Int) < 0)), (AV.sl 1 (ns .i64 (digs (((r : Nat) : Int)).natAbs)))]), (AV.agg [(bp (y < 0)), (AV.sl 1 (ns .i64 (digs (y).natAbs)))])] (intR (((guessN (((r : Nat) : Int)).natAbs (y).natAbs : Nat) : Int))) Gd.none Wx_tC70 rfl (c_rGuess (((r : Nat) : Int)) (y) (by omega) (by omega) (by first | assumption | omega | (simp only [Int.natAbs_neg]; omega))) ?_
    refine n_as (v' := (intR (((guessN r y.natAbs : Nat) : Int)))) (by rfl) ?_
    refine o_alloc 101 [(AV.lit (.bool false)), (AV.lit (.slice none 0 0))] Gd.none Wx_tO36 rfl rfl rfl ?_
    refine o_store [(101, (AO.var 36 [(bp (((guessN r y.natAbs : Nat) : Int) < 0)), (AV.sl 1 (ns .i64 (digs (((guessN r y.natAbs : Nat) : Int)).natAbs)))])), (2, (AO.var 36 [(bp (x < 0)), (AV.sl 1 (ns .i64 (digs (x).natAbs)))])), (3, (AO.var 36 [(bp (y < 0)), (AV.sl 1 (ns .i64 (digs (y).natAbs)))])), (4, (AO.var 36 [(AV.lit (.bool false)), (AV.lit (.slice none 0 0))])), (5, (AO.var 36 [(AV.lit (.bool false)), (AV.lit (.slice none 0 0))])), (6, (AO.var 36 [(bp (((q : Nat) : Int) < 0)), (AV.sl 1 (ns .i64 (digs (((q : Nat) : Int)).natAbs)))])), (7, (AO.var 36 [(bp (((r : Nat) : Int) < 0)), (AV.sl 1 (ns .i64 (digs (((r : Nat) : Int)).natAbs)))]))] Gd.none Wx_tZ36 rfl rfl rfl rfl rfl rfl ?_
    refine aops_end ?_
    refine hK6 _ ?_
    refine awp_seq fun K7 hK7 => ?_
    refine awp_region rfl ?_
    refine o_loadA [(bp (((q : Nat) : Int) < 0)), (AV.sl 1 (ns .i64 (digs (((q : Nat) : Int)).natAbs)))] Gd.none Wx_tA36 rfl rfl rfl rfl rfl ?_
    refine o_loadA [(bp (((guessN r y.natAbs : Nat) : Int) < 0)), (AV.sl 1 (ns .i64 (digs (((guessN r y.natAbs : Nat) : Int)).natAbs)))] Gd.none Wx_tA36 rfl rfl rfl rfl rfl ?_
    refine o_call [(AV.agg [(bp (((q : Nat) : Int) < 0)), (AV.sl 1 (ns .i64 (digs (((q : Nat) : Int)).natAbs)))]), (AV.agg [(bp (((guessN r y.natAbs : Nat) : Int) < 0)), (AV.sl 1 (ns .i64 (digs (((guessN r y.natAbs : Nat) : Int)).natAbs)))])] (intR ((((q : Nat) : Int) + ((guessN r y.natAbs : Nat) : Int)))) Gd.none Wx_tC34 rfl (c_rAdd (((q : Nat) : Int)) (((guessN r y.natAbs : Nat) : Int)) (by first | assumption | omega | (simp only [Int.natAbs_neg]; omega)) (by first | assumption | omega | (simp only [Int.natAbs_neg]; omega))) ?_
    refine n_as (v' := (intR (((q + guessN r y.natAbs : Nat) : Int)))) (by exact congrArg intR (Int.natCast_add _ _).symm) ?_
    refine o_store [(101, (AO.var 36 [(bp (((guessN r y.natAbs : Nat) : Int) < 0)), (AV.sl 1 (ns .i64 (digs (((guessN r y.natAbs : Nat) : Int)).natAbs)))])), (2, (AO.var 36 [(bp (x < 0)), (AV.sl 1 (ns .i64 (digs (x).natAbs)))])), (3, (AO.var 36 [(bp (y < 0)), (AV.sl 1 (ns .i64 (digs (y).natAbs)))])), (4, (AO.var 36 [(AV.lit (.bool false)), (AV.lit (.slice none 0 0))])), (5, (AO.var 36 [(AV.lit (.bool false)), (AV.lit (.slice none 0 0))])), (6, (AO.var 36 [(bp (((q + guessN r y.natAbs : Nat) : Int) < 0)), (AV.sl 1 (ns .i64 (digs (((q + guessN r y.natAbs : Nat) : Int)).natAbs)))])), (7, (AO.var 36 [(bp (((r : Nat) : Int) < 0)), (AV.sl 1 (ns .i64 (digs (((r : Nat) : Int)).natAbs)))]))] Gd.none Wx_tZ36 rfl rfl rfl rfl rfl rfl ?_
    refine aops_end ?_
    refine hK7 _ ?_
    refine awp_regionD rfl ?_
    refine o_loadA [(bp (((r : Nat) : Int) < 0)), (AV.sl 1 (ns .i64 (digs (((r : Nat) : Int)).natAbs)))] Gd.none Wx_tA36 rfl rfl rfl rfl rfl ?_
    refine o_loadA [(bp (((guessN r y.natAbs : Nat) : Int) < 0)), (AV.sl 1 (ns .i64 (digs (((guessN r y.natAbs : Nat) : Int)).natAbs)))] Gd.none Wx_tA36 rfl rfl rfl rfl rfl ?_
    refine o_loadA [(bp (y < 0)), (AV.sl 1 (ns .i64 (digs (y).natAbs)))] Gd.none Wx_tA36 rfl rfl rfl rfl rfl ?_
    refine o_call [(AV.agg [(bp (((guessN r y.natAbs : Nat) : Int) < 0)), (AV.sl 1 (ns .i64 (digs (((guessN r y.natAbs : Nat) : Int)).natAbs)))]), (AV.agg [(bp (y < 0)), (AV.sl 1 (ns .i64 (digs (y).natAbs)))])] (intR ((((guessN r y.natAbs : Nat) : Int) * y))) Gd.none Wx_tC37 rfl (c_rMul (((guessN r y.natAbs : Nat) : Int)) (y) (by first | assumption | omega | (simp only [Int.natAbs_neg]; omega)) (by first | assumption | omega | (simp only [Int.natAbs_neg]; omega))) ?_
    refine o_call [(AV.agg [(bp (((r : Nat) : Int) < 0)), (AV.sl 1 (ns .i64 (digs (((r : Nat) : Int)).natAbs)))]), (intR ((((guessN r y.natAbs : Nat) : Int) * y)))] (intR ((((r : Nat) : Int) - (((guessN r y.natAbs : Nat) : Int) * y)))) Gd.none Wx_tC35 rfl (c_rSub (((r : Nat) : Int)) ((((guessN r y.natAbs : Nat) : Int) * y)) (by first | assumption | omega | (simp only [Int.natAbs_neg]; omega)) (by first | assumption | omega | (simp only [Int.natAbs_neg]; omega))) ?_
    refine n_as (v' := (intR (((r - guessN r y.natAbs * y.natAbs : Nat) : Int)))) (by exact congrArg intR (sub_cast hg.2 hy)) ?_
    refine o_store [(101, (AO.var 36 [(bp (((guessN r y.natAbs : Nat) : Int) < 0)), (AV.sl 1 (ns .i64 (digs (((guessN r y.natAbs : Nat) : Int)).natAbs)))])), (2, (AO.var 36 [(bp (x < 0)), (AV.sl 1 (ns .i64 (digs (x).natAbs)))])), (3, (AO.var 36 [(bp (y < 0)), (AV.sl 1 (ns .i64 (digs (y).natAbs)))])), (4, (AO.var 36 [(AV.lit (.bool false)), (AV.lit (.slice none 0 0))])), (5, (AO.var 36 [(AV.lit (.bool false)), (AV.lit (.slice none 0 0))])), (6, (AO.var 36 [(bp (((q + guessN r y.natAbs : Nat) : Int) < 0)), (AV.sl 1 (ns .i64 (digs (((q + guessN r y.natAbs : Nat) : Int)).natAbs)))])), (7, (AO.var 36 [(bp (((r - guessN r y.natAbs * y.natAbs : Nat) : Int) < 0)), (AV.sl 1 (ns .i64 (digs (((r - guessN r y.natAbs * y.natAbs : Nat) : Int)).natAbs)))]))] Gd.none Wx_tZ36 rfl rfl rfl rfl rfl rfl ?_
    refine aops_end ⟨by kernel_rfl, ?_⟩
    refine ⟨_, _, ?lt, ⟨q + guessN r y.natAbs, r - guessN r y.natAbs * y.natAbs, (div_inv hv hg.2), rfl, rfl⟩, ?wk⟩
    case lt => (have := Nat.mul_le_mul_right y.natAbs hg.1; omega)
    case wk => exact Wk.sub (And.intro (by exact rfl) (And.intro (by exact rfl) (And.intro (by exact rfl) (And.intro (by exact rfl) (And.intro (by exact rfl) (And.intro (by exact rfl) (trivial))))))) (And.intro (by first | rfl | exact row_ns (by simp) | exact congrArg (fun x => some (AO.blk (.stringIter _ x))) (by omega)) (And.intro (by first | rfl | exact row_ns (by simp) | exact congrArg (fun x => some (AO.blk (.stringIter _ x))) (by omega)) (And.intro (by first | rfl | exact row_ns (by simp) | exact congrArg (fun x => some (AO.blk (.stringIter _ x))) (by omega)) (And.intro (by first | rfl | exact row_ns (by simp) | exact congrArg (fun x => some (AO.blk (.stringIter _ x))) (by omega)) (And.intro (by first | rfl | exact row_ns (by simp) | exact congrArg (fun x => some (AO.blk (.stringIter _ x))) (by omega)) (And.intro (by first | rfl | exact row_ns (by simp) | exact congrArg (fun x => some (AO.blk (.stringIter _ x))) (by omega)) (trivial)))))))
  · have hry : r < y.natAbs := Nat.not_le.1 fun h => h1 (hcz.2 h)
    have hE := div_fin hv hry
    have hyy : ((y.natAbs : Nat) : Int) = y := by omega
    refine awp_exit ?_
    refine hK3 _ ?_
    refine awp_seq fun K8 hK8 => ?_
    refine awp_seq fun K9 hK9 => ?_
    refine awp_region rfl ?_
    refine o_fieldRef 0 Gd.none Wx_tF36_0 rfl rfl ?_
    refine o_loadS (bp (x < 0)) Gd.none Wx_tS4 rfl rfl rfl ?_
    refine o_notP (q := x < 0) Gd.none rfl ?_
    refine aops_end ?_
    refine hK9 _ ?_
    refine awp_condQ (q := ¬ (x < 0)) rfl (fun h2 => ?_) (fun h2 => ?_)
    · refine awp_seq fun K10 hK10 => ?_
      refine awp_regionD rfl ?_
      refine o_loadA [(bp (((q : Nat) : Int) < 0)), (AV.sl 1 (ns .i64 (digs (((q : Nat) : Int)).natAbs)))] Gd.none Wx_tA36 rfl rfl rfl rfl rfl ?_
      refine o_loadA [(bp (((r : Nat) : Int) < 0)), (AV.sl 1 (ns .i64 (digs (((r : Nat) : Int)).natAbs)))] Gd.none Wx_tA36 rfl rfl rfl rfl rfl ?_
      refine o_store [(2, (AO.var 36 [(bp (x < 0)), (AV.sl 1 (ns .i64 (digs (x).natAbs)))])), (3, (AO.var 36 [(bp (y < 0)), (AV.sl 1 (ns .i64 (digs (y).natAbs)))])), (4, (AO.var 36 [(bp (((q : Nat) : Int) < 0)), (AV.sl 1 (ns .i64 (digs (((q : Nat) : Int)).natAbs)))])), (5, (AO.var 36 [(AV.lit (.bool false)), (AV.lit (.slice none 0 0))])), (6, (AO.var 36 [(bp (((q : Nat) : Int) < 0)), (AV.sl 1 (ns .i64 (digs (((q : Nat) : Int)).natAbs)))])), (7, (AO.var 36 [(bp (((r : Nat) : Int) < 0)), (AV.sl 1 (ns .i64 (digs (((r : Nat) : Int)).natAbs)))]))] Gd.none Wx_tZ36 rfl rfl rfl rfl rfl rfl ?_
      refine o_store [(2, (AO.var 36 [(bp (x < 0)), (AV.sl 1 (ns .i64 (digs (x).natAbs)))])), (3, (AO.var 36 [(bp (y < 0)), (AV.sl 1 (ns .i64 (digs (y).natAbs)))])), (4, (AO.var 36 [(bp (((q : Nat) : Int) < 0)), (AV.sl 1 (ns .i64 (digs (((q : Nat) : Int)).natAbs)))])), (5, (AO.var 36 [(bp (((r : Nat) : Int) < 0)), (AV.sl 1 (ns .i64 (digs (((r : Nat) : Int)).natAbs)))])), (6, (AO.var 36 [(bp (((q : Nat) : Int) < 0)), (AV.sl 1 (ns .i64 (digs (((q : Nat) : Int)).natAbs)))])), (7, (AO.var 36 [(bp (((r : Nat) : Int) < 0)), (AV.sl 1 (ns .i64 (digs (((r : Nat) : Int)).natAbs)))]))] Gd.none Wx_tZ36 rfl rfl rfl rfl rfl rfl ?_
      refine aops_end ⟨by kernel_rfl, ?_⟩
      refine hK10 _ ?_
      refine awp_ret ?_
      refine post_ret ⟨[(AV.agg [(bp (((q : Nat) : Int) < 0)), (AV.sl 1 (ns .i64 (digs (((q : Nat) : Int)).natAbs)))]), (AV.agg [(bp (((r : Nat) : Int) < 0)), (AV.sl 1 (ns .i64 (digs (((r : Nat) : Int)).natAbs)))])], And.intro ⟨4, (AO.var 36 [(bp (((q : Nat) : Int) < 0)), (AV.sl 1 (ns .i64 (digs (((q : Nat) : Int)).natAbs)))]), rfl, rfl, rfl, Or.inl ⟨Wx_tA36, AV.le_refl _⟩⟩ (And.intro ⟨5, (AO.var 36 [(bp (((r : Nat) : Int) < 0)), (AV.sl 1 (ns .i64 (digs (((r : Nat) : Int)).natAbs)))]), rfl, rfl, rfl, Or.inl ⟨Wx_tA36, AV.le_refl _⟩⟩ (trivial)), rfl, ?_⟩
      have e := part1 (d := y.natAbs) h2 (by omega) hE.1 hE.2
      rw [hyy] at e
      exact tup_eq2 (congrArg intR e.1) (congrArg intR e.2)
    · refine awp_skip ?_
      refine hK8 _ ?_
      refine awp_seq fun K11 hK11 => ?_
      refine awp_seq fun K12 hK12 => ?_
      refine awp_region rfl ?_
      refine o_loadA [(bp (((r : Nat) : Int) < 0)), (AV.sl 1 (ns .i64 (digs (((r : Nat) : Int)).natAbs)))] Gd.none Wx_tA36 rfl rfl rfl rfl rfl ?_
      refine o_call [(AV.agg [(bp (((r : Nat) : Int) < 0)), (AV.sl 1 (ns .i64 (digs (((r : Nat) : Int)).natAbs)))])] (AV.lit (.int .i64 (sgn (((r : Nat) : Int))))) Gd.none Wx_tC29 rfl (c_rSign (((r : Nat) : Int))) ?_
      refine o_eql (a := (sgn (((r : Nat) : Int)))) (c := (((0 : Nat) : Int))) Gd.none rfl rfl ?_
      refine aops_end ?_
      refine hK12 _ ?_
      refine awp_condQ (q := (sgn (((r : Nat) : Int))) = (((0 : Nat) : Int))) rfl (fun h3 => ?_) (fun h3 => ?_)
      · refine awp_seq fun K13 hK13 => ?_
        refine awp_regionD rfl ?_
        refine o_loadA [(bp (((q : Nat) : Int) < 0)), (AV.sl 1 (ns .i64 (digs (((q : Nat) : Int)).natAbs)))] Gd.none Wx_tA36 rfl rfl rfl rfl rfl ?_
        refine o_call [(AV.agg [(bp (((q : Nat) : Int) < 0)), (AV.sl 1 (ns .i64 (digs (((q : Nat) : Int)).natAbs)))])] (intR ((-((q : Nat) : Int)))) Gd.none Wx_tC71 rfl (c_rMinus (((q : Nat) : Int))) ?_
        refine o_loadA [(bp (((r : Nat) : Int) < 0)), (AV.sl 1 (ns .i64 (digs (((r : Nat) : Int)).natAbs)))] Gd.none Wx_tA36 rfl rfl rfl rfl rfl ?_
        refine o_store [(2, (AO.var 36 [(bp (x < 0)), (AV.sl 1 (ns .i64 (digs (x).natAbs)))])), (3, (AO.var 36 [(bp (y < 0)), (AV.sl 1 (ns .i64 (digs (y).natAbs)))])), (4, (AO.var 36 [(bp ((-((q : Nat) : Int)) < 0)), (AV.sl 1 (ns .i64 (digs ((-((q : Nat) : Int))).natAbs)))])), (5, (AO.var 36 [(AV.lit (.bool false)), (AV.lit (.slice none 0 0))])), (6, (AO.var 36 [(bp (((q : Nat) : Int) < 0)), (AV.sl 1 (ns .i64 (digs (((q : Nat) : Int)).natAbs)))])), (7, (AO.var 36 [(bp (((r : Nat) : Int) < 0)), (AV.sl 1 (ns .i64 (digs (((r : Nat) : Int)).natAbs)))]))] Gd.none Wx_tZ36 rfl rfl rfl rfl rfl rfl ?_
        refine o_store [(2, (AO.var 36 [(bp (x < 0)), (AV.sl 1 (ns .i64 (digs (x).natAbs)))])), (3, (AO.var 36 [(bp (y < 0)), (AV.sl 1 (ns .i64 (digs (y).natAbs)))])), (4, (AO.var 36 [(bp ((-((q : Nat) : Int)) < 0)), (AV.sl 1 (ns .i64 (digs ((-((q : Nat) : Int))).natAbs)))])), (5, (AO.var 36 [(bp (((r : Nat) : Int) < 0)), (AV.sl 1 (ns .i64 (digs (((r : Nat) : Int)).natAbs)))])), (6, (AO.var 36 [(bp (((q : Nat) : Int) < 0)), (AV.sl 1 (ns .i64 (digs (((q : Nat) : Int)).natAbs)))])), (7, (AO.var 36 [(bp (((r : Nat) : Int) < 0)), (AV.sl 1 (ns .i64 (digs (((r : Nat) : Int)).natAbs)))]))] Gd.none Wx_tZ36 rfl rfl rfl rfl rfl rfl ?_
        refine aops_end ⟨by kernel_rfl, ?_⟩
        refine hK13 _ ?_
        refine awp_ret ?_
        refine post_ret ⟨[(AV.agg [(bp ((-((q : Nat) : Int)) < 0)), (AV.sl 1 (ns .i64 (digs ((-((q : Nat) : Int))).natAbs)))]), (AV.agg [(bp (((r : Nat) : Int) < 0)), (AV.sl 1 (ns .i64 (digs (((r : Nat) : Int)).natAbs)))])], And.intro ⟨4, (AO.var 36 [(bp ((-((q : Nat) : Int)) < 0)), (AV.sl 1 (ns .i64 (digs ((-((q : Nat) : Int))).natAbs)))]), rfl, rfl, rfl, Or.inl ⟨Wx_tA36, AV.le_refl _⟩⟩ (And.intro ⟨5, (AO.var 36 [(bp (((r : Nat) : Int) < 0)), (AV.sl 1 (ns .i64 (digs (((r : Nat) : Int)).natAbs)))]), rfl, rfl, rfl, Or.inl ⟨Wx_tA36, AV.le_refl _⟩⟩ (trivial)), rfl, ?_⟩
        have e := part2 (d := y.natAbs) (Decidable.not_not.1 h2) (by omega) hE.1 hE.2 (sgn_zero.1 h3)
        rw [hyy] at e
        exact tup_eq2 (congrArg intR e.1) (congrArg intR (e.2.trans (by rw [sgn_zero.1 h3]; rfl)))
      · refine awp_skip ?_
        refine hK11 _ ?_
        refine awp_seq fun K14 hK14 => ?_
        refine awp_regionD rfl ?_
        refine o_loadA [(bp (((q : Nat) : Int) < 0)), (AV.sl 1 (ns .i64 (digs (((q : Nat) : Int)).natAbs)))] Gd.none Wx_tA36 rfl rfl rfl rfl rfl ?_
        refine o_call [(nm .i64 (1))] (intR ((1 : Int))) Gd.none Wx_tC38 rfl (c_rOf ((1 : Int)) (by first | decide | omega) (by first | decide | omega)) ?_
        refine o_call [(AV.agg [(bp (((q : Nat) : Int) < 0)), (AV.sl 1 (ns .i64 (digs (((q : Nat) : Int)).natAbs)))]), (intR ((1 : Int)))] (intR ((((q : Nat) : Int) + (1 : Int)))) Gd.none Wx_tC34 rfl (c_rAdd (((q : Nat) : Int)) ((1 : Int)) (by first | assumption | omega | (simp only [Int.natAbs_neg]; omega)) (by first | assumption | omega | (simp only [Int.natAbs_neg]; omega))) ?_
        refine o_call [(intR ((((q : Nat) : Int) + (1 : Int))))] (intR ((-(((q : Nat) : Int) + (1 : Int))))) Gd.none Wx_tC71 rfl (c_rMinus ((((q : Nat) : Int) + (1 : Int)))) ?_
        refine o_loadA [(bp (y < 0)), (AV.sl 1 (ns .i64 (digs (y).natAbs)))] Gd.none Wx_tA36 rfl rfl rfl rfl rfl ?_
        refine o_loadA [(bp (((r : Nat) : Int) < 0)), (AV.sl 1 (ns .i64 (digs (((r : Nat) : Int)).natAbs)))] Gd.none Wx_tA36 rfl rfl rfl rfl rfl ?_
        refine o_call [(AV.agg [(bp (y < 0)), (AV.sl 1 (ns .i64 (digs (y).natAbs)))]), (AV.agg [(bp (((r : Nat) : Int) < 0)), (AV.sl 1 (ns .i64 (digs (((r : Nat) : Int)).natAbs)))])] (intR ((y - ((r : Nat) : Int)))) Gd.none Wx_tC35 rfl (c_rSub (y) (((r : Nat) : Int)) (by first | assumption | omega | (simp only [Int.natAbs_neg]; omega)) (by first | assumption | omega | (simp only [Int.natAbs_neg]; omega))) ?_
        refine o_store [(2, (AO.var 36 [(bp (x < 0)), (AV.sl 1 (ns .i64 (digs (x).natAbs)))])), (3, (AO.var 36 [(bp (y < 0)), (AV.sl 1 (ns .i64 (digs (y).natAbs)))])), (4, (AO.var 36 [(bp ((-(((q : Nat) : Int) + (1 : Int))) < 0)), (AV.sl 1 (ns .i64 (digs ((-(((q : Nat) : Int) + (1 : Int)))).natAbs)))])), (5, (AO.var 36 [(AV.lit (.bool false)), (AV.lit (.slice none 0 0))])), (6, (AO.var 36 [(bp (((q : Nat) : Int) < 0)), (AV.sl 1 (ns .i64 (digs (((q : Nat) : Int)).natAbs)))])), (7, (AO.var 36 [(bp (((r : Nat) : Int) < 0)), (AV.sl 1 (ns .i64 (digs (((r : Nat) : Int)).natAbs)))]))] Gd.none Wx_tZ36 rfl rfl rfl rfl rfl rfl ?_
        refine o_store [(2, (AO.var 36 [(bp (x < 0)), (AV.sl 1 (ns .i64 (digs (x).natAbs)))])), (3, (AO.var 36 [(bp (y < 0)), (AV.sl 1 (ns .i64 (digs (y).natAbs)))])), (4, (AO.var 36 [(bp ((-(((q : Nat) : Int) + (1 : Int))) < 0)), (AV.sl 1 (ns .i64 (digs ((-(((q : Nat) : Int) + (1 : Int)))).natAbs)))])), (5, (AO.var 36 [(bp ((y - ((r : Nat) : Int)) < 0)), (AV.sl 1 (ns .i64 (digs ((y - ((r : Nat) : Int))).natAbs)))])), (6, (AO.var 36 [(bp (((q : Nat) : Int) < 0)), (AV.sl 1 (ns .i64 (digs (((q : Nat) : Int)).natAbs)))])), (7, (AO.var 36 [(bp (((r : Nat) : Int) < 0)), (AV.sl 1 (ns .i64 (digs (((r : Nat) : Int)).natAbs)))]))] Gd.none Wx_tZ36 rfl rfl rfl rfl rfl rfl ?_
        refine aops_end ⟨by kernel_rfl, ?_⟩
        refine hK14 _ ?_
        refine awp_ret ?_
        refine post_ret ⟨[(AV.agg [(bp ((-(((q : Nat) : Int) + (1 : Int))) < 0)), (AV.sl 1 (ns .i64 (digs ((-(((q : Nat) : Int) + (1 : Int)))).natAbs)))]), (AV.agg [(bp ((y - ((r : Nat) : Int)) < 0)), (AV.sl 1 (ns .i64 (digs ((y - ((r : Nat) : Int))).natAbs)))])], And.intro ⟨4, (AO.var 36 [(bp ((-(((q : Nat) : Int) + (1 : Int))) < 0)), (AV.sl 1 (ns .i64 (digs ((-(((q : Nat) : Int) + (1 : Int)))).natAbs)))]), rfl, rfl, rfl, Or.inl ⟨Wx_tA36, AV.le_refl _⟩⟩ (And.intro ⟨5, (AO.var 36 [(bp ((y - ((r : Nat) : Int)) < 0)), (AV.sl 1 (ns .i64 (digs ((y - ((r : Nat) : Int))).natAbs)))]), rfl, rfl, rfl, Or.inl ⟨Wx_tA36, AV.le_refl _⟩⟩ (trivial)), rfl, ?_⟩
        have e := part3 (d := y.natAbs) (Decidable.not_not.1 h2) (by omega) hE.1 hE.2 (fun e => h3 (sgn_zero.2 e))
        rw [hyy] at e
        exact tup_eq2 (congrArg intR (e.1.trans (by omega))) (congrArg intR e.2)

end Go.Proofs.YtbilndahjkimkaaDoor

set_option linter.unusedVariables false
set_option linter.unusedSimpArgs false
namespace Go.Proofs.YtbilndahjkimkaaDoor
open Go Go.Ab Go.Mth
theorem Xc_tA36 : tyAgg cx.P 36 = some 2 := by kernel_rfl
theorem Xc_tZ36 : tySize cx.P 36 = some 2 := by kernel_rfl
theorem Xc_tO36 : tyZero cx.P 36 = some [(Go.Value.bool false), (Go.Value.slice none 0 0)] := by kernel_rfl
theorem Xc_tF49_0 : tyField cx.P 49 0 = some (0, 36) := by kernel_rfl
theorem Xc_tC37 : callable cx.P 37 = true := by kernel_rfl
theorem Xc_tF49_1 : tyField cx.P 49 1 = some (2, 36) := by kernel_rfl
theorem Xc_tC34 : callable cx.P 34 = true := by kernel_rfl
theorem c_vValue (l : LinZ) (z : Int) (h1 : (digs l.mul.natAbs).length ≤ 1000000) (h2 : (digs l.add.natAbs).length ≤ 1000000) (h3 : (digs z.natAbs).length ≤ 1000000) : ECalls cx 30 [(linR (l)), (intR (z))] (intR (l.mul * z + l.add)) := by
  refine ecalls_of_awp Tryd.func30 (c := _) rfl (Nat.le_of_ble_eq_true rfl) ?_
  show awp cx 12 _ (postF cx Tryd.f30 _) ⟨[(0, (linR (l))), (1, (intR (z)))], []⟩
  have hm1 := len_mulZ l.mul z
  refine awp_seq fun K0 hK0 => ?_
  refine awp_region rfl ?_
  refine o_box 2 [(bp (((l).mul) < 0)), (AV.sl 1 (ns .i64 (digs ((l).mul).natAbs))), (bp (((l).add) < 0)), (AV.sl 1 (ns .i64 (digs ((l).add).natAbs))), (bp (((l).div) < 0)), (AV.sl 1 (ns .i64 (digs ((l).div).natAbs)))] Gd.none rfl rfl ?_
  refine o_box 3 [(bp (z < 0)), (AV.sl 1 (ns .i64 (digs (z).natAbs)))] Gd.none rfl rfl ?_
  refine o_alloc 4 [(AV.lit (.bool false)), (AV.lit (.slice none 0 0))] Gd.none Xc_tO36 rfl rfl rfl ?_
  refine aops_end ?_
  refine hK0 _ ?_
  refine awp_seq fun K1 hK1 => ?_
  refine awp_regionD rfl ?_
  refine o_fieldRef 0 Gd.none Xc_tF49_0 rfl rfl ?_
  refine o_loadA [(bp (((l).mul) < 0)), (AV.sl 1 (ns .i64 (digs ((l).mul).natAbs)))] Gd.none Xc_tA36 rfl rfl rfl rfl rfl ?_
  refine o_loadA [(bp (z < 0)), (AV.sl 1 (ns .i64 (digs (z).natAbs)))] Gd.none Xc_tA36 rfl rfl rfl rfl rfl ?_
  refine o_call [(AV.agg [(bp (((l).mul) < 0)), (AV.sl 1 (ns .i64 (digs ((l).mul).natAbs)))]), (AV.agg [(bp (z < 0)), (AV.sl 1 (ns .i64 (digs (z).natAbs)))])] (intR ((((l).mul) * z))) Gd.none Xc_tC37 rfl (c_rMul (((l).mul)) (z) (by first | assumption | omega | (simp only [Int.natAbs_neg]; omega)) (by first | assumption | omega | (simp only [Int.natAbs_neg]; omega))) ?_
  refine o_fieldRef 2 Gd.none Xc_tF49_1 rfl rfl ?_
  refine o_loadA [(bp (((l).add) < 0)), (AV.sl 1 (ns .i64 (digs ((l).add).natAbs)))] Gd.none Xc_tA36 rfl rfl rfl rfl rfl ?_
  refine o_call [(intR ((((l).mul) * z))), (AV.agg [(bp (((l).add) < 0)), (AV.sl 1 (ns .i64 (digs ((l).add).natAbs)))])] (intR (((((l).mul) * z) + ((l).add)))) Gd.none Xc_tC34 rfl (c_rAdd ((((l).mul) * z)) (((l).add)) (by first | assumption | omega | (simp only [Int.natAbs_neg]; omega)) (by first | assumption | omega | (simp only [Int.natAbs_neg]; omega))) ?_
  refine o_store [(4, (AO.var 36 [(bp (((((l).mul) * z) + ((l).add)) < 0)), (AV.sl 1 (ns .i64 (digs (((((l).mul) * z) + ((l).add))).natAbs)))])), (3, (AO.var 36 [(bp (z < 0)), (AV.sl 1 (ns .i64 (digs (z).natAbs)))])), (2, (AO.var 49 [(bp (((l).mul) < 0)), (AV.sl 1 (ns .i64 (digs ((l).mul).natAbs))), (bp (((l).add) < 0)), (AV.sl 1 (ns .i64 (digs ((l).add).natAbs))), (bp (((l).div) < 0)), (AV.sl 1 (ns .i64 (digs ((l).div).natAbs)))]))] Gd.none Xc_tZ36 rfl rfl rfl rfl rfl rfl ?_
  refine aops_end ⟨by kernel_rfl, ?_⟩
  refine hK1 _ ?_
  refine awp_ret ?_
  refine post_ret ⟨[(AV.agg [(bp (((((l).mul) * z) + ((l).add)) < 0)), (AV.sl 1 (ns .i64 (digs (((((l).mul) * z) + ((l).add))).natAbs)))])], And.intro ⟨4, (AO.var 36 [(bp (((((l).mul) * z) + ((l).add)) < 0)), (AV.sl 1 (ns .i64 (digs (((((l).mul) * z) + ((l).add))).natAbs)))]), rfl, rfl, rfl, Or.inl ⟨Xc_tA36, AV.le_refl _⟩⟩ (trivial), rfl, ?_⟩
  rfl

end Go.Proofs.YtbilndahjkimkaaDoor

set_option linter.unusedVariables false
set_option linter.unusedSimpArgs false
namespace Go.Mth
open Go.Ab
theorem exW_free : freeM (kinM 3 1) := fun i hi => by
  have : i < 2 := hi
  have : i = 0 ∨ i = 1 := by omega
  rcases this with rfl | rfl <;> decide
theorem exW_ok : OkW (kinM 3 1) [1, 1, 0] := ⟨fun r hr => by
  simp only [List.mem_cons, List.not_mem_nil, or_false] at hr
  rcases hr with rfl | rfl | rfl <;> exact ⟨by decide, by decide⟩, by decide⟩
theorem txt1 (n : Nat) (h : n < 10) : txt (n : Int) = ⟨#[UInt8.ofNat (48 + n)]⟩ := by
  have : n = 0 ∨ n = 1 ∨ n = 2 ∨ n = 3 ∨ n = 4 ∨ n = 5 ∨ n = 6 ∨ n = 7 ∨ n = 8 ∨ n = 9 := by omega
  rcases this with rfl | rfl | rfl | rfl | rfl | rfl | rfl | rfl | rfl | rfl <;> (simp [txt, txtL, decs, strN]; try rfl)
theorem txt13 : txt 13 = ⟨#[49, 51]⟩ := by
  simp [txt, txtL, decs, strN]
  rfl
theorem exW_line : lineS (kinM 3 1) [1, 1, 0] = ⟨⟨#[57]⟩, ⟨#[53]⟩, ⟨#[56]⟩⟩ ∧ lineE (kinM 3 1) [1, 1, 0] = 0 := by
  have h := line_0 okM_ex exW_ok
  have e : lineZ (kinM 3 1) [1, 1, 0] = ⟨9, 5, 8⟩ := by rfl
  refine ⟨h.2.trans ?_, h.1⟩
  rw [e]
  unfold lineT
  rw [show (9 : Int) = ((9 : Nat) : Int) by rfl, show (5 : Int) = ((5 : Nat) : Int) by rfl, show (8 : Int) = ((8 : Nat) : Int) by rfl, txt1 9 (by decide), txt1 5 (by decide), txt1 8 (by decide)]
  rfl
theorem exW_rest : restS (kinM 3 1) [1, 1, 0] = ⟨#[51]⟩ ∧ restD (kinM 3 1) [1, 1, 0] = ⟨#[56]⟩ ∧ restE (kinM 3 1) [1, 1, 0] = 0 := by
  have h := rest_0 okM_ex ⟨exW_ok, exW_free⟩
  have e : (restZ (kinM 3 1) [1, 1, 0]).1 = ((3 : Nat) : Int) := by decide +kernel
  have e2 : (kinM 3 1).mod ^ ([1, 1, 0] : List Int).length = ((8 : Nat) : Int) := by decide +kernel
  refine ⟨h.2.1.trans ?_, h.2.2.trans ?_, h.1⟩
  · rw [e, txt1 3 (by decide)]; rfl
  · rw [e2, txt1 8 (by decide)]; rfl
theorem exW_word : wordL (kinM 3 1) ⟨#[55]⟩ 4 = [1, 1, 1, 0] ∧ wordE (kinM 3 1) ⟨#[55]⟩ 4 = 0 := by
  have hf : FitK (kinM 3 1) (numS ⟨#[55]⟩) (4 : Int).toNat := fun j hj => by
    have : j < 4 := hj
    have : j = 0 ∨ j = 1 ∨ j = 2 ∨ j = 3 := by omega
    rw [numS_ex]
    rcases this with rfl | rfl | rfl | rfl
    · exact fit_of_lt (by decide)
    · rw [show iterZ (kinM 3 1) 1 7 = 11 by decide]; exact fit_of_lt (by decide)
    · rw [show iterZ (kinM 3 1) 2 7 = 17 by decide]; exact fit_of_lt (by decide)
    · rw [show iterZ (kinM 3 1) 3 7 = 26 by decide]; exact fit_of_lt (by decide)
  have h := wordE_0 (K := 4) ⟨okM_ex, okS_ex⟩ (by decide) hf
  refine ⟨h.2.trans ?_, h.1⟩
  rw [numS_ex]
  decide
theorem okS_dig {a : ByteArray} (h1 : 0 < a.size) (h2 : a.size ≤ 2000) (h3 : 49 ≤ byt a 0) (h : ∀ i, i < a.size → 48 ≤ byt a i ∧ byt a i ≤ 57) : okS a = true := by
  have h0 := h 0 h1
  have hs : sgnAt a = 0 := by unfold sgnAt; rw [if_neg (by omega)]
  exact okS_yes ⟨by rw [hs]; exact h1, by rw [hs]; omega, fun e => by rw [hs] at e; omega, fun i _ h2 => h i h2⟩
theorem dig1 {a : ByteArray} (h : (a.size = 1 ∧ 49 ≤ byt a 0 ∧ byt a 0 ≤ 57)) : okS a = true := okS_dig (by omega) (by omega) h.2.1 fun i hi => by
  have : i = 0 := by omega
  subst this; omega
theorem dig2 {a : ByteArray} (h : (a.size = 2 ∧ 49 ≤ byt a 0 ∧ byt a 0 ≤ 57 ∧ 48 ≤ byt a 1 ∧ byt a 1 ≤ 57)) : okS a = true := okS_dig (by omega) (by omega) h.2.1 fun i hi => by
  have : i = 0 ∨ i = 1 := by omega
  rcases this with rfl | rfl <;> omega
def exL : LineS := ⟨⟨#[57]⟩, ⟨#[53]⟩, ⟨#[56]⟩⟩
theorem exL_ok : okL exL = true := by
  unfold okL
  rw [show okS exL.mul = true from dig1 ⟨by decide, by decide, by decide⟩, show okS exL.add = true from dig1 ⟨by decide, by decide, by decide⟩, show okS exL.div = true from dig1 ⟨by decide, by decide, by decide⟩]
  rfl
theorem exL_num : numS exL.mul = 9 ∧ numS exL.add = 5 ∧ numS exL.div = 8 := ⟨by decide, by decide, by decide⟩
theorem exW_app : appS exL ⟨#[49, 49]⟩ = ⟨#[49, 51]⟩ ∧ AppB exL ⟨#[49, 49]⟩ ∧ appE exL ⟨#[49, 49]⟩ = 0 := by
  have hk : okS ⟨#[49, 49]⟩ = true := dig2 ⟨by decide, by decide, by decide, by decide, by decide⟩
  have hn : numS ⟨#[49, 49]⟩ = 11 := by decide
  obtain ⟨n1, n2, n3⟩ := exL_num
  have hv : appV exL ⟨#[49, 49]⟩ = 104 := by unfold appV; rw [n1, n2, hn]; rfl
  have h := app_yes ⟨exL_ok, hk⟩ (by rw [n3]; decide) (by rw [hv]; exact fit_of_lt (by decide)) (by rw [hv, n3]; rfl)
  refine ⟨h.2.2.trans ?_, h.2.1, h.1⟩
  rw [hv, n3, show (104 : Int) / 8 = 13 by rfl, txt13]
theorem exW_app2 : appS exL ⟨#[49, 50]⟩ = ⟨#[]⟩ ∧ ¬ AppB exL ⟨#[49, 50]⟩ ∧ appE exL ⟨#[49, 50]⟩ = 0 := by
  have hk : okS ⟨#[49, 50]⟩ = true := dig2 ⟨by decide, by decide, by decide, by decide, by decide⟩
  have hn : numS ⟨#[49, 50]⟩ = 12 := by decide
  obtain ⟨n1, n2, n3⟩ := exL_num
  have hv : appV exL ⟨#[49, 50]⟩ = 113 := by unfold appV; rw [n1, n2, hn]; rfl
  have h := app_no ⟨exL_ok, hk⟩ (by rw [n3]; decide) (by rw [hv]; exact fit_of_lt (by decide)) (by rw [hv, n3]; decide)
  exact ⟨h.2.2, h.2.1, h.1⟩
end Go.Mth

set_option linter.unusedVariables false
set_option linter.unusedSimpArgs false
namespace Go.Proofs.YtbilndahjkimkaaDoor
open Go Go.Ab Go.Mth
theorem Xd_tC51 : callable cx.P 51 = true := by kernel_rfl
theorem Xd_tO24 : tyZero cx.P 24 = some [(Go.Value.int IntKind.i64 0), (Go.Value.slice none 0 0), (Go.Value.slice none 0 0)] := by kernel_rfl
theorem Xd_tZ24 : tySize cx.P 24 = some 3 := by kernel_rfl
theorem Xd_tA24 : tyAgg cx.P 24 = some 3 := by kernel_rfl
theorem Xd_tE22 : tyElem cx.P 22 = some (3, 1, 8) := by kernel_rfl
theorem Xd_tO3 : tyZero cx.P 3 = some [(Go.Value.int IntKind.i64 0)] := by kernel_rfl
theorem Xd_tC20 : callable cx.P 20 = true := by kernel_rfl
theorem Xd_tO41 : tyZero cx.P 41 = some [(Go.Value.string {data := #[]}), (Go.Value.string {data := #[]}), (Go.Value.string {data := #[]})] := by kernel_rfl
theorem Xd_tZ41 : tySize cx.P 41 = some 3 := by kernel_rfl
theorem Xd_tC21 : callable cx.P 21 = true := by kernel_rfl
theorem Xd_tC12 : callable cx.P 12 = true := by kernel_rfl
theorem Xd_tP41 : tyPlaces cx.P 41 = some (fun i => (#[(0, 1), (1, 1), (2, 1)] : Array (Nat × Nat))[i]?) := by kernel_rfl
theorem Xd_tC28 : callable cx.P 28 = true := by kernel_rfl
theorem Xd_tA41 : tyAgg cx.P 41 = some 3 := by kernel_rfl
theorem Xd_tC19 : callable cx.P 19 = true := by kernel_rfl
theorem c_l3Awake  : ECalls cx 16 [] (.lit (.bool true)) := by
  refine ecalls_of_awp Tryd.func16 (c := _) rfl (Nat.le_of_ble_eq_true rfl) ?_
  show awp cx 97 _ (postF cx Tryd.f16 _) ⟨[], []⟩
  refine awp_seq fun K0 hK0 => ?_
  refine awp_region rfl ?_
  refine o_assign (AV.lit (.bool false)) Gd.none rfl ?_
  refine aops_end ?_
  refine hK0 _ ?_
  refine awp_seq fun K1 hK1 => ?_
  refine awp_region rfl ?_
  refine o_call [] (mapV (kinM 3 1)) Gd.none Xd_tC51 rfl c_gCollatz ?_
  refine o_alloc 2 [(nm .i64 (0)), (AV.lit (.slice none 0 0)), (AV.lit (.slice none 0 0))] Gd.none Xd_tO24 rfl rfl rfl ?_
  refine o_store [(2, (AO.var 24 [(AV.lit (.int .i64 ((kinM 3 1).mod))), (AV.sl 1 (is .i64 ((kinM 3 1).mul))), (AV.sl 1 (is .i64 ((kinM 3 1).add)))]))] Gd.none Xd_tZ24 rfl rfl rfl rfl rfl rfl ?_
  refine aops_end ?_
  refine hK1 _ ?_
  refine awp_seq fun K2 hK2 => ?_
  refine awp_region rfl ?_
  refine o_loadA [(AV.lit (.int .i64 ((kinM 3 1).mod))), (AV.sl 1 (is .i64 ((kinM 3 1).mul))), (AV.sl 1 (is .i64 ((kinM 3 1).add)))] Gd.none Xd_tA24 rfl rfl rfl rfl rfl ?_
  refine o_buildSlice 3 (ns .i64 ([1, 1, 0])) [(0, [(nm .i64 (1))]), (1, [(nm .i64 (1))]), (2, [(nm .i64 (0))])] Gd.none Xd_tE22 rfl Xd_tO3 rfl rfl rfl rfl rfl rfl rfl ?_
  refine o_callG [(3, 1, (ns .i64 ([1, 1, 0])))] [(AV.agg [(AV.lit (.int .i64 ((kinM 3 1).mod))), (AV.sl 1 (is .i64 ((kinM 3 1).mul))), (AV.sl 1 (is .i64 ((kinM 3 1).add)))]), (AV.sl 1 (ns .i64 ([1, 1, 0])))] _ (AV.tup [(AV.agg [(AV.lit (.string (({data := #[57]} : ByteArray)))), (AV.lit (.string (({data := #[53]} : ByteArray)))), (AV.lit (.string (({data := #[56]} : ByteArray))))]), (nm .i64 (0))]) [(2, (AO.var 24 [(AV.lit (.int .i64 ((kinM 3 1).mod))), (AV.sl 1 (is .i64 ((kinM 3 1).mul))), (AV.sl 1 (is .i64 ((kinM 3 1).add)))]))] Gd.none Xd_tC20 rfl (And.intro ⟨_, rfl⟩ (trivial)) rfl rfl (LeL.cons (AV.le_refl _) (LeL.cons (AV.le_refl _) (LeL.nil))) (by have h := c_oLine (kinM 3 1) [1, 1, 0] (by decide); rw [exW_line.1, exW_line.2] at h; exact h) rfl ?_
  refine o_move (AV.tup [(AV.agg [(AV.lit (.string (({data := #[57]} : ByteArray)))), (AV.lit (.string (({data := #[53]} : ByteArray)))), (AV.lit (.string (({data := #[56]} : ByteArray))))]), (nm .i64 (0))]) Gd.none rfl ?_
  refine o_extract (AV.agg [(AV.lit (.string (({data := #[57]} : ByteArray)))), (AV.lit (.string (({data := #[53]} : ByteArray)))), (AV.lit (.string (({data := #[56]} : ByteArray))))]) Gd.none rfl rfl ?_
  refine o_extract (nm .i64 (0)) Gd.none rfl rfl ?_
  refine o_alloc 4 [(AV.lit (.string (({data := #[]} : ByteArray)))), (AV.lit (.string (({data := #[]} : ByteArray)))), (AV.lit (.string (({data := #[]} : ByteArray))))] Gd.none Xd_tO41 rfl rfl rfl ?_
  refine o_store [(4, (AO.var 41 [(AV.lit (.string (({data := #[57]} : ByteArray)))), (AV.lit (.string (({data := #[53]} : ByteArray)))), (AV.lit (.string (({data := #[56]} : ByteArray))))])), (2, (AO.var 24 [(AV.lit (.int .i64 ((kinM 3 1).mod))), (AV.sl 1 (is .i64 ((kinM 3 1).mul))), (AV.sl 1 (is .i64 ((kinM 3 1).add)))]))] Gd.none Xd_tZ41 rfl rfl rfl rfl rfl rfl ?_
  refine o_assign (nm .i64 (0)) Gd.none rfl ?_
  refine aops_end ?_
  refine hK2 _ ?_
  refine awp_seq fun K3 hK3 => ?_
  refine awp_region rfl ?_
  refine o_loadA [(AV.lit (.int .i64 ((kinM 3 1).mod))), (AV.sl 1 (is .i64 ((kinM 3 1).mul))), (AV.sl 1 (is .i64 ((kinM 3 1).add)))] Gd.none Xd_tA24 rfl rfl rfl rfl rfl ?_
  refine o_buildSlice 5 (ns .i64 ([1, 1, 0])) [(0, [(nm .i64 (1))]), (1, [(nm .i64 (1))]), (2, [(nm .i64 (0))])] Gd.none Xd_tE22 rfl Xd_tO3 rfl rfl rfl rfl rfl rfl rfl ?_
  refine o_callG [(5, 1, (ns .i64 ([1, 1, 0])))] [(AV.agg [(AV.lit (.int .i64 ((kinM 3 1).mod))), (AV.sl 1 (is .i64 ((kinM 3 1).mul))), (AV.sl 1 (is .i64 ((kinM 3 1).add)))]), (AV.sl 1 (ns .i64 ([1, 1, 0])))] _ (AV.tup [(AV.lit (.string (({data := #[51]} : ByteArray)))), (AV.lit (.string (({data := #[56]} : ByteArray)))), (nm .i64 (0))]) [(4, (AO.var 41 [(AV.lit (.string (({data := #[57]} : ByteArray)))), (AV.lit (.string (({data := #[53]} : ByteArray)))), (AV.lit (.string (({data := #[56]} : ByteArray))))])), (2, (AO.var 24 [(AV.lit (.int .i64 ((kinM 3 1).mod))), (AV.sl 1 (is .i64 ((kinM 3 1).mul))), (AV.sl 1 (is .i64 ((kinM 3 1).add)))]))] Gd.none Xd_tC21 rfl (And.intro ⟨_, rfl⟩ (trivial)) rfl rfl (LeL.cons (AV.le_refl _) (LeL.cons (AV.le_refl _) (LeL.nil))) (by have h := c_oRest (kinM 3 1) [1, 1, 0] (by decide); rw [exW_rest.1, exW_rest.2.1, exW_rest.2.2] at h; exact h) rfl ?_
  refine o_move (AV.tup [(AV.lit (.string (({data := #[51]} : ByteArray)))), (AV.lit (.string (({data := #[56]} : ByteArray)))), (nm .i64 (0))]) Gd.none rfl ?_
  refine o_extract (AV.lit (.string (({data := #[51]} : ByteArray)))) Gd.none rfl rfl ?_
  refine o_extract (AV.lit (.string (({data := #[56]} : ByteArray)))) Gd.none rfl rfl ?_
  refine o_extract (nm .i64 (0)) Gd.none rfl rfl ?_
  refine o_assign (AV.lit (.string (({data := #[51]} : ByteArray)))) Gd.none rfl ?_
  refine o_assign (AV.lit (.string (({data := #[56]} : ByteArray)))) Gd.none rfl ?_
  refine o_assign (nm .i64 (0)) Gd.none rfl ?_
  refine aops_end ?_
  refine hK3 _ ?_
  refine awp_seq fun K4 hK4 => ?_
  refine awp_region rfl ?_
  refine o_loadA [(AV.lit (.int .i64 ((kinM 3 1).mod))), (AV.sl 1 (is .i64 ((kinM 3 1).mul))), (AV.sl 1 (is .i64 ((kinM 3 1).add)))] Gd.none Xd_tA24 rfl rfl rfl rfl rfl ?_
  refine o_call [(AV.agg [(AV.lit (.int .i64 ((kinM 3 1).mod))), (AV.sl 1 (is .i64 ((kinM 3 1).mul))), (AV.sl 1 (is .i64 ((kinM 3 1).add)))]), (AV.lit (.string (({data := #[55]} : ByteArray)))), (nm .i64 (4))] (AV.tup [(AV.sl 1 (is .i64 ([1, 1, 1, 0]))), (nm .i64 (0))]) Gd.none Xd_tC12 rfl (by have h := c_oWord (kinM 3 1) ⟨#[55]⟩ 4 (by decide); rw [exW_word.1, exW_word.2] at h; exact h) ?_
  refine o_move (AV.tup [(AV.sl 1 (is .i64 ([1, 1, 1, 0]))), (nm .i64 (0))]) Gd.none rfl ?_
  refine o_extract (AV.sl 1 (is .i64 ([1, 1, 1, 0]))) Gd.none rfl rfl ?_
  refine o_extract (nm .i64 (0)) Gd.none rfl rfl ?_
  refine o_assign (AV.sl 1 (is .i64 ([1, 1, 1, 0]))) Gd.none rfl ?_
  refine o_assign (nm .i64 (0)) Gd.none rfl ?_
  refine aops_end ?_
  refine hK4 _ ?_
  refine awp_seq fun K5 hK5 => ?_
  refine awp_region rfl ?_
  refine o_build [(AV.lit (.string (({data := #[57]} : ByteArray)))), (AV.lit (.string (({data := #[53]} : ByteArray)))), (AV.lit (.string (({data := #[56]} : ByteArray))))] [(0, [(AV.lit (.string (({data := #[57]} : ByteArray))))]), (1, [(AV.lit (.string (({data := #[53]} : ByteArray))))]), (2, [(AV.lit (.string (({data := #[56]} : ByteArray))))])] Gd.none Xd_tP41 Xd_tO41 rfl rfl rfl ?_
  refine o_call [(AV.agg [(AV.lit (.string (({data := #[57]} : ByteArray)))), (AV.lit (.string (({data := #[53]} : ByteArray)))), (AV.lit (.string (({data := #[56]} : ByteArray))))]), (AV.lit (.string (({data := #[49, 49]} : ByteArray))))] (AV.tup [(AV.lit (.string (({data := #[49, 51]} : ByteArray)))), (AV.lit (.bool true)), (nm .i64 (0))]) Gd.none Xd_tC28 rfl (by have h := c_oApply exL ⟨#[49, 49]⟩ (by decide) (by decide) (by decide) (by decide); rw [exW_app.1, bp_yes exW_app.2.1, exW_app.2.2] at h; exact h) ?_
  refine o_move (AV.tup [(AV.lit (.string (({data := #[49, 51]} : ByteArray)))), (AV.lit (.bool true)), (nm .i64 (0))]) Gd.none rfl ?_
  refine o_extract (AV.lit (.string (({data := #[49, 51]} : ByteArray)))) Gd.none rfl rfl ?_
  refine o_extract (AV.lit (.bool true)) Gd.none rfl rfl ?_
  refine o_extract (nm .i64 (0)) Gd.none rfl rfl ?_
  refine o_assign (AV.lit (.string (({data := #[49, 51]} : ByteArray)))) Gd.none rfl ?_
  refine o_assign (AV.lit (.bool true)) Gd.none rfl ?_
  refine o_assign (nm .i64 (0)) Gd.none rfl ?_
  refine aops_end ?_
  refine hK5 _ ?_
  refine awp_seq fun K6 hK6 => ?_
  refine awp_region rfl ?_
  refine o_build [(AV.lit (.string (({data := #[57]} : ByteArray)))), (AV.lit (.string (({data := #[53]} : ByteArray)))), (AV.lit (.string (({data := #[56]} : ByteArray))))] [(0, [(AV.lit (.string (({data := #[57]} : ByteArray))))]), (1, [(AV.lit (.string (({data := #[53]} : ByteArray))))]), (2, [(AV.lit (.string (({data := #[56]} : ByteArray))))])] Gd.none Xd_tP41 Xd_tO41 rfl rfl rfl ?_
  refine o_call [(AV.agg [(AV.lit (.string (({data := #[57]} : ByteArray)))), (AV.lit (.string (({data := #[53]} : ByteArray)))), (AV.lit (.string (({data := #[56]} : ByteArray))))]), (AV.lit (.string (({data := #[49, 50]} : ByteArray))))] (AV.tup [(AV.lit (.string (({data := #[]} : ByteArray)))), (AV.lit (.bool false)), (nm .i64 (0))]) Gd.none Xd_tC28 rfl (by have h := c_oApply exL ⟨#[49, 50]⟩ (by decide) (by decide) (by decide) (by decide); rw [exW_app2.1, bp_no exW_app2.2.1, exW_app2.2.2] at h; exact h) ?_
  refine o_move (AV.tup [(AV.lit (.string (({data := #[]} : ByteArray)))), (AV.lit (.bool false)), (nm .i64 (0))]) Gd.none rfl ?_
  refine o_extract (AV.lit (.string (({data := #[]} : ByteArray)))) Gd.none rfl rfl ?_
  refine o_extract (AV.lit (.bool false)) Gd.none rfl rfl ?_
  refine o_extract (nm .i64 (0)) Gd.none rfl rfl ?_
  refine o_assign (AV.lit (.string (({data := #[]} : ByteArray)))) Gd.none rfl ?_
  refine o_assign (AV.lit (.bool false)) Gd.none rfl ?_
  refine o_assign (nm .i64 (0)) Gd.none rfl ?_
  refine aops_end ?_
  refine hK6 _ ?_
  refine awp_seq fun K7 hK7 => ?_
  refine awp_region rfl ?_
  refine o_move (nm .i64 (0)) Gd.none rfl ?_
  refine n_eql (0) (0) Gd.none rfl rfl ?_
  refine o_move (bp ((0) = (0))) Gd.none rfl ?_
  refine o_loadA [(AV.lit (.string (({data := #[57]} : ByteArray)))), (AV.lit (.string (({data := #[53]} : ByteArray)))), (AV.lit (.string (({data := #[56]} : ByteArray))))] (Gd.yes rfl rfl (decide_eq_true (by decide))) Xd_tA41 rfl rfl rfl rfl rfl ?_
  refine o_build [(AV.lit (.string (({data := #[57]} : ByteArray)))), (AV.lit (.string (({data := #[53]} : ByteArray)))), (AV.lit (.string (({data := #[56]} : ByteArray))))] [(0, [(AV.lit (.string (({data := #[57]} : ByteArray))))]), (1, [(AV.lit (.string (({data := #[53]} : ByteArray))))]), (2, [(AV.lit (.string (({data := #[56]} : ByteArray))))])] (Gd.yes rfl rfl (decide_eq_true (by decide))) Xd_tP41 Xd_tO41 rfl rfl rfl ?_
  refine o_eqlA [.string (({data := #[57]} : ByteArray)), .string (({data := #[53]} : ByteArray)), .string (({data := #[56]} : ByteArray))] [.string (({data := #[57]} : ByteArray)), .string (({data := #[53]} : ByteArray)), .string (({data := #[56]} : ByteArray))] ((({data := #[57]} : ByteArray)) = (({data := #[57]} : ByteArray)) ∧ (({data := #[53]} : ByteArray)) = (({data := #[53]} : ByteArray)) ∧ (({data := #[56]} : ByteArray)) = (({data := #[56]} : ByteArray))) (Gd.yes rfl rfl (decide_eq_true (by decide))) rfl rfl (eq_api_Line _ _ _ _ _ _) ?_
  refine o_pickT (b := decide ((0) = (0))) (bp ((({data := #[57]} : ByteArray)) = (({data := #[57]} : ByteArray)) ∧ (({data := #[53]} : ByteArray)) = (({data := #[53]} : ByteArray)) ∧ (({data := #[56]} : ByteArray)) = (({data := #[56]} : ByteArray)))) Gd.none rfl (decide_eq_true (by decide)) rfl ?_
  refine o_move (bp ((({data := #[57]} : ByteArray)) = (({data := #[57]} : ByteArray)) ∧ (({data := #[53]} : ByteArray)) = (({data := #[53]} : ByteArray)) ∧ (({data := #[56]} : ByteArray)) = (({data := #[56]} : ByteArray)))) Gd.none rfl ?_
  refine o_move (nm .i64 (0)) (Gd.yes rfl rfl (decide_eq_true ⟨rfl, rfl, rfl⟩)) rfl ?_
  refine n_eql (0) (0) (Gd.yes rfl rfl (decide_eq_true ⟨rfl, rfl, rfl⟩)) rfl rfl ?_
  refine o_pickT (b := decide ((({data := #[57]} : ByteArray)) = (({data := #[57]} : ByteArray)) ∧ (({data := #[53]} : ByteArray)) = (({data := #[53]} : ByteArray)) ∧ (({data := #[56]} : ByteArray)) = (({data := #[56]} : ByteArray)))) (bp ((0) = (0))) Gd.none rfl (decide_eq_true ⟨rfl, rfl, rfl⟩) rfl ?_
  refine o_move (bp ((0) = (0))) Gd.none rfl ?_
  refine o_move (AV.lit (.string (({data := #[51]} : ByteArray)))) (Gd.yes rfl rfl (decide_eq_true (by decide))) rfl ?_
  refine o_eqlS (a := (({data := #[51]} : ByteArray))) (c := (({data := #[51]} : ByteArray))) (Gd.yes rfl rfl (decide_eq_true (by decide))) rfl rfl ?_
  refine o_pickT (b := decide ((0) = (0))) (bp ((({data := #[51]} : ByteArray)).toList = (({data := #[51]} : ByteArray)).toList)) Gd.none rfl (decide_eq_true (by decide)) rfl ?_
  refine o_move (bp ((({data := #[51]} : ByteArray)).toList = (({data := #[51]} : ByteArray)).toList)) Gd.none rfl ?_
  refine o_move (AV.lit (.string (({data := #[56]} : ByteArray)))) (Gd.yes rfl rfl (decide_eq_true rfl)) rfl ?_
  refine o_eqlS (a := (({data := #[56]} : ByteArray))) (c := (({data := #[56]} : ByteArray))) (Gd.yes rfl rfl (decide_eq_true rfl)) rfl rfl ?_
  refine o_pickT (b := decide ((({data := #[51]} : ByteArray)).toList = (({data := #[51]} : ByteArray)).toList)) (bp ((({data := #[56]} : ByteArray)).toList = (({data := #[56]} : ByteArray)).toList)) Gd.none rfl (decide_eq_true rfl) rfl ?_
  refine o_move (bp ((({data := #[56]} : ByteArray)).toList = (({data := #[56]} : ByteArray)).toList)) Gd.none rfl ?_
  refine o_move (nm .i64 (0)) (Gd.yes rfl rfl (decide_eq_true rfl)) rfl ?_
  refine n_eql (0) (0) (Gd.yes rfl rfl (decide_eq_true rfl)) rfl rfl ?_
  refine o_pickT (b := decide ((({data := #[56]} : ByteArray)).toList = (({data := #[56]} : ByteArray)).toList)) (bp ((0) = (0))) Gd.none rfl (decide_eq_true rfl) rfl ?_
  refine o_move (bp ((0) = (0))) Gd.none rfl ?_
  refine o_move (AV.sl 1 (is .i64 ([1, 1, 1, 0]))) (Gd.yes rfl rfl (decide_eq_true (by decide))) rfl ?_
  refine o_buildSlice 6 (ns .i64 ([1, 1, 1, 0])) [(0, [(nm .i64 (1))]), (1, [(nm .i64 (1))]), (2, [(nm .i64 (1))]), (3, [(nm .i64 (0))])] (Gd.yes rfl rfl (decide_eq_true (by decide))) Xd_tE22 rfl Xd_tO3 rfl rfl rfl rfl rfl rfl rfl ?_
  refine o_callG [(6, 1, (ns .i64 ([1, 1, 1, 0])))] [(AV.sl 1 (is .i64 ([1, 1, 1, 0]))), (AV.sl 1 (ns .i64 ([1, 1, 1, 0])))] _ (bp ([1, 1, 1, 0] = [1, 1, 1, 0])) [(4, (AO.var 41 [(AV.lit (.string (({data := #[57]} : ByteArray)))), (AV.lit (.string (({data := #[53]} : ByteArray)))), (AV.lit (.string (({data := #[56]} : ByteArray))))])), (2, (AO.var 24 [(AV.lit (.int .i64 ((kinM 3 1).mod))), (AV.sl 1 (is .i64 ((kinM 3 1).mul))), (AV.sl 1 (is .i64 ((kinM 3 1).add)))]))] (Gd.yes rfl rfl (decide_eq_true (by decide))) Xd_tC19 rfl (And.intro ⟨_, rfl⟩ (trivial)) rfl rfl (LeL.cons (AV.le_refl _) (LeL.cons (AV.le_refl _) (LeL.nil))) (c_gAlike [1, 1, 1, 0] [1, 1, 1, 0]) rfl ?_
  refine o_pickT (b := decide ((0) = (0))) (bp ([1, 1, 1, 0] = [1, 1, 1, 0])) Gd.none rfl (decide_eq_true (by decide)) rfl ?_
  refine o_move (bp ([1, 1, 1, 0] = [1, 1, 1, 0])) Gd.none rfl ?_
  refine o_move (nm .i64 (0)) (Gd.yes rfl rfl (decide_eq_true rfl)) rfl ?_
  refine n_eql (0) (0) (Gd.yes rfl rfl (decide_eq_true rfl)) rfl rfl ?_
  refine o_pickT (b := decide ([1, 1, 1, 0] = [1, 1, 1, 0])) (bp ((0) = (0))) Gd.none rfl (decide_eq_true rfl) rfl ?_
  refine o_move (bp ((0) = (0))) Gd.none rfl ?_
  refine o_move (AV.lit (.string (({data := #[49, 51]} : ByteArray)))) (Gd.yes rfl rfl (decide_eq_true (by decide))) rfl ?_
  refine o_eqlS (a := (({data := #[49, 51]} : ByteArray))) (c := (({data := #[49, 51]} : ByteArray))) (Gd.yes rfl rfl (decide_eq_true (by decide))) rfl rfl ?_
  refine o_pickT (b := decide ((0) = (0))) (bp ((({data := #[49, 51]} : ByteArray)).toList = (({data := #[49, 51]} : ByteArray)).toList)) Gd.none rfl (decide_eq_true (by decide)) rfl ?_
  refine o_move (bp ((({data := #[49, 51]} : ByteArray)).toList = (({data := #[49, 51]} : ByteArray)).toList)) Gd.none rfl ?_
  refine o_move (AV.lit (.bool true)) (Gd.yes rfl rfl (decide_eq_true rfl)) rfl ?_
  refine o_pickT (b := decide ((({data := #[49, 51]} : ByteArray)).toList = (({data := #[49, 51]} : ByteArray)).toList)) (AV.lit (.bool true)) Gd.none rfl (decide_eq_true rfl) rfl ?_
  refine o_move (AV.lit (.bool true)) Gd.none rfl ?_
  refine o_move (nm .i64 (0)) (Gd.yes rfl rfl rfl) rfl ?_
  refine n_eql (0) (0) (Gd.yes rfl rfl rfl) rfl rfl ?_
  refine o_pickT (b := true) (bp ((0) = (0))) Gd.none rfl rfl rfl ?_
  refine o_move (bp ((0) = (0))) Gd.none rfl ?_
  refine o_move (AV.lit (.string (({data := #[]} : ByteArray)))) (Gd.yes rfl rfl (decide_eq_true (by decide))) rfl ?_
  refine o_eqlS (a := (({data := #[]} : ByteArray))) (c := (({data := #[]} : ByteArray))) (Gd.yes rfl rfl (decide_eq_true (by decide))) rfl rfl ?_
  refine o_pickT (b := decide ((0) = (0))) (bp ((({data := #[]} : ByteArray)).toList = (({data := #[]} : ByteArray)).toList)) Gd.none rfl (decide_eq_true (by decide)) rfl ?_
  refine o_move (bp ((({data := #[]} : ByteArray)).toList = (({data := #[]} : ByteArray)).toList)) Gd.none rfl ?_
  refine o_move (AV.lit (.bool false)) (Gd.yes rfl rfl (decide_eq_true rfl)) rfl ?_
  refine o_not (b := false) (Gd.yes rfl rfl (decide_eq_true rfl)) rfl ?_
  refine o_pickT (b := decide ((({data := #[]} : ByteArray)).toList = (({data := #[]} : ByteArray)).toList)) (AV.lit (.bool true)) Gd.none rfl (decide_eq_true rfl) rfl ?_
  refine o_assign (AV.lit (.bool true)) Gd.none rfl ?_
  refine aops_end ?_
  refine hK7 _ ?_
  refine awp_ret ?_
  refine post_ret ⟨[(AV.lit (.bool true))], And.intro (AV.le_refl _) (trivial), rfl, ?_⟩
  first | rfl | simp [bp]

end Go.Proofs.YtbilndahjkimkaaDoor

set_option linter.unusedVariables false
set_option linter.unusedSimpArgs false
namespace Go.Mth
open Go.Ab
end Go.Mth

set_option linter.unusedVariables false
set_option linter.unusedSimpArgs false
namespace Go.Proofs.YtbilndahjkimkaaDoor
open Go Go.Ab Go.Mth
theorem Xe3_tA41 : tyAgg cx.P 41 = some 3 := by kernel_rfl
theorem Xe3_tC28 : callable cx.P 28 = true := by kernel_rfl
theorem Xe3_tF41_0 : tyField cx.P 41 0 = some (0, 9) := by kernel_rfl
theorem Xe3_tS9 : tySc cx.P 9 = true := by kernel_rfl
theorem Xe3_tC15 : callable cx.P 15 = true := by kernel_rfl
theorem Xe3_tC16 : callable cx.P 16 = true := by kernel_rfl
theorem Xe3_tF41_1 : tyField cx.P 41 1 = some (1, 9) := by kernel_rfl
theorem Xe3_tF41_2 : tyField cx.P 41 2 = some (2, 9) := by kernel_rfl
theorem Xe3_tC18 : callable cx.P 18 = true := by kernel_rfl
theorem Xe3_tO36 : tyZero cx.P 36 = some [(Go.Value.bool false), (Go.Value.slice none 0 0)] := by kernel_rfl
theorem Xe3_tZ36 : tySize cx.P 36 = some 2 := by kernel_rfl
theorem Xe3_tA36 : tyAgg cx.P 36 = some 2 := by kernel_rfl
theorem Xe3_tC29 : callable cx.P 29 = true := by kernel_rfl
theorem Xe3_tP49 : tyPlaces cx.P 49 = some (fun i => (#[(0, 2), (2, 2), (4, 2)] : Array (Nat × Nat))[i]?) := by kernel_rfl
theorem Xe3_tO49 : tyZero cx.P 49 = some [(Go.Value.bool false), (Go.Value.slice none 0 0), (Go.Value.bool false), (Go.Value.slice none 0 0), (Go.Value.bool false), (Go.Value.slice none 0 0)] := by kernel_rfl
theorem Xe3_tC30 : callable cx.P 30 = true := by kernel_rfl
theorem Xe3_tC31 : callable cx.P 31 = true := by kernel_rfl
theorem Xe3_tC32 : callable cx.P 32 = true := by kernel_rfl
theorem Xe3_tC27 : callable cx.P 27 = true := by kernel_rfl
theorem c_WordApplies (l : LineS) (a : ByteArray) (h1m : l.mul.size ≤ 9223372036854775807) (h2m : l.add.size ≤ 9223372036854775807) (h3m : l.div.size ≤ 9223372036854775807) (ha : a.size ≤ 9223372036854775807) : ECalls cx 5 [(AV.agg [(AV.lit (.string ((l).mul))), (AV.lit (.string ((l).add))), (AV.lit (.string ((l).div)))]), (AV.lit (.string (a)))] (.lit (.bool true)) := by
  refine ecalls_of_awp Tryd.func5 (c := _) rfl (Nat.le_of_ble_eq_true rfl) ?_
  show awp cx 135 _ (postF cx Tryd.f5 _) ⟨[(0, (AV.agg [(AV.lit (.string ((l).mul))), (AV.lit (.string ((l).add))), (AV.lit (.string ((l).div)))])), (1, (AV.lit (.string (a))))], []⟩
  refine awp_seq fun K0 hK0 => ?_
  refine awp_region rfl ?_
  refine o_box 2 [(AV.lit (.string ((l).mul))), (AV.lit (.string ((l).add))), (AV.lit (.string ((l).div)))] Gd.none rfl rfl ?_
  refine o_assign (AV.lit (.bool false)) Gd.none rfl ?_
  refine aops_end ?_
  refine hK0 _ ?_
  refine awp_seq fun K1 hK1 => ?_
  refine awp_region rfl ?_
  refine o_loadA [(AV.lit (.string ((l).mul))), (AV.lit (.string ((l).add))), (AV.lit (.string ((l).div)))] Gd.none Xe3_tA41 rfl rfl rfl rfl rfl ?_
  refine o_move (AV.lit (.string (a))) Gd.none rfl ?_
  refine o_call [(AV.agg [(AV.lit (.string ((l).mul))), (AV.lit (.string ((l).add))), (AV.lit (.string ((l).div)))]), (AV.lit (.string (a)))] (AV.tup [(AV.lit (.string (appS (l) (a)))), (bp (AppB (l) (a))), (nm .i64 (appE (l) (a)))]) Gd.none Xe3_tC28 rfl (c_oApply (l) (a) (by first | assumption | decide | omega) (by first | assumption | decide | omega) (by first | assumption | decide | omega) (by first | assumption | decide | omega)) ?_
  refine o_move (AV.tup [(AV.lit (.string (appS (l) (a)))), (bp (AppB (l) (a))), (nm .i64 (appE (l) (a)))]) Gd.none rfl ?_
  refine o_extract (AV.lit (.string (appS (l) (a)))) Gd.none rfl rfl ?_
  refine o_extract (bp (AppB (l) (a))) Gd.none rfl rfl ?_
  refine o_extract (nm .i64 (appE (l) (a))) Gd.none rfl rfl ?_
  refine o_assign (AV.lit (.string (appS (l) (a)))) Gd.none rfl ?_
  refine o_assign (bp (AppB (l) (a))) Gd.none rfl ?_
  refine o_assign (nm .i64 (appE (l) (a))) Gd.none rfl ?_
  refine aops_end ?_
  refine hK1 _ ?_
  refine awp_seq fun K2 hK2 => ?_
  refine awp_seq fun K3 hK3 => ?_
  refine awp_region rfl ?_
  refine o_fieldRef 0 Gd.none Xe3_tF41_0 rfl rfl ?_
  refine o_loadS (AV.lit (.string ((l).mul))) Gd.none Xe3_tS9 rfl rfl rfl ?_
  refine o_call [(AV.lit (.string ((l).mul)))] (AV.lit (.bool (okS ((l).mul)))) Gd.none Xe3_tC15 rfl (c_rValid ((l).mul) (by first | assumption | decide | omega)) ?_
  refine o_not (b := okS ((l).mul)) Gd.none rfl ?_
  refine o_move (AV.lit (.bool (!(okS ((l).mul))))) Gd.none rfl ?_
  refine o_split (b := !(okS ((l).mul))) 23 rfl (fun h1 => ?_) (fun h1 => ?_)
  · have k1 : okS l.mul = false := by simpa using h1
    have e := app_1 (l := l) (a := a) (fun e => by have h1 := e.1; have h2 := e.2; unfold okL at h1; rw [k1] at h1; simp at h1)
    refine o_skip (b := !(okS ((l).mul))) rfl rfl h1 ?_
    refine o_skip (b := !(okS ((l).mul))) rfl rfl h1 ?_
    refine o_skip (b := !(okS ((l).mul))) rfl rfl h1 ?_
    refine o_skip (b := !(okS ((l).mul))) rfl rfl h1 ?_
    refine o_pickT (b := !(okS ((l).mul))) (AV.lit (.bool true)) Gd.none rfl h1 rfl ?_
    refine o_move (AV.lit (.bool true)) Gd.none rfl ?_
    refine o_skip (b := true) rfl rfl rfl ?_
    refine o_skip (b := true) rfl rfl rfl ?_
    refine o_skip (b := true) rfl rfl rfl ?_
    refine o_skip (b := true) rfl rfl rfl ?_
    refine o_pickT (b := true) (AV.lit (.bool true)) Gd.none rfl rfl rfl ?_
    refine o_move (AV.lit (.bool true)) Gd.none rfl ?_
    refine o_skip (b := true) rfl rfl rfl ?_
    refine o_skip (b := true) rfl rfl rfl ?_
    refine o_skip (b := true) rfl rfl rfl ?_
    refine o_pickT (b := true) (AV.lit (.bool true)) Gd.none rfl rfl rfl ?_
    refine aops_end ?_
    refine hK3 _ ?_
    refine awp_condB (b := true) rfl (fun _ => ?_) (fun hh => absurd (hh.symm.trans rfl) (by decide))
    refine awp_seq fun K4 hK4 => ?_
    refine awp_region rfl ?_
    refine o_move (AV.lit (.string (appS (l) (a)))) Gd.none rfl ?_
    refine n_as (v' := (AV.lit (.string (({data := #[]} : ByteArray))))) (by rw [e.2.2]; rfl) ?_
    refine o_eqlS (a := (({data := #[]} : ByteArray))) (c := (({data := #[]} : ByteArray))) Gd.none rfl rfl ?_
    refine o_move (bp ((({data := #[]} : ByteArray)).toList = (({data := #[]} : ByteArray)).toList)) Gd.none rfl ?_
    refine o_move (bp (AppB (l) (a))) (Gd.yes rfl rfl (decide_eq_true rfl)) rfl ?_
    refine n_as (v' := (AV.lit (.bool false))) (by exact bp_no e.2.1) ?_
    refine o_not (b := false) (Gd.yes rfl rfl (decide_eq_true rfl)) rfl ?_
    refine o_pickT (b := decide ((({data := #[]} : ByteArray)).toList = (({data := #[]} : ByteArray)).toList)) (AV.lit (.bool true)) Gd.none rfl (decide_eq_true rfl) rfl ?_
    refine o_move (AV.lit (.bool true)) Gd.none rfl ?_
    refine o_move (nm .i64 (appE (l) (a))) (Gd.yes rfl rfl rfl) rfl ?_
    refine n_as (v' := (nm .i64 (1))) (by rw [e.1]) ?_
    refine n_eql (1) (1) (Gd.yes rfl rfl rfl) rfl rfl ?_
    refine o_pickT (b := true) (bp ((1) = (1))) Gd.none rfl rfl rfl ?_
    refine o_move (bp ((1) = (1))) Gd.none rfl ?_
    refine o_call [] (AV.lit (.bool true)) (Gd.yes rfl rfl (decide_eq_true (by decide))) Xe3_tC16 rfl c_l3Awake ?_
    refine o_pickT (b := decide ((1) = (1))) (AV.lit (.bool true)) Gd.none rfl (decide_eq_true (by decide)) rfl ?_
    refine o_assign (AV.lit (.bool true)) Gd.none rfl ?_
    refine aops_end ?_
    refine hK4 _ ?_
    refine awp_ret ?_
    refine post_ret ⟨[(AV.lit (.bool true))], And.intro (AV.le_refl _) (trivial), rfl, ?_⟩
    first | rfl | simp [bp]
  · have k1 : okS l.mul = true := by simpa using h1
    refine o_fieldRef 1 (Gd.yes rfl rfl h1) Xe3_tF41_1 rfl rfl ?_
    refine o_loadS (AV.lit (.string ((l).add))) (Gd.yes rfl rfl h1) Xe3_tS9 rfl rfl rfl ?_
    refine o_call [(AV.lit (.string ((l).add)))] (AV.lit (.bool (okS ((l).add)))) (Gd.yes rfl rfl h1) Xe3_tC15 rfl (c_rValid ((l).add) (by first | assumption | decide | omega)) ?_
    refine o_not (b := okS ((l).add)) (Gd.yes rfl rfl h1) rfl ?_
    refine o_pickF (b := !(okS ((l).mul))) (AV.lit (.bool (!(okS ((l).add))))) Gd.none rfl h1 rfl ?_
    refine o_move (AV.lit (.bool (!(okS ((l).add))))) Gd.none rfl ?_
    refine o_split (b := !(okS ((l).add))) 29 rfl (fun h2 => ?_) (fun h2 => ?_)
    · have k2 : okS l.add = false := by simpa using h2
      have e := app_1 (l := l) (a := a) (fun e => by have h1 := e.1; have h2 := e.2; unfold okL at h1; rw [k2] at h1; simp at h1)
      refine o_skip (b := !(okS ((l).add))) rfl rfl h2 ?_
      refine o_skip (b := !(okS ((l).add))) rfl rfl h2 ?_
      refine o_skip (b := !(okS ((l).add))) rfl rfl h2 ?_
      refine o_skip (b := !(okS ((l).add))) rfl rfl h2 ?_
      refine o_pickT (b := !(okS ((l).add))) (AV.lit (.bool true)) Gd.none rfl h2 rfl ?_
      refine o_move (AV.lit (.bool true)) Gd.none rfl ?_
      refine o_skip (b := true) rfl rfl rfl ?_
      refine o_skip (b := true) rfl rfl rfl ?_
      refine o_skip (b := true) rfl rfl rfl ?_
      refine o_pickT (b := true) (AV.lit (.bool true)) Gd.none rfl rfl rfl ?_
      refine aops_end ?_
      refine hK3 _ ?_
      refine awp_condB (b := true) rfl (fun _ => ?_) (fun hh => absurd (hh.symm.trans rfl) (by decide))
      refine awp_seq fun K5 hK5 => ?_
      refine awp_region rfl ?_
      refine o_move (AV.lit (.string (appS (l) (a)))) Gd.none rfl ?_
      refine n_as (v' := (AV.lit (.string (({data := #[]} : ByteArray))))) (by rw [e.2.2]; rfl) ?_
      refine o_eqlS (a := (({data := #[]} : ByteArray))) (c := (({data := #[]} : ByteArray))) Gd.none rfl rfl ?_
      refine o_move (bp ((({data := #[]} : ByteArray)).toList = (({data := #[]} : ByteArray)).toList)) Gd.none rfl ?_
      refine o_move (bp (AppB (l) (a))) (Gd.yes rfl rfl (decide_eq_true rfl)) rfl ?_
      refine n_as (v' := (AV.lit (.bool false))) (by exact bp_no e.2.1) ?_
      refine o_not (b := false) (Gd.yes rfl rfl (decide_eq_true rfl)) rfl ?_
      refine o_pickT (b := decide ((({data := #[]} : ByteArray)).toList = (({data := #[]} : ByteArray)).toList)) (AV.lit (.bool true)) Gd.none rfl (decide_eq_true rfl) rfl ?_
      refine o_move (AV.lit (.bool true)) Gd.none rfl ?_
      refine o_move (nm .i64 (appE (l) (a))) (Gd.yes rfl rfl rfl) rfl ?_
      refine n_as (v' := (nm .i64 (1))) (by rw [e.1]) ?_
      refine n_eql (1) (1) (Gd.yes rfl rfl rfl) rfl rfl ?_
      refine o_pickT (b := true) (bp ((1) = (1))) Gd.none rfl rfl rfl ?_
      refine o_move (bp ((1) = (1))) Gd.none rfl ?_
      refine o_call [] (AV.lit (.bool true)) (Gd.yes rfl rfl (decide_eq_true (by decide))) Xe3_tC16 rfl c_l3Awake ?_
      refine o_pickT (b := decide ((1) = (1))) (AV.lit (.bool true)) Gd.none rfl (decide_eq_true (by decide)) rfl ?_
      refine o_assign (AV.lit (.bool true)) Gd.none rfl ?_
      refine aops_end ?_
      refine hK5 _ ?_
      refine awp_ret ?_
      refine post_ret ⟨[(AV.lit (.bool true))], And.intro (AV.le_refl _) (trivial), rfl, ?_⟩
      first | rfl | simp [bp]
    · have k2 : okS l.add = true := by simpa using h2
      refine o_fieldRef 2 (Gd.yes rfl rfl h2) Xe3_tF41_2 rfl rfl ?_
      refine o_loadS (AV.lit (.string ((l).div))) (Gd.yes rfl rfl h2) Xe3_tS9 rfl rfl rfl ?_
      refine o_call [(AV.lit (.string ((l).div)))] (AV.lit (.bool (okS ((l).div)))) (Gd.yes rfl rfl h2) Xe3_tC15 rfl (c_rValid ((l).div) (by first | assumption | decide | omega)) ?_
      refine o_not (b := okS ((l).div)) (Gd.yes rfl rfl h2) rfl ?_
      refine o_pickF (b := !(okS ((l).add))) (AV.lit (.bool (!(okS ((l).div))))) Gd.none rfl h2 rfl ?_
      refine o_move (AV.lit (.bool (!(okS ((l).div))))) Gd.none rfl ?_
      refine o_split (b := !(okS ((l).div))) 35 rfl (fun h3 => ?_) (fun h3 => ?_)
      · have k3 : okS l.div = false := by simpa using h3
        have e := app_1 (l := l) (a := a) (fun e => by have h1 := e.1; have h2 := e.2; unfold okL at h1; rw [k3] at h1; simp at h1)
        refine o_skip (b := !(okS ((l).div))) rfl rfl h3 ?_
        refine o_skip (b := !(okS ((l).div))) rfl rfl h3 ?_
        refine o_skip (b := !(okS ((l).div))) rfl rfl h3 ?_
        refine o_pickT (b := !(okS ((l).div))) (AV.lit (.bool true)) Gd.none rfl h3 rfl ?_
        refine aops_end ?_
        refine hK3 _ ?_
        refine awp_condB (b := true) rfl (fun _ => ?_) (fun hh => absurd (hh.symm.trans rfl) (by decide))
        refine awp_seq fun K6 hK6 => ?_
        refine awp_region rfl ?_
        refine o_move (AV.lit (.string (appS (l) (a)))) Gd.none rfl ?_
        refine n_as (v' := (AV.lit (.string (({data := #[]} : ByteArray))))) (by rw [e.2.2]; rfl) ?_
        refine o_eqlS (a := (({data := #[]} : ByteArray))) (c := (({data := #[]} : ByteArray))) Gd.none rfl rfl ?_
        refine o_move (bp ((({data := #[]} : ByteArray)).toList = (({data := #[]} : ByteArray)).toList)) Gd.none rfl ?_
        refine o_move (bp (AppB (l) (a))) (Gd.yes rfl rfl (decide_eq_true rfl)) rfl ?_
        refine n_as (v' := (AV.lit (.bool false))) (by exact bp_no e.2.1) ?_
        refine o_not (b := false) (Gd.yes rfl rfl (decide_eq_true rfl)) rfl ?_
        refine o_pickT (b := decide ((({data := #[]} : ByteArray)).toList = (({data := #[]} : ByteArray)).toList)) (AV.lit (.bool true)) Gd.none rfl (decide_eq_true rfl) rfl ?_
        refine o_move (AV.lit (.bool true)) Gd.none rfl ?_
        refine o_move (nm .i64 (appE (l) (a))) (Gd.yes rfl rfl rfl) rfl ?_
        refine n_as (v' := (nm .i64 (1))) (by rw [e.1]) ?_
        refine n_eql (1) (1) (Gd.yes rfl rfl rfl) rfl rfl ?_
        refine o_pickT (b := true) (bp ((1) = (1))) Gd.none rfl rfl rfl ?_
        refine o_move (bp ((1) = (1))) Gd.none rfl ?_
        refine o_call [] (AV.lit (.bool true)) (Gd.yes rfl rfl (decide_eq_true (by decide))) Xe3_tC16 rfl c_l3Awake ?_
        refine o_pickT (b := decide ((1) = (1))) (AV.lit (.bool true)) Gd.none rfl (decide_eq_true (by decide)) rfl ?_
        refine o_assign (AV.lit (.bool true)) Gd.none rfl ?_
        refine aops_end ?_
        refine hK6 _ ?_
        refine awp_ret ?_
        refine post_ret ⟨[(AV.lit (.bool true))], And.intro (AV.le_refl _) (trivial), rfl, ?_⟩
        first | rfl | simp [bp]
      · have k3 : okS l.div = true := by simpa using h3
        refine o_move (AV.lit (.string (a))) (Gd.yes rfl rfl h3) rfl ?_
        refine o_call [(AV.lit (.string (a)))] (AV.lit (.bool (okS (a)))) (Gd.yes rfl rfl h3) Xe3_tC15 rfl (c_rValid (a) (by first | assumption | decide | omega)) ?_
        refine o_not (b := okS (a)) (Gd.yes rfl rfl h3) rfl ?_
        refine o_pickF (b := !(okS ((l).div))) (AV.lit (.bool (!(okS (a))))) Gd.none rfl h3 rfl ?_
        refine aops_end ?_
        refine hK3 _ ?_
        refine awp_condB (b := !(okS (a))) rfl (fun h4 => ?_) (fun h4 => ?_)
        · have k4 : okS a = false := by simpa using h4
          have e := app_1 (l := l) (a := a) (fun e => by have h1 := e.1; have h2 := e.2; unfold okL at h1; rw [k4] at h2; simp at h2)
          refine awp_seq fun K7 hK7 => ?_
          refine awp_region rfl ?_
          refine o_move (AV.lit (.string (appS (l) (a)))) Gd.none rfl ?_
          refine n_as (v' := (AV.lit (.string (({data := #[]} : ByteArray))))) (by rw [e.2.2]; rfl) ?_
          refine o_eqlS (a := (({data := #[]} : ByteArray))) (c := (({data := #[]} : ByteArray))) Gd.none rfl rfl ?_
          refine o_move (bp ((({data := #[]} : ByteArray)).toList = (({data := #[]} : ByteArray)).toList)) Gd.none rfl ?_
          refine o_move (bp (AppB (l) (a))) (Gd.yes rfl rfl (decide_eq_true rfl)) rfl ?_
          refine n_as (v' := (AV.lit (.bool false))) (by exact bp_no e.2.1) ?_
          refine o_not (b := false) (Gd.yes rfl rfl (decide_eq_true rfl)) rfl ?_
          refine o_pickT (b := decide ((({data := #[]} : ByteArray)).toList = (({data := #[]} : ByteArray)).toList)) (AV.lit (.bool true)) Gd.none rfl (decide_eq_true rfl) rfl ?_
          refine o_move (AV.lit (.bool true)) Gd.none rfl ?_
          refine o_move (nm .i64 (appE (l) (a))) (Gd.yes rfl rfl rfl) rfl ?_
          refine n_as (v' := (nm .i64 (1))) (by rw [e.1]) ?_
          refine n_eql (1) (1) (Gd.yes rfl rfl rfl) rfl rfl ?_
          refine o_pickT (b := true) (bp ((1) = (1))) Gd.none rfl rfl rfl ?_
          refine o_move (bp ((1) = (1))) Gd.none rfl ?_
          refine o_call [] (AV.lit (.bool true)) (Gd.yes rfl rfl (decide_eq_true (by decide))) Xe3_tC16 rfl c_l3Awake ?_
          refine o_pickT (b := decide ((1) = (1))) (AV.lit (.bool true)) Gd.none rfl (decide_eq_true (by decide)) rfl ?_
          refine o_assign (AV.lit (.bool true)) Gd.none rfl ?_
          refine aops_end ?_
          refine hK7 _ ?_
          refine awp_ret ?_
          refine post_ret ⟨[(AV.lit (.bool true))], And.intro (AV.le_refl _) (trivial), rfl, ?_⟩
          first | rfl | simp [bp]
        · have k4 : okS a = true := by simpa using h4
          have ho : okL l = true ∧ okS a = true := ⟨by unfold okL; rw [k1, k2, k3]; rfl, k4⟩
          have s1 := len_numS (okS_iff.1 k1)
          have s2 := len_numS (okS_iff.1 k2)
          have s3 := len_numS (okS_iff.1 k3)
          have s4 := len_numS (okS_iff.1 k4)
          have hA := len_mulZ (numS l.mul) (numS a)
          have hB : (digs (appV l a).natAbs).length ≤ _ := len_addZ (numS l.mul * numS a) (numS l.add)
          refine awp_skip ?_
          refine hK2 _ ?_
          refine awp_seq fun K8 hK8 => ?_
          refine awp_region rfl ?_
          refine o_fieldRef 2 Gd.none Xe3_tF41_2 rfl rfl ?_
          refine o_loadS (AV.lit (.string ((l).div))) Gd.none Xe3_tS9 rfl rfl rfl ?_
          refine o_call [(AV.lit (.string ((l).div)))] (intR ((numS ((l).div)))) Gd.none Xe3_tC18 rfl (c_rParse ((l).div) (by first | assumption | exact okS_iff.1 (by assumption))) ?_
          refine o_alloc 3 [(AV.lit (.bool false)), (AV.lit (.slice none 0 0))] Gd.none Xe3_tO36 rfl rfl rfl ?_
          refine o_store [(3, (AO.var 36 [(bp ((numS ((l).div)) < 0)), (AV.sl 1 (ns .i64 (digs ((numS ((l).div))).natAbs)))])), (2, (AO.var 41 [(AV.lit (.string ((l).mul))), (AV.lit (.string ((l).add))), (AV.lit (.string ((l).div)))]))] Gd.none Xe3_tZ36 rfl rfl rfl rfl rfl rfl ?_
          refine aops_end ?_
          refine hK8 _ ?_
          refine awp_seq fun K9 hK9 => ?_
          refine awp_seq fun K10 hK10 => ?_
          refine awp_region rfl ?_
          refine o_loadA [(bp ((numS ((l).div)) < 0)), (AV.sl 1 (ns .i64 (digs ((numS ((l).div))).natAbs)))] Gd.none Xe3_tA36 rfl rfl rfl rfl rfl ?_
          refine o_call [(AV.agg [(bp ((numS ((l).div)) < 0)), (AV.sl 1 (ns .i64 (digs ((numS ((l).div))).natAbs)))])] (AV.lit (.int .i64 (sgn ((numS ((l).div)))))) Gd.none Xe3_tC29 rfl (c_rSign ((numS ((l).div)))) ?_
          refine o_leq (a := (sgn ((numS ((l).div))))) (c := (((0 : Nat) : Int))) Gd.none rfl rfl ?_
          refine aops_end ?_
          refine hK10 _ ?_
          refine awp_condQ (q := (sgn ((numS ((l).div)))) ≤ (((0 : Nat) : Int))) rfl (fun h5 => ?_) (fun h5 => ?_)
          · have e := app_2 ho (by have := sgn_le.1 h5; omega)
            refine awp_seq fun K11 hK11 => ?_
            refine awp_region rfl ?_
            refine o_move (AV.lit (.string (appS (l) (a)))) Gd.none rfl ?_
            refine n_as (v' := (AV.lit (.string (({data := #[]} : ByteArray))))) (by rw [e.2.2]; rfl) ?_
            refine o_eqlS (a := (({data := #[]} : ByteArray))) (c := (({data := #[]} : ByteArray))) Gd.none rfl rfl ?_
            refine o_move (bp ((({data := #[]} : ByteArray)).toList = (({data := #[]} : ByteArray)).toList)) Gd.none rfl ?_
            refine o_move (bp (AppB (l) (a))) (Gd.yes rfl rfl (decide_eq_true rfl)) rfl ?_
            refine n_as (v' := (AV.lit (.bool false))) (by exact bp_no e.2.1) ?_
            refine o_not (b := false) (Gd.yes rfl rfl (decide_eq_true rfl)) rfl ?_
            refine o_pickT (b := decide ((({data := #[]} : ByteArray)).toList = (({data := #[]} : ByteArray)).toList)) (AV.lit (.bool true)) Gd.none rfl (decide_eq_true rfl) rfl ?_
            refine o_move (AV.lit (.bool true)) Gd.none rfl ?_
            refine o_move (nm .i64 (appE (l) (a))) (Gd.yes rfl rfl rfl) rfl ?_
            refine n_as (v' := (nm .i64 (2))) (by rw [e.1]) ?_
            refine n_eql (2) (2) (Gd.yes rfl rfl rfl) rfl rfl ?_
            refine o_pickT (b := true) (bp ((2) = (2))) Gd.none rfl rfl rfl ?_
            refine o_move (bp ((2) = (2))) Gd.none rfl ?_
            refine o_call [] (AV.lit (.bool true)) (Gd.yes rfl rfl (decide_eq_true (by decide))) Xe3_tC16 rfl c_l3Awake ?_
            refine o_pickT (b := decide ((2) = (2))) (AV.lit (.bool true)) Gd.none rfl (decide_eq_true (by decide)) rfl ?_
            refine o_assign (AV.lit (.bool true)) Gd.none rfl ?_
            refine aops_end ?_
            refine hK11 _ ?_
            refine awp_ret ?_
            refine post_ret ⟨[(AV.lit (.bool true))], And.intro (AV.le_refl _) (trivial), rfl, ?_⟩
            first | rfl | simp [bp]
          · have hd : 0 < numS l.div := by rcases Int.lt_or_le 0 (numS l.div) with e | e; exact e; exact absurd (sgn_le.2 e) h5
            have hE := len_ediv (appV l a) hd
            refine awp_skip ?_
            refine hK9 _ ?_
            refine awp_seq fun K12 hK12 => ?_
            refine awp_regionD rfl ?_
            refine o_fieldRef 0 Gd.none Xe3_tF41_0 rfl rfl ?_
            refine o_loadS (AV.lit (.string ((l).mul))) Gd.none Xe3_tS9 rfl rfl rfl ?_
            refine o_call [(AV.lit (.string ((l).mul)))] (intR ((numS ((l).mul)))) Gd.none Xe3_tC18 rfl (c_rParse ((l).mul) (by first | assumption | exact okS_iff.1 (by assumption))) ?_
            refine o_fieldRef 1 Gd.none Xe3_tF41_1 rfl rfl ?_
            refine o_loadS (AV.lit (.string ((l).add))) Gd.none Xe3_tS9 rfl rfl rfl ?_
            refine o_call [(AV.lit (.string ((l).add)))] (intR ((numS ((l).add)))) Gd.none Xe3_tC18 rfl (c_rParse ((l).add) (by first | assumption | exact okS_iff.1 (by assumption))) ?_
            refine o_loadA [(bp ((numS ((l).div)) < 0)), (AV.sl 1 (ns .i64 (digs ((numS ((l).div))).natAbs)))] Gd.none Xe3_tA36 rfl rfl rfl rfl rfl ?_
            refine o_build [(bp ((numS ((l).mul)) < 0)), (AV.sl 1 (ns .i64 (digs ((numS ((l).mul))).natAbs))), (bp ((numS ((l).add)) < 0)), (AV.sl 1 (ns .i64 (digs ((numS ((l).add))).natAbs))), (bp ((numS ((l).div)) < 0)), (AV.sl 1 (ns .i64 (digs ((numS ((l).div))).natAbs)))] [(0, [(bp ((numS ((l).mul)) < 0)), (AV.sl 1 (ns .i64 (digs ((numS ((l).mul))).natAbs)))]), (1, [(bp ((numS ((l).add)) < 0)), (AV.sl 1 (ns .i64 (digs ((numS ((l).add))).natAbs)))]), (2, [(bp ((numS ((l).div)) < 0)), (AV.sl 1 (ns .i64 (digs ((numS ((l).div))).natAbs)))])] Gd.none Xe3_tP49 Xe3_tO49 rfl rfl rfl ?_
            refine o_move (AV.lit (.string (a))) Gd.none rfl ?_
            refine o_call [(AV.lit (.string (a)))] (intR ((numS (a)))) Gd.none Xe3_tC18 rfl (c_rParse (a) (by first | assumption | exact okS_iff.1 (by assumption))) ?_
            refine o_call [(AV.agg [(bp ((numS ((l).mul)) < 0)), (AV.sl 1 (ns .i64 (digs ((numS ((l).mul))).natAbs))), (bp ((numS ((l).add)) < 0)), (AV.sl 1 (ns .i64 (digs ((numS ((l).add))).natAbs))), (bp ((numS ((l).div)) < 0)), (AV.sl 1 (ns .i64 (digs ((numS ((l).div))).natAbs)))]), (intR ((numS (a))))] (intR ((appV l a))) Gd.none Xe3_tC30 rfl (c_vValue ⟨numS l.mul, numS l.add, numS l.div⟩ (numS a) (Nat.le_trans s1 (by decide)) (Nat.le_trans s2 (by decide)) (Nat.le_trans s4 (by decide))) ?_
            refine o_alloc 4 [(AV.lit (.bool false)), (AV.lit (.slice none 0 0))] Gd.none Xe3_tO36 rfl rfl rfl ?_
            refine o_store [(4, (AO.var 36 [(bp ((appV l a) < 0)), (AV.sl 1 (ns .i64 (digs ((appV l a)).natAbs)))])), (3, (AO.var 36 [(bp ((numS ((l).div)) < 0)), (AV.sl 1 (ns .i64 (digs ((numS ((l).div))).natAbs)))])), (2, (AO.var 41 [(AV.lit (.string ((l).mul))), (AV.lit (.string ((l).add))), (AV.lit (.string ((l).div)))]))] Gd.none Xe3_tZ36 rfl rfl rfl rfl rfl rfl ?_
            refine aops_end ⟨by kernel_rfl, ?_⟩
            refine hK12 _ ?_
            refine awp_seq fun K13 hK13 => ?_
            refine awp_seq fun K14 hK14 => ?_
            refine awp_region rfl ?_
            refine o_loadA [(bp ((appV l a) < 0)), (AV.sl 1 (ns .i64 (digs ((appV l a)).natAbs)))] Gd.none Xe3_tA36 rfl rfl rfl rfl rfl ?_
            refine o_call [(AV.agg [(bp ((appV l a) < 0)), (AV.sl 1 (ns .i64 (digs ((appV l a)).natAbs)))])] (bp (Fit ((appV l a)))) Gd.none Xe3_tC31 rfl (c_rFits ((appV l a)) (by first | assumption | omega | (simp only [Int.natAbs_neg]; omega))) ?_
            refine o_notP (q := Fit ((appV l a))) Gd.none rfl ?_
            refine aops_end ?_
            refine hK14 _ ?_
            refine awp_condQ (q := ¬ (Fit ((appV l a)))) rfl (fun h6 => ?_) (fun h6 => ?_)
            · have e := app_3 ho hd h6
              refine awp_seq fun K15 hK15 => ?_
              refine awp_region rfl ?_
              refine o_move (AV.lit (.string (appS (l) (a)))) Gd.none rfl ?_
              refine n_as (v' := (AV.lit (.string (({data := #[]} : ByteArray))))) (by rw [e.2.2]; rfl) ?_
              refine o_eqlS (a := (({data := #[]} : ByteArray))) (c := (({data := #[]} : ByteArray))) Gd.none rfl rfl ?_
              refine o_move (bp ((({data := #[]} : ByteArray)).toList = (({data := #[]} : ByteArray)).toList)) Gd.none rfl ?_
              refine o_move (bp (AppB (l) (a))) (Gd.yes rfl rfl (decide_eq_true rfl)) rfl ?_
              refine n_as (v' := (AV.lit (.bool false))) (by exact bp_no e.2.1) ?_
              refine o_not (b := false) (Gd.yes rfl rfl (decide_eq_true rfl)) rfl ?_
              refine o_pickT (b := decide ((({data := #[]} : ByteArray)).toList = (({data := #[]} : ByteArray)).toList)) (AV.lit (.bool true)) Gd.none rfl (decide_eq_true rfl) rfl ?_
              refine o_move (AV.lit (.bool true)) Gd.none rfl ?_
              refine o_move (nm .i64 (appE (l) (a))) (Gd.yes rfl rfl rfl) rfl ?_
              refine n_as (v' := (nm .i64 (3))) (by rw [e.1]) ?_
              refine n_eql (3) (3) (Gd.yes rfl rfl rfl) rfl rfl ?_
              refine o_pickT (b := true) (bp ((3) = (3))) Gd.none rfl rfl rfl ?_
              refine o_move (bp ((3) = (3))) Gd.none rfl ?_
              refine o_call [] (AV.lit (.bool true)) (Gd.yes rfl rfl (decide_eq_true (by decide))) Xe3_tC16 rfl c_l3Awake ?_
              refine o_pickT (b := decide ((3) = (3))) (AV.lit (.bool true)) Gd.none rfl (decide_eq_true (by decide)) rfl ?_
              refine o_assign (AV.lit (.bool true)) Gd.none rfl ?_
              refine aops_end ?_
              refine hK15 _ ?_
              refine awp_ret ?_
              refine post_ret ⟨[(AV.lit (.bool true))], And.intro (AV.le_refl _) (trivial), rfl, ?_⟩
              first | rfl | simp [bp]
            · have hf := Decidable.not_not.1 h6
              refine awp_skip ?_
              refine hK13 _ ?_
              refine awp_seq fun K16 hK16 => ?_
              refine awp_region rfl ?_
              refine o_loadA [(bp ((appV l a) < 0)), (AV.sl 1 (ns .i64 (digs ((appV l a)).natAbs)))] Gd.none Xe3_tA36 rfl rfl rfl rfl rfl ?_
              refine o_loadA [(bp ((numS ((l).div)) < 0)), (AV.sl 1 (ns .i64 (digs ((numS ((l).div))).natAbs)))] Gd.none Xe3_tA36 rfl rfl rfl rfl rfl ?_
              refine o_call [(AV.agg [(bp ((appV l a) < 0)), (AV.sl 1 (ns .i64 (digs ((appV l a)).natAbs)))]), (AV.agg [(bp ((numS ((l).div)) < 0)), (AV.sl 1 (ns .i64 (digs ((numS ((l).div))).natAbs)))])] (AV.tup [(intR (((appV l a) / (numS ((l).div))))), (intR (((appV l a) % (numS ((l).div)))))]) Gd.none Xe3_tC32 rfl (c_rDiv ((appV l a)) ((numS ((l).div))) (by omega) (by omega) (by omega)) ?_
              refine o_move (AV.tup [(intR (((appV l a) / (numS ((l).div))))), (intR (((appV l a) % (numS ((l).div)))))]) Gd.none rfl ?_
              refine o_extract (intR (((appV l a) / (numS ((l).div))))) Gd.none rfl rfl ?_
              refine o_extract (intR (((appV l a) % (numS ((l).div))))) Gd.none rfl rfl ?_
              refine o_alloc 5 [(AV.lit (.bool false)), (AV.lit (.slice none 0 0))] Gd.none Xe3_tO36 rfl rfl rfl ?_
              refine o_alloc 6 [(AV.lit (.bool false)), (AV.lit (.slice none 0 0))] Gd.none Xe3_tO36 rfl rfl rfl ?_
              refine o_store [(6, (AO.var 36 [(AV.lit (.bool false)), (AV.lit (.slice none 0 0))])), (5, (AO.var 36 [(bp (((appV l a) / (numS ((l).div))) < 0)), (AV.sl 1 (ns .i64 (digs (((appV l a) / (numS ((l).div)))).natAbs)))])), (4, (AO.var 36 [(bp ((appV l a) < 0)), (AV.sl 1 (ns .i64 (digs ((appV l a)).natAbs)))])), (3, (AO.var 36 [(bp ((numS ((l).div)) < 0)), (AV.sl 1 (ns .i64 (digs ((numS ((l).div))).natAbs)))])), (2, (AO.var 41 [(AV.lit (.string ((l).mul))), (AV.lit (.string ((l).add))), (AV.lit (.string ((l).div)))]))] Gd.none Xe3_tZ36 rfl rfl rfl rfl rfl rfl ?_
              refine o_store [(6, (AO.var 36 [(bp (((appV l a) % (numS ((l).div))) < 0)), (AV.sl 1 (ns .i64 (digs (((appV l a) % (numS ((l).div)))).natAbs)))])), (5, (AO.var 36 [(bp (((appV l a) / (numS ((l).div))) < 0)), (AV.sl 1 (ns .i64 (digs (((appV l a) / (numS ((l).div)))).natAbs)))])), (4, (AO.var 36 [(bp ((appV l a) < 0)), (AV.sl 1 (ns .i64 (digs ((appV l a)).natAbs)))])), (3, (AO.var 36 [(bp ((numS ((l).div)) < 0)), (AV.sl 1 (ns .i64 (digs ((numS ((l).div))).natAbs)))])), (2, (AO.var 41 [(AV.lit (.string ((l).mul))), (AV.lit (.string ((l).add))), (AV.lit (.string ((l).div)))]))] Gd.none Xe3_tZ36 rfl rfl rfl rfl rfl rfl ?_
              refine aops_end ?_
              refine hK16 _ ?_
              refine awp_seq fun K17 hK17 => ?_
              refine awp_seq fun K18 hK18 => ?_
              refine awp_region rfl ?_
              refine o_loadA [(bp (((appV l a) % (numS ((l).div))) < 0)), (AV.sl 1 (ns .i64 (digs (((appV l a) % (numS ((l).div)))).natAbs)))] Gd.none Xe3_tA36 rfl rfl rfl rfl rfl ?_
              refine o_call [(AV.agg [(bp (((appV l a) % (numS ((l).div))) < 0)), (AV.sl 1 (ns .i64 (digs (((appV l a) % (numS ((l).div)))).natAbs)))])] (AV.lit (.int .i64 (sgn (((appV l a) % (numS ((l).div))))))) Gd.none Xe3_tC29 rfl (c_rSign (((appV l a) % (numS ((l).div))))) ?_
              refine o_neq (a := (sgn (((appV l a) % (numS ((l).div)))))) (c := (((0 : Nat) : Int))) Gd.none rfl rfl ?_
              refine aops_end ?_
              refine hK18 _ ?_
              refine awp_condQ (q := (sgn (((appV l a) % (numS ((l).div))))) ≠ (((0 : Nat) : Int))) rfl (fun h7 => ?_) (fun h7 => ?_)
              · have e := app_no ho hd hf (fun x => h7 (sgn_z0.2 x))
                refine awp_seq fun K19 hK19 => ?_
                refine awp_region rfl ?_
                refine o_move (AV.lit (.string (appS (l) (a)))) Gd.none rfl ?_
                refine n_as (v' := (AV.lit (.string (({data := #[]} : ByteArray))))) (by rw [e.2.2]; rfl) ?_
                refine o_eqlS (a := (({data := #[]} : ByteArray))) (c := (({data := #[]} : ByteArray))) Gd.none rfl rfl ?_
                refine o_move (bp ((({data := #[]} : ByteArray)).toList = (({data := #[]} : ByteArray)).toList)) Gd.none rfl ?_
                refine o_move (bp (AppB (l) (a))) (Gd.yes rfl rfl (decide_eq_true rfl)) rfl ?_
                refine n_as (v' := (AV.lit (.bool false))) (by exact bp_no e.2.1) ?_
                refine o_not (b := false) (Gd.yes rfl rfl (decide_eq_true rfl)) rfl ?_
                refine o_pickT (b := decide ((({data := #[]} : ByteArray)).toList = (({data := #[]} : ByteArray)).toList)) (AV.lit (.bool true)) Gd.none rfl (decide_eq_true rfl) rfl ?_
                refine o_move (AV.lit (.bool true)) Gd.none rfl ?_
                refine o_move (nm .i64 (appE (l) (a))) (Gd.yes rfl rfl rfl) rfl ?_
                refine n_as (v' := (nm .i64 (0))) (by rw [e.1]) ?_
                refine n_eql (0) (0) (Gd.yes rfl rfl rfl) rfl rfl ?_
                refine o_pickT (b := true) (bp ((0) = (0))) Gd.none rfl rfl rfl ?_
                refine o_move (bp ((0) = (0))) Gd.none rfl ?_
                refine o_call [] (AV.lit (.bool true)) (Gd.yes rfl rfl (decide_eq_true (by decide))) Xe3_tC16 rfl c_l3Awake ?_
                refine o_pickT (b := decide ((0) = (0))) (AV.lit (.bool true)) Gd.none rfl (decide_eq_true (by decide)) rfl ?_
                refine o_assign (AV.lit (.bool true)) Gd.none rfl ?_
                refine aops_end ?_
                refine hK19 _ ?_
                refine awp_ret ?_
                refine post_ret ⟨[(AV.lit (.bool true))], And.intro (AV.le_refl _) (trivial), rfl, ?_⟩
                first | rfl | simp [bp]
              · have e := app_yes ho hd hf (sgn_z0.1 (Decidable.not_not.1 h7))
                refine awp_skip ?_
                refine hK17 _ ?_
                refine awp_seq fun K20 hK20 => ?_
                refine awp_region rfl ?_
                refine o_move (AV.lit (.string (appS (l) (a)))) Gd.none rfl ?_
                refine n_as (v' := (AV.lit (.string (txt (((appV l a) / (numS ((l).div)))))))) (by rw [e.2.2]) ?_
                refine o_loadA [(bp (((appV l a) / (numS ((l).div))) < 0)), (AV.sl 1 (ns .i64 (digs (((appV l a) / (numS ((l).div)))).natAbs)))] Gd.none Xe3_tA36 rfl rfl rfl rfl rfl ?_
                refine o_call [(AV.agg [(bp (((appV l a) / (numS ((l).div))) < 0)), (AV.sl 1 (ns .i64 (digs (((appV l a) / (numS ((l).div)))).natAbs)))])] (AV.lit (.string (txt (((appV l a) / (numS ((l).div))))))) Gd.none Xe3_tC27 rfl (c_rText (((appV l a) / (numS ((l).div)))) (by first | assumption | omega | (simp only [Int.natAbs_neg]; omega))) ?_
                refine o_eqlS (a := (txt (((appV l a) / (numS ((l).div)))))) (c := (txt (((appV l a) / (numS ((l).div)))))) Gd.none rfl rfl ?_
                refine o_move (bp ((txt (((appV l a) / (numS ((l).div))))).toList = (txt (((appV l a) / (numS ((l).div))))).toList)) Gd.none rfl ?_
                refine o_move (bp (AppB (l) (a))) (Gd.yes rfl rfl (decide_eq_true rfl)) rfl ?_
                refine n_as (v' := (AV.lit (.bool true))) (by exact bp_yes e.2.1) ?_
                refine o_pickT (b := decide ((txt (((appV l a) / (numS ((l).div))))).toList = (txt (((appV l a) / (numS ((l).div))))).toList)) (AV.lit (.bool true)) Gd.none rfl (decide_eq_true rfl) rfl ?_
                refine o_move (AV.lit (.bool true)) Gd.none rfl ?_
                refine o_move (nm .i64 (appE (l) (a))) (Gd.yes rfl rfl rfl) rfl ?_
                refine n_as (v' := (nm .i64 (0))) (by rw [e.1]) ?_
                refine n_eql (0) (0) (Gd.yes rfl rfl rfl) rfl rfl ?_
                refine o_pickT (b := true) (bp ((0) = (0))) Gd.none rfl rfl rfl ?_
                refine o_move (bp ((0) = (0))) Gd.none rfl ?_
                refine o_call [] (AV.lit (.bool true)) (Gd.yes rfl rfl (decide_eq_true (by decide))) Xe3_tC16 rfl c_l3Awake ?_
                refine o_pickT (b := decide ((0) = (0))) (AV.lit (.bool true)) Gd.none rfl (decide_eq_true (by decide)) rfl ?_
                refine o_assign (AV.lit (.bool true)) Gd.none rfl ?_
                refine aops_end ?_
                refine hK20 _ ?_
                refine awp_ret ?_
                refine post_ret ⟨[(AV.lit (.bool true))], And.intro (AV.le_refl _) (trivial), rfl, ?_⟩
                first | rfl | simp [bp]

end Go.Proofs.YtbilndahjkimkaaDoor

set_option linter.unusedVariables false
namespace Go.Proofs.YtbilndahjkimkaaDoor.wordApplies
open Go Go.Ab Go.Mth Go.ChangeShapes Go.WideShapes Go.ChangeAt Go.RowKit
theorem reads (os : Os) {H : Type} (enc : TypeId × Value → H) : ∃ places, DataW.whole enc Tryd.prog ((World.laidAll Tryd.prog os laid5).forCall (fun _ _ => 0) ⟨#[], #[.agg #[.string ByteArray.empty, .string ByteArray.empty, .string ByteArray.empty], .string ByteArray.empty], []⟩).memory Tryd.f5.params.toList Rows.wordAppliesSpec.vars false (#[.agg #[.string ByteArray.empty, .string ByteArray.empty, .string ByteArray.empty], .string ByteArray.empty] : Array Value).toList 8 = some ([.agg [.lit (.string []), .lit (.string []), .lit (.string [])], .lit (.string [])], [], places) := ⟨[], by kernel_rfl⟩
theorem met (os : Os) : laidMetH Tryd.prog laid5 ((World.laidAll Tryd.prog os laid5).forCall (fun _ _ => 0) ⟨#[], #[.agg #[.string ByteArray.empty, .string ByteArray.empty, .string ByteArray.empty], .string ByteArray.empty], []⟩).memory := (MakeChecks.laidMetH_plain _ _ _ (by kernel_rfl)).mpr (laidMet_laidAll _ (by kernel_rfl) (by kernel_rfl))
theorem specs {H : Type} (ds : List (DataW H)) (h : ds.length = 2) : (Rows.wordAppliesSpec.fn H ds).results = [.lit (.bool true)] ∧ (Rows.wordAppliesSpec.fn H ds).args = ds ∧ (Rows.wordAppliesSpec.fn H ds).vars = [] := by
  rcases ds with _ | ⟨d0, _ | ⟨d1, _ | ⟨e, t⟩⟩⟩ <;> simp at h <;> exact ⟨rfl, rfl, rfl⟩
set_option maxRecDepth 100000 in
theorem opened {H : Type} (enc : TypeId × Value → H) (W : World) (base : Nat) (args : Array Value) (ds : List (DataW H)) (ps : List MemPlace) (hval : ∀ (j : Nat) t v, (#[41, 9] : Array TypeId)[j]? = some t → args[j]? = some v → Value.okWide Tryd.prog W .any base t v)
    (hA : DataW.TrodAll enc Tryd.prog W 0 (fun _ => true) true [41, 9] args.toList ds ps) (hsz : (DataW.weightsEach Tryd.prog [41, 9] ds).all (· ≤ reachBytes) = true) : ∃ xs, RepL (memOf W) xs noLoc args.toList ∧ ECalls cx 5 xs (.lit (.bool true)) := by
  obtain ⟨v0, vs0, d0, ds0, p0, q0, hargs, rfl, rfl, h0, r0⟩ := trodAll_cons hA
  obtain ⟨v1, vs1, d1, ds1, p1, q1, rfl, rfl, rfl, h1, r1⟩ := trodAll_cons r0
  obtain ⟨rfl, rfl, rfl⟩ := trodAll_nil r1
  obtain rfl : args = #[v0, v1] := by cases args; simp_all
  obtain ⟨n0, e0, b0, c0, g0⟩ := rep_line (hval 0 41 v0 rfl rfl) h0
  obtain ⟨a1, e1, b1⟩ := rep_str (hval 1 9 v1 rfl rfl) h1
  exact ⟨[lineV n0, .lit (.string a1)], RepL.cons e0 (RepL.cons e1 (by simp only [RepL])), c_WordApplies n0 a1 b0 c0 g0 b1⟩
set_option maxRecDepth 100000 in
theorem lifted (os : Os) (started : os.Started) (H : Type) (enc : TypeId × Value → H) (F : Stop.Interp) :
    ReturnsInHanded {} Tryd.checked os 5 .any ((OpenSpec.ofChange Rows.wordAppliesSpec).preRow enc Tryd.prog Tryd.f5 Rows.wordAppliesRow.domain false Rows.wordAppliesRow.laid) (((OpenSpec.ofChange Rows.wordAppliesSpec).at F).post enc Tryd.prog Tryd.f5 false true false false) := by
  obtain ⟨places, hx⟩ := reads os enc
  refine lifted_of (C := Tryd.checked) started cx rfl ownT (by kernel_rfl) Tryd.func5 (witness_laid #[.agg #[.string ByteArray.empty, .string ByteArray.empty, .string ByteArray.empty], .string ByteArray.empty] (by kernel_rfl) (by kernel_rfl) (by kernel_rfl) (OpenSpec.preRow_of_cond 8 hx (by kernel_rfl) (fun k hk => by cases hk) (by kernel_rfl) (met os))) laidOutT (by kernel_rfl) (tb := 4) (by kernel_rfl) u4T rfl (fun ds h => specs ds (h.trans (by kernel_rfl))) (fun W h => tabG_of h) ?_
  intro W base args ds ps hval hA hsz
  exact opened enc W base args ds ps hval hA hsz
theorem said : Rows.WordAppliesSaid :=
  OpenClaim.holds_of_cond 5 Tryd.f5 rfl rfl rfl rfl rfl rfl rfl ⟨rfl, rfl, rfl, rfl, rfl⟩ rfl rfl rfl rfl rfl (by kernel_rfl) Tryd.func5 (by kernel_rfl)
    (of_decide_eq_true (by kernel_rfl)) (by unfold Func.isWrapper; first | (rw [if_pos (by decide +kernel)]; kernel_rfl) | (rw [if_neg (by decide +kernel)]; exact ⟨rfl, rfl⟩))
    (fun os started H enc _ F => by rw [OpenClaim.pre_eq_preRow]; exact lifted os started H enc F)
theorem plain (f : FuncId) (fn : Func) (hf : Tryd.pinned.checked.prog.funcNamed "katabasis/katabasislaw03.WordApplies" = some f) (hfn : Tryd.pinned.checked.prog.funcs[f]? = some fn) :
    true = Tryd.pinned.checked.prog.looks [] ∧ ∀ (j : Nat) t, fn.params[j]? = some t → Tryd.pinned.checked.prog.wantsStandIn t = false := by
  obtain rfl : f = 5 := Option.some.inj ((show Tryd.prog.funcNamed "katabasis/katabasislaw03.WordApplies" = some 5 by kernel_rfl).symm.trans hf) |>.symm
  obtain rfl : fn = Tryd.f5 := (Option.some.inj (Tryd.func5.symm.trans hfn)).symm
  refine ⟨by kernel_rfl, fun j t ht => ?_⟩
  rw [Tryd.params5] at ht
  have : t = 41 ∨ t = 9 := by have h := Array.mem_of_getElem? ht; simp at h; first | exact h | (rcases h with h | h | h | h <;> simp [h]) | (rcases h with h | h | h <;> simp [h]) | (rcases h with h | h <;> simp [h])
  rcases this with rfl | rfl
  · exact (show Tryd.prog.wantsStandIn 41 = false by kernel_rfl)
  · exact (show Tryd.prog.wantsStandIn 9 = false by kernel_rfl)
end Go.Proofs.YtbilndahjkimkaaDoor.wordApplies
namespace Go.Proofs.YtbilndahjkimkaaDoor
open Go
theorem wordApplies_holds : Rows.WordAppliesCardSaid :=
  Claim7.holds_tied_plain_at .later [] _ _ _ _ wordApplies.said (fun _ h => by cases h) (by kernel_rfl) (fun _ h => by cases h) wordApplies_row_tie rfl ⟨rfl, rfl⟩ (by kernel_rfl) rfl wordApplies.plain (by kernel_rfl)
#print axioms wordApplies_holds
end Go.Proofs.YtbilndahjkimkaaDoor

