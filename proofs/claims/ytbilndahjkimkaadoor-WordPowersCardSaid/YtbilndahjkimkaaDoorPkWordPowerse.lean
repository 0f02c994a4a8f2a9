/- The law 'katabasislaw03.WordPowers' is true for every map and list: Mul of a word's linear map is the product of the Mul of its rests, and Div the power of Mod. Its condition: none but the row's own (the listed tables of the library). -/
import Derived.Test.YtbilndahjkimkaaDoorPkWordPowersd
set_option linter.unusedVariables false
set_option linter.unusedSimpArgs false
namespace Go.Proofs.YtbilndahjkimkaaDoor
open Go Go.Ab Go.Mth
theorem Xb_tA24 : tyAgg cx.P 24 = some 3 := by kernel_rfl
theorem Xb_tC46 : callable cx.P 46 = true := by kernel_rfl
theorem Xb_tC47 : callable cx.P 47 = true := by kernel_rfl
theorem Xb_tC48 : callable cx.P 48 = true := by kernel_rfl
theorem Xb_tO79 : tyZero cx.P 79 = some [(Go.Value.bool false), (Go.Value.slice none 0 0)] := by kernel_rfl
theorem Xb_tZ79 : tySize cx.P 79 = some 2 := by kernel_rfl
theorem Xb_tA79 : tyAgg cx.P 79 = some 2 := by kernel_rfl
theorem Xb_tC49 : callable cx.P 49 = true := by kernel_rfl
theorem Xb_tC50 : callable cx.P 50 = true := by kernel_rfl
theorem Xb_tE22 : tyElem cx.P 22 = some (3, 1, 8) := by kernel_rfl
theorem Xb_tO3 : tyZero cx.P 3 = some [(Go.Value.int IntKind.i64 0)] := by kernel_rfl
theorem Xb_tF41_0 : tyField cx.P 41 0 = some (0, 9) := by kernel_rfl
theorem Xb_tS9 : tySc cx.P 9 = true := by kernel_rfl
theorem Xb_tF41_1 : tyField cx.P 41 1 = some (1, 9) := by kernel_rfl
theorem Xb_tF41_2 : tyField cx.P 41 2 = some (2, 9) := by kernel_rfl
theorem Xb_tA41 : tyAgg cx.P 41 = some 3 := by kernel_rfl
theorem Xb_tP41 : tyPlaces cx.P 41 = some (fun i => (#[(0, 1), (1, 1), (2, 1)] : Array (Nat × Nat))[i]?) := by kernel_rfl
theorem Xb_tO41 : tyZero cx.P 41 = some [(Go.Value.string {data := #[]}), (Go.Value.string {data := #[]}), (Go.Value.string {data := #[]})] := by kernel_rfl
theorem Xb_tC68 : callable cx.P 68 = true := by kernel_rfl
theorem Xb_tC60 : callable cx.P 60 = true := by kernel_rfl
theorem Xb_tC61 : callable cx.P 61 = true := by kernel_rfl
theorem Xb_tC62 : callable cx.P 62 = true := by kernel_rfl
theorem Xb_tC64 : callable cx.P 64 = true := by kernel_rfl
theorem Xb_tC55 : callable cx.P 55 = true := by kernel_rfl
theorem Xb_tC58 : callable cx.P 58 = true := by kernel_rfl
theorem Xb_tC59 : callable cx.P 59 = true := by kernel_rfl
theorem Xb_tU22 : cx.P.underlying 22 = some (.slice 3) := by kernel_rfl
theorem Xb_tS3 : tySc cx.P 3 = true := by kernel_rfl
theorem Xb_tC56 : callable cx.P 56 = true := by kernel_rfl
theorem Xb_tO89 : tyZero cx.P 89 = some [(Go.Value.bool false), (Go.Value.slice none 0 0), (Go.Value.bool false), (Go.Value.slice none 0 0), (Go.Value.bool false), (Go.Value.slice none 0 0)] := by kernel_rfl
theorem Xb_tZ89 : tySize cx.P 89 = some 6 := by kernel_rfl
theorem Xb_tF89_0 : tyField cx.P 89 0 = some (0, 79) := by kernel_rfl
theorem Xb_tF89_1 : tyField cx.P 89 1 = some (2, 79) := by kernel_rfl
theorem Xb_tF89_2 : tyField cx.P 89 2 = some (4, 79) := by kernel_rfl
theorem Xb_tF24_0 : tyField cx.P 24 0 = some (0, 3) := by kernel_rfl
theorem Xb_tC63 : callable cx.P 63 = true := by kernel_rfl
theorem c_oWord (m : MapM) (a : ByteArray) (K : Int) (ha : a.size ≤ 9223372036854775807) : ECalls cx 12 [(mapV m), (AV.lit (.string (a))), (AV.lit (.int .i64 (K)))] (.tup [.sl 1 (is .i64 (wordL m a K)), nm .i64 (wordE m a K)]) := by
  refine ecalls_of_awp Tryd.func12 (c := _) rfl (Nat.le_of_ble_eq_true rfl) ?_
  show awp cx 49 _ (postF cx Tryd.f12 _) ⟨[(0, (mapV m)), (1, (AV.lit (.string (a)))), (2, (AV.lit (.int .i64 (K))))], []⟩
  refine awp_seq fun K0 hK0 => ?_
  refine awp_region rfl ?_
  refine o_box 2 [(AV.lit (.int .i64 (m.mod))), (AV.sl 1 (is .i64 (m.mul))), (AV.sl 1 (is .i64 (m.add)))] Gd.none rfl rfl ?_
  refine o_assign (AV.lit (.slice none 0 0)) Gd.none rfl ?_
  refine o_assign (nm .i64 (0)) Gd.none rfl ?_
  refine aops_end ?_
  refine hK0 _ ?_
  refine awp_seq fun K1 hK1 => ?_
  refine awp_block ?_
  refine awp_seq fun K2 hK2 => ?_
  refine awp_region rfl ?_
  refine o_loadA [(AV.lit (.int .i64 (m.mod))), (AV.sl 1 (is .i64 (m.mul))), (AV.sl 1 (is .i64 (m.add)))] Gd.none Xb_tA24 rfl rfl rfl rfl rfl ?_
  refine o_call [(AV.agg [(AV.lit (.int .i64 (m.mod))), (AV.sl 1 (is .i64 (m.mul))), (AV.sl 1 (is .i64 (m.add)))])] (AV.lit (.bool (okM m))) Gd.none Xb_tC46 rfl (c_sValid m) ?_
  refine o_not (b := okM m) Gd.none rfl ?_
  refine o_move (AV.lit (.bool (!(okM m)))) Gd.none rfl ?_
  refine o_split (b := !(okM m)) 16 rfl (fun h1 => ?_) (fun h1 => ?_)
  · have hm' : ¬ okM m = true := by simpa using h1
    refine o_skip (b := !(okM m)) rfl rfl h1 ?_
    refine o_skip (b := !(okM m)) rfl rfl h1 ?_
    refine o_skip (b := !(okM m)) rfl rfl h1 ?_
    refine o_pickT (b := !(okM m)) (AV.lit (.bool true)) Gd.none rfl h1 rfl ?_
    refine o_assign (AV.lit (.bool true)) Gd.none rfl ?_
    refine aops_end ?_
    refine hK2 _ ?_
    refine awp_condB (b := true) rfl (fun _ => ?_) (fun hh => absurd (hh.symm.trans rfl) (by decide))
    refine awp_seq fun K3 hK3 => ?_
    refine awp_region rfl ?_
    refine o_assign (AV.lit (.slice none 0 0)) Gd.none rfl ?_
    refine o_assign (nm .i64 (1)) Gd.none rfl ?_
    refine aops_end ?_
    refine hK3 _ ?_
    refine awp_ret ?_
    refine post_ret ⟨[(AV.sl 1 (is .i64 ([]))), (nm .i64 (1))], And.intro (AV.le_nil' (by decide) (by first | rfl | simp [digs_zero, ns, is])) (And.intro (AV.le_refl _) (trivial)), rfl, ?_⟩
    have e := wordE_1 (m := m) (a := a) (K := K) (fun e => hm' e.1)
    exact tup_eq2 (congrArg (fun l => AV.sl 1 (is .i64 l)) e.2) (congrArg (nm _) e.1)
  · have hm' : okM m = true := by simpa using h1
    refine o_move (AV.lit (.string (a))) (Gd.yes rfl rfl h1) rfl ?_
    refine o_call [(AV.lit (.string (a)))] (AV.lit (.bool (okS (a)))) (Gd.yes rfl rfl h1) Xb_tC47 rfl (c_nValid (a) (by first | assumption | decide | omega)) ?_
    refine o_not (b := okS (a)) (Gd.yes rfl rfl h1) rfl ?_
    refine o_pickF (b := !(okM m)) (AV.lit (.bool (!(okS (a))))) Gd.none rfl h1 rfl ?_
    refine o_assign (AV.lit (.bool (!(okS (a))))) Gd.none rfl ?_
    refine aops_end ?_
    refine hK2 _ ?_
    refine awp_condB (b := !(okS (a))) rfl (fun h2 => ?_) (fun h2 => ?_)
    · have ha' : ¬ okS a = true := by simpa using h2
      refine awp_seq fun K4 hK4 => ?_
      refine awp_region rfl ?_
      refine o_assign (AV.lit (.slice none 0 0)) Gd.none rfl ?_
      refine o_assign (nm .i64 (1)) Gd.none rfl ?_
      refine aops_end ?_
      refine hK4 _ ?_
      refine awp_ret ?_
      refine post_ret ⟨[(AV.sl 1 (is .i64 ([]))), (nm .i64 (1))], And.intro (AV.le_nil' (by decide) (by first | rfl | simp [digs_zero, ns, is])) (And.intro (AV.le_refl _) (trivial)), rfl, ?_⟩
      have e := wordE_1 (m := m) (a := a) (K := K) (fun e => ha' e.2)
      exact tup_eq2 (congrArg (fun l => AV.sl 1 (is .i64 l)) e.2) (congrArg (nm _) e.1)
    · have ha' : okS a = true := by simpa using h2
      have hM := okM_iff.1 hm'
      have hl0 := len_numS (okS_iff.1 ha')
      refine awp_seq fun K5 hK5 => ?_
      refine awp_region rfl ?_
      refine o_move (AV.lit (.int .i64 (K))) Gd.none rfl ?_
      refine o_lss (a := (K)) (c := (((0 : Nat) : Int))) Gd.none rfl rfl ?_
      refine o_move (bp ((K) < (((0 : Nat) : Int)))) Gd.none rfl ?_
      refine o_splitP (q := (K) < (((0 : Nat) : Int))) 24 rfl (fun h3 => ?_) (fun h3 => ?_)
      · refine o_skip (b := decide ((K) < (((0 : Nat) : Int)))) rfl rfl (decide_eq_true h3) ?_
        refine o_skip (b := decide ((K) < (((0 : Nat) : Int)))) rfl rfl (decide_eq_true h3) ?_
        refine o_pickT (b := decide ((K) < (((0 : Nat) : Int)))) (AV.lit (.bool true)) Gd.none rfl (decide_eq_true h3) rfl ?_
        refine o_assign (AV.lit (.bool true)) Gd.none rfl ?_
        refine aops_end ?_
        refine hK5 _ ?_
        refine awp_condB (b := true) rfl (fun _ => ?_) (fun hh => absurd (hh.symm.trans rfl) (by decide))
        refine awp_seq fun K6 hK6 => ?_
        refine awp_region rfl ?_
        refine o_assign (AV.lit (.slice none 0 0)) Gd.none rfl ?_
        refine o_assign (nm .i64 (2)) Gd.none rfl ?_
        refine aops_end ?_
        refine hK6 _ ?_
        refine awp_ret ?_
        refine post_ret ⟨[(AV.sl 1 (is .i64 ([]))), (nm .i64 (2))], And.intro (AV.le_nil' (by decide) (by first | rfl | simp [digs_zero, ns, is])) (And.intro (AV.le_refl _) (trivial)), rfl, ?_⟩
        have e := wordE_2 (m := m) (a := a) (K := K) ⟨hm', ha'⟩ (by omega)
        exact tup_eq2 (congrArg (fun l => AV.sl 1 (is .i64 l)) e.2) (congrArg (nm _) e.1)
      · refine o_move (AV.lit (.int .i64 (K))) (Gd.yes rfl rfl (decide_eq_false h3)) rfl ?_
        refine o_gtr (a := (K)) (c := (((200 : Nat) : Int))) (Gd.yes rfl rfl (decide_eq_false h3)) rfl rfl ?_
        refine o_pickF (b := decide ((K) < (((0 : Nat) : Int)))) (bp ((((200 : Nat) : Int)) < (K))) Gd.none rfl (decide_eq_false h3) rfl ?_
        refine o_assign (bp ((((200 : Nat) : Int)) < (K))) Gd.none rfl ?_
        refine aops_end ?_
        refine hK5 _ ?_
        refine awp_condQ (q := (((200 : Nat) : Int)) < (K)) rfl (fun h4 => ?_) (fun h4 => ?_)
        · refine awp_seq fun K7 hK7 => ?_
          refine awp_region rfl ?_
          refine o_assign (AV.lit (.slice none 0 0)) Gd.none rfl ?_
          refine o_assign (nm .i64 (2)) Gd.none rfl ?_
          refine aops_end ?_
          refine hK7 _ ?_
          refine awp_ret ?_
          refine post_ret ⟨[(AV.sl 1 (is .i64 ([]))), (nm .i64 (2))], And.intro (AV.le_nil' (by decide) (by first | rfl | simp [digs_zero, ns, is])) (And.intro (AV.le_refl _) (trivial)), rfl, ?_⟩
          have e := wordE_2 (m := m) (a := a) (K := K) ⟨hm', ha'⟩ (by omega)
          exact tup_eq2 (congrArg (fun l => AV.sl 1 (is .i64 l)) e.2) (congrArg (nm _) e.1)
        · refine awp_skip ?_
          refine hK1 _ ?_
          refine awp_seq fun K8 hK8 => ?_
          refine awp_region rfl ?_
          refine o_assign (AV.lit (.slice none 0 0)) Gd.none rfl ?_
          refine aops_end ?_
          refine hK8 _ ?_
          refine awp_seq fun K9 hK9 => ?_
          refine awp_region rfl ?_
          refine o_move (AV.lit (.string (a))) Gd.none rfl ?_
          refine o_call [(AV.lit (.string (a)))] (intW ((numS (a)))) Gd.none Xb_tC48 rfl (c_wParse (a) (by first | assumption | exact okS_iff.1 (by assumption))) ?_
          refine o_alloc 3 [(AV.lit (.bool false)), (AV.lit (.slice none 0 0))] Gd.none Xb_tO79 rfl rfl rfl ?_
          refine o_store [(3, (AO.var 79 [(bp ((numS (a)) < 0)), (AV.sl 1 (ns .u32 (digs ((numS (a))).natAbs)))])), (2, (AO.var 24 [(AV.lit (.int .i64 (m.mod))), (AV.sl 1 (is .i64 (m.mul))), (AV.sl 1 (is .i64 (m.add)))]))] Gd.none Xb_tZ79 rfl rfl rfl rfl rfl rfl ?_
          refine aops_end ?_
          refine hK9 _ ?_
          refine awp_seq fun K10 hK10 => ?_
          refine awp_seq fun K11 hK11 => ?_
          refine awp_region rfl ?_
          refine o_move (AV.lit (.int .i64 (K))) Gd.none rfl ?_
          refine o_move (nm .i64 (0)) Gd.none rfl ?_
          refine aops_end ?_
          refine hK11 _ ?_
          refine awp_block ?_
          refine awp_loopR (fun κ σ => ∃ (i : Nat), ((i : Int) ≤ K) ∧ (FitK m (numS a) i) ∧ ((digs (iterZ m i (numS a)).natAbs).length ≤ 1000) ∧ (K.toNat - i) = κ ∧ σ = ⟨[(3, (AV.ref 2 (0))), (8, (AV.row 50)), (9, (AV.ref 3 (0))), (30, (AV.lit (.int .i64 (K)))), (31, (nm .i64 (i)))], [(2, (AO.var 24 [(AV.lit (.int .i64 (m.mod))), (AV.sl 1 (is .i64 (m.mul))), (AV.sl 1 (is .i64 (m.add)))])), (3, (AO.var 79 [(bp ((iterZ m i (numS a)) < 0)), (AV.sl 1 (ns .u32 (digs ((iterZ m i (numS a))).natAbs)))])), (50, (AO.row 3 1 (is .i64 (wordZ m (numS a) i))))]⟩) ⟨_, _, ⟨0, (by omega), (fun j hj => by omega), (show (digs (numS a).natAbs).length ≤ 1000 by omega), rfl, rfl⟩, ?wk0⟩ ?rd0
          case wk0 =>
            exact Wk.trans (Wk.newNil (i := 8) (id := 504) (e := 3) (sz := 1) rfl rfl (by decide)) (Wk.trans (Wk.sub (σ' := ⟨[(3, (AV.ref 2 (0))), (8, (AV.row 504)), (9, (AV.ref 3 (0))), (30, (AV.lit (.int .i64 (K)))), (31, (nm .i64 (0)))], [(2, (AO.var 24 [(AV.lit (.int .i64 (m.mod))), (AV.sl 1 (is .i64 (m.mul))), (AV.sl 1 (is .i64 (m.add)))])), (504, (AO.row 3 1 (is .i64 ([])))), (3, (AO.var 79 [(bp ((numS (a)) < 0)), (AV.sl 1 (ns .u32 (digs ((numS (a))).natAbs)))]))]⟩) (And.intro rfl (And.intro rfl (And.intro rfl (And.intro rfl (And.intro rfl (trivial)))))) (And.intro rfl (And.intro rfl (And.intro rfl (trivial))))) (Wk.trans (Wk.ren (id := 504) (id' := 50) rfl) (Wk.sub (And.intro (by exact rfl) (And.intro (by first | rfl | (simp)) (And.intro (by exact rfl) (And.intro (by exact rfl) (And.intro (by first | rfl | exact congrArg (nm _) (by omega) | exact nm_int (by omega) | exact nm_int (by simp [IntKind.wrap, IntKind.bits, IntKind.signed]; omega)) (trivial)))))) (And.intro (by first | rfl | exact row_ns (by simp) | exact congrArg (fun x => some (AO.blk (.stringIter _ x))) (by omega)) (And.intro (by first | rfl | exact row_ns (by simp) | exact congrArg (fun x => some (AO.blk (.stringIter _ x))) (by omega)) (And.intro (by first | rfl | exact row_ns (by simp) | exact congrArg (fun x => some (AO.blk (.stringIter _ x))) (by omega)) (trivial)))))))
          rintro κ _ ⟨i, hi, hf, hlz, rfl, rfl⟩
          refine awp_seq fun K12 hK12 => ?_
          refine awp_region rfl ?_
          refine o_lss (a := (((i : Nat) : Int))) (c := (K)) Gd.none rfl rfl ?_
          refine aops_end ?_
          refine hK12 _ ?_
          refine awp_seq fun K13 hK13 => ?_
          refine awp_condQ (q := (((i : Nat) : Int)) < (K)) rfl (fun h5 => ?_) (fun h5 => ?_)
          · refine awp_skip ?_
            refine hK13 _ ?_
            refine awp_seq fun K14 hK14 => ?_
            refine awp_block ?_
            refine awp_seq fun K15 hK15 => ?_
            refine awp_seq fun K16 hK16 => ?_
            refine awp_region rfl ?_
            refine o_loadA [(bp ((iterZ m i (numS a)) < 0)), (AV.sl 1 (ns .u32 (digs ((iterZ m i (numS a))).natAbs)))] Gd.none Xb_tA79 rfl rfl rfl rfl rfl ?_
            refine o_call [(AV.agg [(bp ((iterZ m i (numS a)) < 0)), (AV.sl 1 (ns .u32 (digs ((iterZ m i (numS a))).natAbs)))])] (nm .i64 (ndig ((iterZ m i (numS a))).natAbs)) Gd.none Xb_tC49 rfl (c_wDigits ((iterZ m i (numS a))) (by first | assumption | omega | (simp only [Int.natAbs_neg]; omega))) ?_
            refine n_gtr (ndig ((iterZ m i (numS a))).natAbs) (2000) Gd.none rfl rfl ?_
            refine aops_end ?_
            refine hK16 _ ?_
            refine awp_condQ (q := (2000) < (ndig ((iterZ m i (numS a))).natAbs)) rfl (fun h6 => ?_) (fun h6 => ?_)
            · refine awp_seq fun K17 hK17 => ?_
              refine awp_region rfl ?_
              refine o_assign (AV.lit (.slice none 0 0)) Gd.none rfl ?_
              refine o_assign (nm .i64 (3)) Gd.none rfl ?_
              refine aops_end ?_
              refine hK17 _ ?_
              refine awp_ret ?_
              refine post_ret ⟨[(AV.sl 1 (is .i64 ([]))), (nm .i64 (3))], And.intro (AV.le_nil' (by decide) (by first | rfl | simp [digs_zero, ns, is])) (And.intro (AV.le_refl _) (trivial)), rfl, ?_⟩
              have e := wordE_3 (m := m) (a := a) (K := K) ⟨hm', ha'⟩ (by omega) (fun hF => by have := hF i (by omega); unfold Fit at this; omega)
              exact tup_eq2 (congrArg (fun l => AV.sl 1 (is .i64 l)) e.2) (congrArg (nm _) e.1)
            · have hfi : Fit (iterZ m i (numS a)) := by unfold Fit; omega
              have hli := fit_len hfi
              have hln := step_len (z := (iterZ m i (numS a))) hM hli (by omega)
              refine awp_skip ?_
              refine hK15 _ ?_
              refine awp_seq fun K18 hK18 => ?_
              refine awp_region rfl ?_
              refine o_loadA [(AV.lit (.int .i64 (m.mod))), (AV.sl 1 (is .i64 (m.mul))), (AV.sl 1 (is .i64 (m.add)))] Gd.none Xb_tA24 rfl rfl rfl rfl rfl ?_
              refine o_loadA [(bp ((iterZ m i (numS a)) < 0)), (AV.sl 1 (ns .u32 (digs ((iterZ m i (numS a))).natAbs)))] Gd.none Xb_tA79 rfl rfl rfl rfl rfl ?_
              refine o_call [(AV.agg [(AV.lit (.int .i64 (m.mod))), (AV.sl 1 (is .i64 (m.mul))), (AV.sl 1 (is .i64 (m.add)))]), (AV.agg [(bp ((iterZ m i (numS a)) < 0)), (AV.sl 1 (ns .u32 (digs ((iterZ m i (numS a))).natAbs)))])] (AV.tup [(intW ((stepZ m (iterZ m i (numS a))))), (AV.lit (.int .i64 ((iterZ m i (numS a)) % m.mod)))]) Gd.none Xb_tC50 rfl (c_sNext m ((iterZ m i (numS a))) (by first | assumption | exact okM_iff.1 (by assumption)) (by first | assumption | omega | (simp only [Int.natAbs_neg]; omega))) ?_
              refine o_move (AV.tup [(intW ((stepZ m (iterZ m i (numS a))))), (AV.lit (.int .i64 ((iterZ m i (numS a)) % m.mod)))]) Gd.none rfl ?_
              refine o_extract (intW ((stepZ m (iterZ m i (numS a))))) Gd.none rfl rfl ?_
              refine o_extract (AV.lit (.int .i64 ((iterZ m i (numS a)) % m.mod))) Gd.none rfl rfl ?_
              refine o_alloc 101 [(AV.lit (.bool false)), (AV.lit (.slice none 0 0))] Gd.none Xb_tO79 rfl rfl rfl ?_
              refine o_store [(101, (AO.var 79 [(bp ((stepZ m (iterZ m i (numS a))) < 0)), (AV.sl 1 (ns .u32 (digs ((stepZ m (iterZ m i (numS a)))).natAbs)))])), (2, (AO.var 24 [(AV.lit (.int .i64 (m.mod))), (AV.sl 1 (is .i64 (m.mul))), (AV.sl 1 (is .i64 (m.add)))])), (3, (AO.var 79 [(bp ((iterZ m i (numS a)) < 0)), (AV.sl 1 (ns .u32 (digs ((iterZ m i (numS a))).natAbs)))])), (50, (AO.row 3 1 (is .i64 (wordZ m (numS a) i))))] Gd.none Xb_tZ79 rfl rfl rfl rfl rfl rfl ?_
              refine o_assign (AV.lit (.int .i64 ((iterZ m i (numS a)) % m.mod))) Gd.none rfl ?_
              refine aops_end ?_
              refine hK18 _ ?_
              refine awp_seq fun K19 hK19 => ?_
              refine awp_region rfl ?_
              refine o_move (AV.row 50) Gd.none rfl ?_
              refine o_move (AV.lit (.int .i64 ((iterZ m i (numS a)) % m.mod))) Gd.none rfl ?_
              refine o_buildSlice 102 (is .i64 ([(iterZ m i (numS a)) % m.mod])) [(0, [(AV.lit (.int .i64 ((iterZ m i (numS a)) % m.mod)))])] Gd.none Xb_tE22 rfl Xb_tO3 rfl rfl rfl rfl rfl rfl rfl ?_
              refine i_append 103 (wordZ m (numS a) i) ([(iterZ m i (numS a)) % m.mod]) [(102, (AO.row 3 1 (is .i64 ([(iterZ m i (numS a)) % m.mod])))), (101, (AO.var 79 [(bp ((stepZ m (iterZ m i (numS a))) < 0)), (AV.sl 1 (ns .u32 (digs ((stepZ m (iterZ m i (numS a)))).natAbs)))])), (2, (AO.var 24 [(AV.lit (.int .i64 (m.mod))), (AV.sl 1 (is .i64 (m.mul))), (AV.sl 1 (is .i64 (m.add)))])), (3, (AO.var 79 [(bp ((iterZ m i (numS a)) < 0)), (AV.sl 1 (ns .u32 (digs ((iterZ m i (numS a))).natAbs)))]))] Gd.none Xb_tE22 Xb_tO3 rfl rfl rfl rfl rfl (by simp only [wordZ_len, List.length_cons, List.length_nil]; omega) (by decide) rfl rfl ?_
              refine o_assign (AV.row 103) Gd.none rfl ?_
              refine aops_end ?_
              refine hK19 _ ?_
              refine awp_region rfl ?_
              refine o_loadA [(bp ((stepZ m (iterZ m i (numS a))) < 0)), (AV.sl 1 (ns .u32 (digs ((stepZ m (iterZ m i (numS a)))).natAbs)))] Gd.none Xb_tA79 rfl rfl rfl rfl rfl ?_
              refine o_store [(103, (AO.row 3 1 (is .i64 ((wordZ m (numS a) i) ++ ([(iterZ m i (numS a)) % m.mod]))))), (102, (AO.row 3 1 (is .i64 ([(iterZ m i (numS a)) % m.mod])))), (101, (AO.var 79 [(bp ((stepZ m (iterZ m i (numS a))) < 0)), (AV.sl 1 (ns .u32 (digs ((stepZ m (iterZ m i (numS a)))).natAbs)))])), (2, (AO.var 24 [(AV.lit (.int .i64 (m.mod))), (AV.sl 1 (is .i64 (m.mul))), (AV.sl 1 (is .i64 (m.add)))])), (3, (AO.var 79 [(bp ((stepZ m (iterZ m i (numS a))) < 0)), (AV.sl 1 (ns .u32 (digs ((stepZ m (iterZ m i (numS a)))).natAbs)))]))] Gd.none Xb_tZ79 rfl rfl rfl rfl rfl rfl ?_
              refine aops_end ?_
              refine hK14 _ ?_
              refine awp_region rfl ?_
              refine n_add (i) (1) Gd.none rfl rfl (by simp only [topOf]; omega) ?_
              refine o_move (nm .i64 ((i) + (1))) Gd.none rfl ?_
              refine aops_end ?_
              refine ⟨_, _, ?lt, ⟨i + 1, (by omega), (fitK_snoc hf hfi), (show (digs (stepZ m (iterZ m i (numS a))).natAbs).length ≤ 1000 by omega), rfl, rfl⟩, ?wk⟩
              case lt => omega
              case wk => exact Wk.trans (Wk.sub (σ' := ⟨[(3, (AV.ref 2 (0))), (8, (AV.row 103)), (9, (AV.ref 3 (0))), (30, (AV.lit (.int .i64 (K)))), (31, (nm .i64 ((i) + (1))))], [(2, (AO.var 24 [(AV.lit (.int .i64 (m.mod))), (AV.sl 1 (is .i64 (m.mul))), (AV.sl 1 (is .i64 (m.add)))])), (103, (AO.row 3 1 (is .i64 ((wordZ m (numS a) i) ++ ([(iterZ m i (numS a)) % m.mod]))))), (3, (AO.var 79 [(bp ((stepZ m (iterZ m i (numS a))) < 0)), (AV.sl 1 (ns .u32 (digs ((stepZ m (iterZ m i (numS a)))).natAbs)))]))]⟩) (And.intro rfl (And.intro rfl (And.intro rfl (And.intro rfl (And.intro rfl (trivial)))))) (And.intro rfl (And.intro rfl (And.intro rfl (trivial))))) (Wk.trans (Wk.ren (id := 103) (id' := 50) rfl) (Wk.sub (And.intro (by exact rfl) (And.intro (by first | rfl | (simp)) (And.intro (by exact rfl) (And.intro (by exact rfl) (And.intro (by first | rfl | exact congrArg (nm _) (by omega) | exact nm_int (by omega) | exact nm_int (by simp [IntKind.wrap, IntKind.bits, IntKind.signed]; omega)) (trivial)))))) (And.intro (by first | rfl | exact row_ns (by simp) | exact congrArg (fun x => some (AO.blk (.stringIter _ x))) (by omega)) (And.intro (by first | rfl | exact row_ns (by simp) | exact congrArg (fun x => some (AO.blk (.stringIter _ x))) (by omega)) (And.intro (by first | rfl | exact row_ns (by simp) | exact congrArg (fun x => some (AO.blk (.stringIter _ x))) (by omega)) (trivial))))))
          · refine awp_exit ?_
            refine hK10 _ ?_
            refine awp_seq fun K20 hK20 => ?_
            refine awp_region rfl ?_
            refine o_move (AV.row 50) Gd.none rfl ?_
            refine o_assign (AV.row 50) Gd.none rfl ?_
            refine o_assign (nm .i64 (0)) Gd.none rfl ?_
            refine aops_end ?_
            refine hK20 _ ?_
            refine awp_wk (σ' := ⟨[(6, (AV.row 50)), (7, (nm .i64 (0)))], [(50, (AO.row 3 1 (is .i64 (wordZ m (numS a) i))))]⟩) (Wk.sub (And.intro rfl (And.intro rfl (trivial))) (And.intro rfl (trivial))) ?_
            refine awp_wk (σ' := ⟨[(6, (AV.sl 1 (is .i64 (wordZ m (numS a) i)))), (7, (nm .i64 (0)))], []⟩) (Wk.freeze (id := 50) (e := 3) (sz := 1) (cs := (is .i64 (wordZ m (numS a) i))) rfl) ?_
            refine awp_ret ?_
            refine post_ret ⟨[(AV.sl 1 (is .i64 (wordZ m (numS a) i))), (nm .i64 (0))], And.intro (AV.le_refl _) (And.intro (AV.le_refl _) (trivial)), rfl, ?_⟩
            have e := wordE_0 (m := m) (a := a) (K := K) ⟨hm', ha'⟩ (by omega) (by rw [show K.toNat = i by omega]; exact hf); rw [show K.toNat = i by omega] at e
            exact tup_eq2 (congrArg (fun l => AV.sl 1 (is .i64 l)) e.2) (congrArg (nm _) e.1)

theorem c_oApply (l : LineS) (a : ByteArray) (h1m : l.mul.size ≤ 9223372036854775807) (h2m : l.add.size ≤ 9223372036854775807) (h3m : l.div.size ≤ 9223372036854775807) (ha : a.size ≤ 9223372036854775807) : ECalls cx 28 [(AV.agg [(AV.lit (.string ((l).mul))), (AV.lit (.string ((l).add))), (AV.lit (.string ((l).div)))]), (AV.lit (.string (a)))] (.tup [.lit (.string (appS l a)), bp (AppB l a), nm .i64 (appE l a)]) := by
  refine ecalls_of_awp Tryd.func28 (c := _) rfl (Nat.le_of_ble_eq_true rfl) ?_
  show awp cx 66 _ (postF cx Tryd.f28 _) ⟨[(0, (AV.agg [(AV.lit (.string ((l).mul))), (AV.lit (.string ((l).add))), (AV.lit (.string ((l).div)))])), (1, (AV.lit (.string (a))))], []⟩
  refine awp_seq fun K0 hK0 => ?_
  refine awp_region rfl ?_
  refine o_box 2 [(AV.lit (.string ((l).mul))), (AV.lit (.string ((l).add))), (AV.lit (.string ((l).div)))] Gd.none rfl rfl ?_
  refine o_assign (AV.lit (.string (({data := #[]} : ByteArray)))) Gd.none rfl ?_
  refine o_assign (AV.lit (.bool false)) Gd.none rfl ?_
  refine o_assign (nm .i64 (0)) Gd.none rfl ?_
  refine aops_end ?_
  refine hK0 _ ?_
  refine awp_seq fun K1 hK1 => ?_
  refine awp_seq fun K2 hK2 => ?_
  refine awp_region rfl ?_
  refine o_fieldRef 0 Gd.none Xb_tF41_0 rfl rfl ?_
  refine o_loadS (AV.lit (.string ((l).mul))) Gd.none Xb_tS9 rfl rfl rfl ?_
  refine o_call [(AV.lit (.string ((l).mul)))] (AV.lit (.bool (okS ((l).mul)))) Gd.none Xb_tC47 rfl (c_nValid ((l).mul) (by first | assumption | decide | omega)) ?_
  refine o_not (b := okS ((l).mul)) Gd.none rfl ?_
  refine o_move (AV.lit (.bool (!(okS ((l).mul))))) Gd.none rfl ?_
  refine o_split (b := !(okS ((l).mul))) 15 rfl (fun h1 => ?_) (fun h1 => ?_)
  · have k1 : okS l.mul = false := by simpa using h1
    refine o_skip (b := !(okS ((l).mul))) rfl rfl h1 ?_
    refine o_skip (b := !(okS ((l).mul))) rfl rfl h1 ?_
    refine o_skip (b := !(okS ((l).mul))) rfl rfl h1 ?_
    refine o_skip (b := !(okS ((l).mul))) rfl rfl h1 ?_
    refine o_pickT (b := !(okS ((l).mul))) (AV.lit (.bool true)) Gd.none rfl h1 rfl ?_
    refine o_move (AV.lit (.bool true)) Gd.none rfl ?_
    refine o_skip (b := true) rfl rfl rfl ?_
    refine o_skip (b := true) rfl rfl rfl ?_
    refine o_skip (b := true) rfl rfl rfl ?_
    refine o_skip (b := true) rfl rfl rfl ?_
    refine o_pickT (b := true) (AV.lit (.bool true)) Gd.none rfl rfl rfl ?_
    refine o_move (AV.lit (.bool true)) Gd.none rfl ?_
    refine o_skip (b := true) rfl rfl rfl ?_
    refine o_skip (b := true) rfl rfl rfl ?_
    refine o_skip (b := true) rfl rfl rfl ?_
    refine o_pickT (b := true) (AV.lit (.bool true)) Gd.none rfl rfl rfl ?_
    refine aops_end ?_
    refine hK2 _ ?_
    refine awp_condB (b := true) rfl (fun _ => ?_) (fun hh => absurd (hh.symm.trans rfl) (by decide))
    refine awp_seq fun K3 hK3 => ?_
    refine awp_region rfl ?_
    refine o_assign (AV.lit (.string (({data := #[]} : ByteArray)))) Gd.none rfl ?_
    refine o_assign (AV.lit (.bool false)) Gd.none rfl ?_
    refine o_assign (nm .i64 (1)) Gd.none rfl ?_
    refine aops_end ?_
    refine hK3 _ ?_
    refine awp_ret ?_
    refine post_ret ⟨[(AV.lit (.string (({data := #[]} : ByteArray)))), (AV.lit (.bool false)), (nm .i64 (1))], And.intro (AV.le_refl _) (And.intro (AV.le_refl _) (And.intro (AV.le_refl _) (trivial))), rfl, ?_⟩
    have e := app_1 (l := l) (a := a) (fun e => by have := e.1; unfold okL at this; rw [k1] at this; simp at this)
    exact tup_eq3 (str_as e.2.2) (bp_no e.2.1) (congrArg (nm _) e.1)
  · have k1 : okS l.mul = true := by simpa using h1
    refine o_fieldRef 1 (Gd.yes rfl rfl h1) Xb_tF41_1 rfl rfl ?_
    refine o_loadS (AV.lit (.string ((l).add))) (Gd.yes rfl rfl h1) Xb_tS9 rfl rfl rfl ?_
    refine o_call [(AV.lit (.string ((l).add)))] (AV.lit (.bool (okS ((l).add)))) (Gd.yes rfl rfl h1) Xb_tC47 rfl (c_nValid ((l).add) (by first | assumption | decide | omega)) ?_
    refine o_not (b := okS ((l).add)) (Gd.yes rfl rfl h1) rfl ?_
    refine o_pickF (b := !(okS ((l).mul))) (AV.lit (.bool (!(okS ((l).add))))) Gd.none rfl h1 rfl ?_
    refine o_move (AV.lit (.bool (!(okS ((l).add))))) Gd.none rfl ?_
    refine o_split (b := !(okS ((l).add))) 21 rfl (fun h2 => ?_) (fun h2 => ?_)
    · have k2 : okS l.add = false := by simpa using h2
      refine o_skip (b := !(okS ((l).add))) rfl rfl h2 ?_
      refine o_skip (b := !(okS ((l).add))) rfl rfl h2 ?_
      refine o_skip (b := !(okS ((l).add))) rfl rfl h2 ?_
      refine o_skip (b := !(okS ((l).add))) rfl rfl h2 ?_
      refine o_pickT (b := !(okS ((l).add))) (AV.lit (.bool true)) Gd.none rfl h2 rfl ?_
      refine o_move (AV.lit (.bool true)) Gd.none rfl ?_
      refine o_skip (b := true) rfl rfl rfl ?_
      refine o_skip (b := true) rfl rfl rfl ?_
      refine o_skip (b := true) rfl rfl rfl ?_
      refine o_pickT (b := true) (AV.lit (.bool true)) Gd.none rfl rfl rfl ?_
      refine aops_end ?_
      refine hK2 _ ?_
      refine awp_condB (b := true) rfl (fun _ => ?_) (fun hh => absurd (hh.symm.trans rfl) (by decide))
      refine awp_seq fun K4 hK4 => ?_
      refine awp_region rfl ?_
      refine o_assign (AV.lit (.string (({data := #[]} : ByteArray)))) Gd.none rfl ?_
      refine o_assign (AV.lit (.bool false)) Gd.none rfl ?_
      refine o_assign (nm .i64 (1)) Gd.none rfl ?_
      refine aops_end ?_
      refine hK4 _ ?_
      refine awp_ret ?_
      refine post_ret ⟨[(AV.lit (.string (({data := #[]} : ByteArray)))), (AV.lit (.bool false)), (nm .i64 (1))], And.intro (AV.le_refl _) (And.intro (AV.le_refl _) (And.intro (AV.le_refl _) (trivial))), rfl, ?_⟩
      have e := app_1 (l := l) (a := a) (fun e => by have := e.1; unfold okL at this; rw [k2] at this; simp at this)
      exact tup_eq3 (str_as e.2.2) (bp_no e.2.1) (congrArg (nm _) e.1)
    · have k2 : okS l.add = true := by simpa using h2
      refine o_fieldRef 2 (Gd.yes rfl rfl h2) Xb_tF41_2 rfl rfl ?_
      refine o_loadS (AV.lit (.string ((l).div))) (Gd.yes rfl rfl h2) Xb_tS9 rfl rfl rfl ?_
      refine o_call [(AV.lit (.string ((l).div)))] (AV.lit (.bool (okS ((l).div)))) (Gd.yes rfl rfl h2) Xb_tC47 rfl (c_nValid ((l).div) (by first | assumption | decide | omega)) ?_
      refine o_not (b := okS ((l).div)) (Gd.yes rfl rfl h2) rfl ?_
      refine o_pickF (b := !(okS ((l).add))) (AV.lit (.bool (!(okS ((l).div))))) Gd.none rfl h2 rfl ?_
      refine o_move (AV.lit (.bool (!(okS ((l).div))))) Gd.none rfl ?_
      refine o_split (b := !(okS ((l).div))) 27 rfl (fun h3 => ?_) (fun h3 => ?_)
      · have k3 : okS l.div = false := by simpa using h3
        refine o_skip (b := !(okS ((l).div))) rfl rfl h3 ?_
        refine o_skip (b := !(okS ((l).div))) rfl rfl h3 ?_
        refine o_skip (b := !(okS ((l).div))) rfl rfl h3 ?_
        refine o_pickT (b := !(okS ((l).div))) (AV.lit (.bool true)) Gd.none rfl h3 rfl ?_
        refine aops_end ?_
        refine hK2 _ ?_
        refine awp_condB (b := true) rfl (fun _ => ?_) (fun hh => absurd (hh.symm.trans rfl) (by decide))
        refine awp_seq fun K5 hK5 => ?_
        refine awp_region rfl ?_
        refine o_assign (AV.lit (.string (({data := #[]} : ByteArray)))) Gd.none rfl ?_
        refine o_assign (AV.lit (.bool false)) Gd.none rfl ?_
        refine o_assign (nm .i64 (1)) Gd.none rfl ?_
        refine aops_end ?_
        refine hK5 _ ?_
        refine awp_ret ?_
        refine post_ret ⟨[(AV.lit (.string (({data := #[]} : ByteArray)))), (AV.lit (.bool false)), (nm .i64 (1))], And.intro (AV.le_refl _) (And.intro (AV.le_refl _) (And.intro (AV.le_refl _) (trivial))), rfl, ?_⟩
        have e := app_1 (l := l) (a := a) (fun e => by have := e.1; unfold okL at this; rw [k3] at this; simp at this)
        exact tup_eq3 (str_as e.2.2) (bp_no e.2.1) (congrArg (nm _) e.1)
      · have k3 : okS l.div = true := by simpa using h3
        refine o_move (AV.lit (.string (a))) (Gd.yes rfl rfl h3) rfl ?_
        refine o_call [(AV.lit (.string (a)))] (AV.lit (.bool (okS (a)))) (Gd.yes rfl rfl h3) Xb_tC47 rfl (c_nValid (a) (by first | assumption | decide | omega)) ?_
        refine o_not (b := okS (a)) (Gd.yes rfl rfl h3) rfl ?_
        refine o_pickF (b := !(okS ((l).div))) (AV.lit (.bool (!(okS (a))))) Gd.none rfl h3 rfl ?_
        refine aops_end ?_
        refine hK2 _ ?_
        refine awp_condB (b := !(okS (a))) rfl (fun h4 => ?_) (fun h4 => ?_)
        · have k4 : okS a = false := by simpa using h4
          refine awp_seq fun K6 hK6 => ?_
          refine awp_region rfl ?_
          refine o_assign (AV.lit (.string (({data := #[]} : ByteArray)))) Gd.none rfl ?_
          refine o_assign (AV.lit (.bool false)) Gd.none rfl ?_
          refine o_assign (nm .i64 (1)) Gd.none rfl ?_
          refine aops_end ?_
          refine hK6 _ ?_
          refine awp_ret ?_
          refine post_ret ⟨[(AV.lit (.string (({data := #[]} : ByteArray)))), (AV.lit (.bool false)), (nm .i64 (1))], And.intro (AV.le_refl _) (And.intro (AV.le_refl _) (And.intro (AV.le_refl _) (trivial))), rfl, ?_⟩
          have e := app_1 (l := l) (a := a) (fun e => by rw [k4] at e; simp at e)
          exact tup_eq3 (str_as e.2.2) (bp_no e.2.1) (congrArg (nm _) e.1)
        · have k4 : okS a = true := by simpa using h4
          have ho : okL l = true ∧ okS a = true := ⟨by unfold okL; rw [k1, k2, k3]; rfl, k4⟩
          have s1 := len_numS (okS_iff.1 k1)
          have s2 := len_numS (okS_iff.1 k2)
          have s3 := len_numS (okS_iff.1 k3)
          have s4 := len_numS (okS_iff.1 k4)
          have hA := len_mulZ (numS l.mul) (numS a)
          have hB := len_addZ (numS l.mul * numS a) (numS l.add)
          refine awp_skip ?_
          refine hK1 _ ?_
          refine awp_seq fun K7 hK7 => ?_
          refine awp_seq fun K8 hK8 => ?_
          refine awp_region rfl ?_
          refine o_loadA [(AV.lit (.string ((l).mul))), (AV.lit (.string ((l).add))), (AV.lit (.string ((l).div)))] Gd.none Xb_tA41 rfl rfl rfl rfl rfl ?_
          refine o_build [(AV.lit (.string (({data := #[49]} : ByteArray)))), (AV.lit (.string (({data := #[48]} : ByteArray)))), (AV.lit (.string (({data := #[49]} : ByteArray))))] [(0, [(AV.lit (.string (({data := #[49]} : ByteArray))))]), (1, [(AV.lit (.string (({data := #[48]} : ByteArray))))]), (2, [(AV.lit (.string (({data := #[49]} : ByteArray))))])] Gd.none Xb_tP41 Xb_tO41 rfl rfl rfl ?_
          refine o_eqlA [.string ((l).mul), .string ((l).add), .string ((l).div)] [.string (({data := #[49]} : ByteArray)), .string (({data := #[48]} : ByteArray)), .string (({data := #[49]} : ByteArray))] (((l).mul) = (({data := #[49]} : ByteArray)) ∧ ((l).add) = (({data := #[48]} : ByteArray)) ∧ ((l).div) = (({data := #[49]} : ByteArray))) Gd.none rfl rfl (eq_api_Line _ _ _ _ _ _) ?_
          refine aops_end ?_
          refine hK8 _ ?_
          refine awp_condQ (q := ((l).mul) = (({data := #[49]} : ByteArray)) ∧ ((l).add) = (({data := #[48]} : ByteArray)) ∧ ((l).div) = (({data := #[49]} : ByteArray))) rfl (fun h5 => ?_) (fun h5 => ?_)
          · refine awp_seq fun K9 hK9 => ?_
            refine awp_region rfl ?_
            refine o_move (AV.lit (.string (a))) Gd.none rfl ?_
            refine o_assign (AV.lit (.string (a))) Gd.none rfl ?_
            refine o_assign (AV.lit (.bool true)) Gd.none rfl ?_
            refine o_assign (nm .i64 (0)) Gd.none rfl ?_
            refine aops_end ?_
            refine hK9 _ ?_
            refine awp_ret ?_
            refine post_ret ⟨[(AV.lit (.string (a))), (AV.lit (.bool true)), (nm .i64 (0))], And.intro (AV.le_refl _) (And.intro (AV.le_refl _) (And.intro (AV.le_refl _) (trivial))), rfl, ?_⟩
            have e := app_one ho h5.1 h5.2.1 h5.2.2
            exact tup_eq3 (str_as e.2.2) (bp_yes e.2.1) (congrArg (nm _) e.1)
          · refine awp_skip ?_
            refine hK7 _ ?_
            refine awp_seq fun K10 hK10 => ?_
            refine awp_region rfl ?_
            refine o_fieldRef 2 Gd.none Xb_tF41_2 rfl rfl ?_
            refine o_loadS (AV.lit (.string ((l).div))) Gd.none Xb_tS9 rfl rfl rfl ?_
            refine o_call [(AV.lit (.string ((l).div)))] (intW ((numS ((l).div)))) Gd.none Xb_tC48 rfl (c_wParse ((l).div) (by first | assumption | exact okS_iff.1 (by assumption))) ?_
            refine o_alloc 3 [(AV.lit (.bool false)), (AV.lit (.slice none 0 0))] Gd.none Xb_tO79 rfl rfl rfl ?_
            refine o_store [(3, (AO.var 79 [(bp ((numS ((l).div)) < 0)), (AV.sl 1 (ns .u32 (digs ((numS ((l).div))).natAbs)))])), (2, (AO.var 41 [(AV.lit (.string ((l).mul))), (AV.lit (.string ((l).add))), (AV.lit (.string ((l).div)))]))] Gd.none Xb_tZ79 rfl rfl rfl rfl rfl rfl ?_
            refine aops_end ?_
            refine hK10 _ ?_
            refine awp_seq fun K11 hK11 => ?_
            refine awp_seq fun K12 hK12 => ?_
            refine awp_region rfl ?_
            refine o_loadA [(bp ((numS ((l).div)) < 0)), (AV.sl 1 (ns .u32 (digs ((numS ((l).div))).natAbs)))] Gd.none Xb_tA79 rfl rfl rfl rfl rfl ?_
            refine o_call [(AV.agg [(bp ((numS ((l).div)) < 0)), (AV.sl 1 (ns .u32 (digs ((numS ((l).div))).natAbs)))])] (AV.lit (.int .i64 (sgn ((numS ((l).div)))))) Gd.none Xb_tC68 rfl (c_wSign ((numS ((l).div)))) ?_
            refine o_leq (a := (sgn ((numS ((l).div))))) (c := (((0 : Nat) : Int))) Gd.none rfl rfl ?_
            refine aops_end ?_
            refine hK12 _ ?_
            refine awp_condQ (q := (sgn ((numS ((l).div)))) ≤ (((0 : Nat) : Int))) rfl (fun h6 => ?_) (fun h6 => ?_)
            · have hd : ¬ 0 < numS l.div := by have := sgn_le.1 h6; omega
              refine awp_seq fun K13 hK13 => ?_
              refine awp_region rfl ?_
              refine o_assign (AV.lit (.string (({data := #[]} : ByteArray)))) Gd.none rfl ?_
              refine o_assign (AV.lit (.bool false)) Gd.none rfl ?_
              refine o_assign (nm .i64 (2)) Gd.none rfl ?_
              refine aops_end ?_
              refine hK13 _ ?_
              refine awp_ret ?_
              refine post_ret ⟨[(AV.lit (.string (({data := #[]} : ByteArray)))), (AV.lit (.bool false)), (nm .i64 (2))], And.intro (AV.le_refl _) (And.intro (AV.le_refl _) (And.intro (AV.le_refl _) (trivial))), rfl, ?_⟩
              have e := app_2 ho hd
              exact tup_eq3 (str_as e.2.2) (bp_no e.2.1) (congrArg (nm _) e.1)
            · have hd : 0 < numS l.div := by rcases Int.lt_or_le 0 (numS l.div) with e | e; exact e; exact absurd (sgn_le.2 e) h6
              have hE := len_ediv (numS l.mul * numS a + numS l.add) hd
              refine awp_skip ?_
              refine hK11 _ ?_
              refine awp_seq fun K14 hK14 => ?_
              refine awp_regionD rfl ?_
              refine o_fieldRef 0 Gd.none Xb_tF41_0 rfl rfl ?_
              refine o_loadS (AV.lit (.string ((l).mul))) Gd.none Xb_tS9 rfl rfl rfl ?_
              refine o_call [(AV.lit (.string ((l).mul)))] (intW ((numS ((l).mul)))) Gd.none Xb_tC48 rfl (c_wParse ((l).mul) (by first | assumption | exact okS_iff.1 (by assumption))) ?_
              refine o_move (AV.lit (.string (a))) Gd.none rfl ?_
              refine o_call [(AV.lit (.string (a)))] (intW ((numS (a)))) Gd.none Xb_tC48 rfl (c_wParse (a) (by first | assumption | exact okS_iff.1 (by assumption))) ?_
              refine o_call [(intW ((numS ((l).mul)))), (intW ((numS (a))))] (intW (((numS ((l).mul)) * (numS (a))))) Gd.none Xb_tC60 rfl (c_wMul ((numS ((l).mul))) ((numS (a))) (by first | assumption | omega | (simp only [Int.natAbs_neg]; omega)) (by first | assumption | omega | (simp only [Int.natAbs_neg]; omega))) ?_
              refine o_fieldRef 1 Gd.none Xb_tF41_1 rfl rfl ?_
              refine o_loadS (AV.lit (.string ((l).add))) Gd.none Xb_tS9 rfl rfl rfl ?_
              refine o_call [(AV.lit (.string ((l).add)))] (intW ((numS ((l).add)))) Gd.none Xb_tC48 rfl (c_wParse ((l).add) (by first | assumption | exact okS_iff.1 (by assumption))) ?_
              refine o_call [(intW (((numS ((l).mul)) * (numS (a))))), (intW ((numS ((l).add))))] (intW ((((numS ((l).mul)) * (numS (a))) + (numS ((l).add))))) Gd.none Xb_tC61 rfl (c_wAdd (((numS ((l).mul)) * (numS (a)))) ((numS ((l).add))) (by first | assumption | omega | (simp only [Int.natAbs_neg]; omega)) (by first | assumption | omega | (simp only [Int.natAbs_neg]; omega))) ?_
              refine o_alloc 4 [(AV.lit (.bool false)), (AV.lit (.slice none 0 0))] Gd.none Xb_tO79 rfl rfl rfl ?_
              refine o_store [(4, (AO.var 79 [(bp ((((numS ((l).mul)) * (numS (a))) + (numS ((l).add))) < 0)), (AV.sl 1 (ns .u32 (digs ((((numS ((l).mul)) * (numS (a))) + (numS ((l).add)))).natAbs)))])), (3, (AO.var 79 [(bp ((numS ((l).div)) < 0)), (AV.sl 1 (ns .u32 (digs ((numS ((l).div))).natAbs)))])), (2, (AO.var 41 [(AV.lit (.string ((l).mul))), (AV.lit (.string ((l).add))), (AV.lit (.string ((l).div)))]))] Gd.none Xb_tZ79 rfl rfl rfl rfl rfl rfl ?_
              refine aops_end ⟨by kernel_rfl, ?_⟩
              refine hK14 _ ?_
              refine awp_seq fun K15 hK15 => ?_
              refine awp_seq fun K16 hK16 => ?_
              refine awp_region rfl ?_
              refine o_loadA [(bp ((((numS ((l).mul)) * (numS (a))) + (numS ((l).add))) < 0)), (AV.sl 1 (ns .u32 (digs ((((numS ((l).mul)) * (numS (a))) + (numS ((l).add)))).natAbs)))] Gd.none Xb_tA79 rfl rfl rfl rfl rfl ?_
              refine o_call [(AV.agg [(bp ((((numS ((l).mul)) * (numS (a))) + (numS ((l).add))) < 0)), (AV.sl 1 (ns .u32 (digs ((((numS ((l).mul)) * (numS (a))) + (numS ((l).add)))).natAbs)))])] (nm .i64 (ndig ((((numS ((l).mul)) * (numS (a))) + (numS ((l).add)))).natAbs)) Gd.none Xb_tC49 rfl (c_wDigits ((((numS ((l).mul)) * (numS (a))) + (numS ((l).add)))) (by first | assumption | omega | (simp only [Int.natAbs_neg]; omega))) ?_
              refine n_gtr (ndig ((((numS ((l).mul)) * (numS (a))) + (numS ((l).add)))).natAbs) (2000) Gd.none rfl rfl ?_
              refine aops_end ?_
              refine hK16 _ ?_
              refine awp_condQ (q := (2000) < (ndig ((((numS ((l).mul)) * (numS (a))) + (numS ((l).add)))).natAbs)) rfl (fun h7 => ?_) (fun h7 => ?_)
              · have hf : ¬ Fit (appV l a) := by unfold Fit appV; omega
                refine awp_seq fun K17 hK17 => ?_
                refine awp_region rfl ?_
                refine o_assign (AV.lit (.string (({data := #[]} : ByteArray)))) Gd.none rfl ?_
                refine o_assign (AV.lit (.bool false)) Gd.none rfl ?_
                refine o_assign (nm .i64 (3)) Gd.none rfl ?_
                refine aops_end ?_
                refine hK17 _ ?_
                refine awp_ret ?_
                refine post_ret ⟨[(AV.lit (.string (({data := #[]} : ByteArray)))), (AV.lit (.bool false)), (nm .i64 (3))], And.intro (AV.le_refl _) (And.intro (AV.le_refl _) (And.intro (AV.le_refl _) (trivial))), rfl, ?_⟩
                have e := app_3 ho hd hf
                exact tup_eq3 (str_as e.2.2) (bp_no e.2.1) (congrArg (nm _) e.1)
              · have hf : Fit (appV l a) := by unfold Fit appV; omega
                refine awp_skip ?_
                refine hK15 _ ?_
                refine awp_seq fun K18 hK18 => ?_
                refine awp_region rfl ?_
                refine o_loadA [(bp ((((numS ((l).mul)) * (numS (a))) + (numS ((l).add))) < 0)), (AV.sl 1 (ns .u32 (digs ((((numS ((l).mul)) * (numS (a))) + (numS ((l).add)))).natAbs)))] Gd.none Xb_tA79 rfl rfl rfl rfl rfl ?_
                refine o_loadA [(bp ((numS ((l).div)) < 0)), (AV.sl 1 (ns .u32 (digs ((numS ((l).div))).natAbs)))] Gd.none Xb_tA79 rfl rfl rfl rfl rfl ?_
                refine o_call [(AV.agg [(bp ((((numS ((l).mul)) * (numS (a))) + (numS ((l).add))) < 0)), (AV.sl 1 (ns .u32 (digs ((((numS ((l).mul)) * (numS (a))) + (numS ((l).add)))).natAbs)))]), (AV.agg [(bp ((numS ((l).div)) < 0)), (AV.sl 1 (ns .u32 (digs ((numS ((l).div))).natAbs)))])] (AV.tup [(intW (((((numS ((l).mul)) * (numS (a))) + (numS ((l).add))) / (numS ((l).div))))), (intW (((((numS ((l).mul)) * (numS (a))) + (numS ((l).add))) % (numS ((l).div)))))]) Gd.none Xb_tC62 rfl (c_wDivide ((((numS ((l).mul)) * (numS (a))) + (numS ((l).add)))) ((numS ((l).div))) (by omega) (by omega) (by omega)) ?_
                refine o_move (AV.tup [(intW (((((numS ((l).mul)) * (numS (a))) + (numS ((l).add))) / (numS ((l).div))))), (intW (((((numS ((l).mul)) * (numS (a))) + (numS ((l).add))) % (numS ((l).div)))))]) Gd.none rfl ?_
                refine o_extract (intW (((((numS ((l).mul)) * (numS (a))) + (numS ((l).add))) / (numS ((l).div))))) Gd.none rfl rfl ?_
                refine o_extract (intW (((((numS ((l).mul)) * (numS (a))) + (numS ((l).add))) % (numS ((l).div))))) Gd.none rfl rfl ?_
                refine o_alloc 5 [(AV.lit (.bool false)), (AV.lit (.slice none 0 0))] Gd.none Xb_tO79 rfl rfl rfl ?_
                refine o_alloc 6 [(AV.lit (.bool false)), (AV.lit (.slice none 0 0))] Gd.none Xb_tO79 rfl rfl rfl ?_
                refine o_store [(6, (AO.var 79 [(AV.lit (.bool false)), (AV.lit (.slice none 0 0))])), (5, (AO.var 79 [(bp (((((numS ((l).mul)) * (numS (a))) + (numS ((l).add))) / (numS ((l).div))) < 0)), (AV.sl 1 (ns .u32 (digs (((((numS ((l).mul)) * (numS (a))) + (numS ((l).add))) / (numS ((l).div)))).natAbs)))])), (4, (AO.var 79 [(bp ((((numS ((l).mul)) * (numS (a))) + (numS ((l).add))) < 0)), (AV.sl 1 (ns .u32 (digs ((((numS ((l).mul)) * (numS (a))) + (numS ((l).add)))).natAbs)))])), (3, (AO.var 79 [(bp ((numS ((l).div)) < 0)), (AV.sl 1 (ns .u32 (digs ((numS ((l).div))).natAbs)))])), (2, (AO.var 41 [(AV.lit (.string ((l).mul))), (AV.lit (.string ((l).add))), (AV.lit (.string ((l).div)))]))] Gd.none Xb_tZ79 rfl rfl rfl rfl rfl rfl ?_
                refine o_store [(6, (AO.var 79 [(bp (((((numS ((l).mul)) * (numS (a))) + (numS ((l).add))) % (numS ((l).div))) < 0)), (AV.sl 1 (ns .u32 (digs (((((numS ((l).mul)) * (numS (a))) + (numS ((l).add))) % (numS ((l).div)))).natAbs)))])), (5, (AO.var 79 [(bp (((((numS ((l).mul)) * (numS (a))) + (numS ((l).add))) / (numS ((l).div))) < 0)), (AV.sl 1 (ns .u32 (digs (((((numS ((l).mul)) * (numS (a))) + (numS ((l).add))) / (numS ((l).div)))).natAbs)))])), (4, (AO.var 79 [(bp ((((numS ((l).mul)) * (numS (a))) + (numS ((l).add))) < 0)), (AV.sl 1 (ns .u32 (digs ((((numS ((l).mul)) * (numS (a))) + (numS ((l).add)))).natAbs)))])), (3, (AO.var 79 [(bp ((numS ((l).div)) < 0)), (AV.sl 1 (ns .u32 (digs ((numS ((l).div))).natAbs)))])), (2, (AO.var 41 [(AV.lit (.string ((l).mul))), (AV.lit (.string ((l).add))), (AV.lit (.string ((l).div)))]))] Gd.none Xb_tZ79 rfl rfl rfl rfl rfl rfl ?_
                refine aops_end ?_
                refine hK18 _ ?_
                refine awp_seq fun K19 hK19 => ?_
                refine awp_seq fun K20 hK20 => ?_
                refine awp_region rfl ?_
                refine o_loadA [(bp (((((numS ((l).mul)) * (numS (a))) + (numS ((l).add))) % (numS ((l).div))) < 0)), (AV.sl 1 (ns .u32 (digs (((((numS ((l).mul)) * (numS (a))) + (numS ((l).add))) % (numS ((l).div)))).natAbs)))] Gd.none Xb_tA79 rfl rfl rfl rfl rfl ?_
                refine o_call [(AV.agg [(bp (((((numS ((l).mul)) * (numS (a))) + (numS ((l).add))) % (numS ((l).div))) < 0)), (AV.sl 1 (ns .u32 (digs (((((numS ((l).mul)) * (numS (a))) + (numS ((l).add))) % (numS ((l).div)))).natAbs)))])] (AV.lit (.int .i64 (sgn (((((numS ((l).mul)) * (numS (a))) + (numS ((l).add))) % (numS ((l).div))))))) Gd.none Xb_tC68 rfl (c_wSign (((((numS ((l).mul)) * (numS (a))) + (numS ((l).add))) % (numS ((l).div))))) ?_
                refine o_neq (a := (sgn (((((numS ((l).mul)) * (numS (a))) + (numS ((l).add))) % (numS ((l).div)))))) (c := (((0 : Nat) : Int))) Gd.none rfl rfl ?_
                refine aops_end ?_
                refine hK20 _ ?_
                refine awp_condQ (q := (sgn (((((numS ((l).mul)) * (numS (a))) + (numS ((l).add))) % (numS ((l).div))))) ≠ (((0 : Nat) : Int))) rfl (fun h8 => ?_) (fun h8 => ?_)
                · have hr : ¬ appV l a % numS l.div = 0 := fun e => h8 (sgn_z0.2 e)
                  refine awp_seq fun K21 hK21 => ?_
                  refine awp_region rfl ?_
                  refine o_assign (AV.lit (.string (({data := #[]} : ByteArray)))) Gd.none rfl ?_
                  refine o_assign (AV.lit (.bool false)) Gd.none rfl ?_
                  refine o_assign (nm .i64 (0)) Gd.none rfl ?_
                  refine aops_end ?_
                  refine hK21 _ ?_
                  refine awp_ret ?_
                  refine post_ret ⟨[(AV.lit (.string (({data := #[]} : ByteArray)))), (AV.lit (.bool false)), (nm .i64 (0))], And.intro (AV.le_refl _) (And.intro (AV.le_refl _) (And.intro (AV.le_refl _) (trivial))), rfl, ?_⟩
                  have e := app_no ho hd hf hr
                  exact tup_eq3 (str_as e.2.2) (bp_no e.2.1) (congrArg (nm _) e.1)
                · have hr : appV l a % numS l.div = 0 := sgn_z0.1 (Decidable.not_not.1 h8)
                  refine awp_skip ?_
                  refine hK19 _ ?_
                  refine awp_seq fun K22 hK22 => ?_
                  refine awp_region rfl ?_
                  refine o_loadA [(bp (((((numS ((l).mul)) * (numS (a))) + (numS ((l).add))) / (numS ((l).div))) < 0)), (AV.sl 1 (ns .u32 (digs (((((numS ((l).mul)) * (numS (a))) + (numS ((l).add))) / (numS ((l).div)))).natAbs)))] Gd.none Xb_tA79 rfl rfl rfl rfl rfl ?_
                  refine o_call [(AV.agg [(bp (((((numS ((l).mul)) * (numS (a))) + (numS ((l).add))) / (numS ((l).div))) < 0)), (AV.sl 1 (ns .u32 (digs (((((numS ((l).mul)) * (numS (a))) + (numS ((l).add))) / (numS ((l).div)))).natAbs)))])] (AV.lit (.string (txt (((((numS ((l).mul)) * (numS (a))) + (numS ((l).add))) / (numS ((l).div))))))) Gd.none Xb_tC64 rfl (c_wText (((((numS ((l).mul)) * (numS (a))) + (numS ((l).add))) / (numS ((l).div)))) (by first | assumption | omega | (simp only [Int.natAbs_neg]; omega))) ?_
                  refine o_assign (AV.lit (.string (txt (((((numS ((l).mul)) * (numS (a))) + (numS ((l).add))) / (numS ((l).div))))))) Gd.none rfl ?_
                  refine o_assign (AV.lit (.bool true)) Gd.none rfl ?_
                  refine o_assign (nm .i64 (0)) Gd.none rfl ?_
                  refine aops_end ?_
                  refine hK22 _ ?_
                  refine awp_ret ?_
                  refine post_ret ⟨[(AV.lit (.string (txt (((((numS ((l).mul)) * (numS (a))) + (numS ((l).add))) / (numS ((l).div))))))), (AV.lit (.bool true)), (nm .i64 (0))], And.intro (AV.le_refl _) (And.intro (AV.le_refl _) (And.intro (AV.le_refl _) (trivial))), rfl, ?_⟩
                  have e := app_yes ho hd hf hr
                  exact tup_eq3 (str_as e.2.2) (bp_yes e.2.1) (congrArg (nm _) e.1)

theorem c_oRest (m : MapM) (w : List Int) (hwl : w.length ≤ 17592186044416) : ECalls cx 21 [(mapV m), (AV.sl 1 (is .i64 (w)))] (.tup [.lit (.string (restS m w)), .lit (.string (restD m w)), nm .i64 (restE m w)]) := by
  refine ecalls_of_awp Tryd.func21 (c := _) rfl (Nat.le_of_ble_eq_true rfl) ?_
  show awp cx 84 _ (postF cx Tryd.f21 _) ⟨[(0, (mapV m)), (1, (AV.sl 1 (is .i64 (w))))], []⟩
  refine awp_seq fun K0 hK0 => ?_
  refine awp_region rfl ?_
  refine o_box 2 [(AV.lit (.int .i64 (m.mod))), (AV.sl 1 (is .i64 (m.mul))), (AV.sl 1 (is .i64 (m.add)))] Gd.none rfl rfl ?_
  refine o_assign (AV.lit (.string (({data := #[]} : ByteArray)))) Gd.none rfl ?_
  refine o_assign (AV.lit (.string (({data := #[]} : ByteArray)))) Gd.none rfl ?_
  refine o_assign (nm .i64 (0)) Gd.none rfl ?_
  refine aops_end ?_
  refine hK0 _ ?_
  refine awp_seq fun K1 hK1 => ?_
  refine awp_block ?_
  refine awp_seq fun K2 hK2 => ?_
  refine awp_region rfl ?_
  refine o_loadA [(AV.lit (.int .i64 (m.mod))), (AV.sl 1 (is .i64 (m.mul))), (AV.sl 1 (is .i64 (m.add)))] Gd.none Xb_tA24 rfl rfl rfl rfl rfl ?_
  refine o_call [(AV.agg [(AV.lit (.int .i64 (m.mod))), (AV.sl 1 (is .i64 (m.mul))), (AV.sl 1 (is .i64 (m.add)))])] (AV.lit (.bool (okM m))) Gd.none Xb_tC46 rfl (c_sValid m) ?_
  refine o_not (b := okM m) Gd.none rfl ?_
  refine o_assign (AV.lit (.bool (!(okM m)))) Gd.none rfl ?_
  refine aops_end ?_
  refine hK2 _ ?_
  refine awp_condB (b := !(okM m)) rfl (fun h1 => ?_) (fun h1 => ?_)
  · have hm' : ¬ okM m = true := by simpa using h1
    refine awp_seq fun K3 hK3 => ?_
    refine awp_region rfl ?_
    refine o_assign (AV.lit (.string (({data := #[]} : ByteArray)))) Gd.none rfl ?_
    refine o_assign (AV.lit (.string (({data := #[]} : ByteArray)))) Gd.none rfl ?_
    refine o_assign (nm .i64 (1)) Gd.none rfl ?_
    refine aops_end ?_
    refine hK3 _ ?_
    refine awp_ret ?_
    refine post_ret ⟨[(AV.lit (.string (({data := #[]} : ByteArray)))), (AV.lit (.string (({data := #[]} : ByteArray)))), (nm .i64 (1))], And.intro (AV.le_refl _) (And.intro (AV.le_refl _) (And.intro (AV.le_refl _) (trivial))), rfl, ?_⟩
    have e := rest_1 (m := m) (w := w) hm'
    exact tup_eq3 (str_as e.2.1) (str_as e.2.2) (congrArg (nm _) e.1)
  · have hm' : okM m = true := by simpa using h1
    have hM := okM_iff.1 hm'
    have hM2 := hM
    obtain ⟨o1, o2, o3, o4, o5⟩ := hM2
    refine awp_seq fun K4 hK4 => ?_
    refine awp_region rfl ?_
    refine o_loadA [(AV.lit (.int .i64 (m.mod))), (AV.sl 1 (is .i64 (m.mul))), (AV.sl 1 (is .i64 (m.add)))] Gd.none Xb_tA24 rfl rfl rfl rfl rfl ?_
    refine o_move (AV.sl 1 (is .i64 (w))) Gd.none rfl ?_
    refine o_call [(AV.agg [(AV.lit (.int .i64 (m.mod))), (AV.sl 1 (is .i64 (m.mul))), (AV.sl 1 (is .i64 (m.add)))]), (AV.sl 1 (is .i64 (w)))] (bp (OkW m (w))) Gd.none Xb_tC55 rfl (c_oIs m (w)) ?_
    refine o_notP (q := OkW m (w)) Gd.none rfl ?_
    refine o_move (bp (¬ (OkW m (w)))) Gd.none rfl ?_
    refine o_splitP (q := ¬ (OkW m (w))) 25 rfl (fun h2 => ?_) (fun h2 => ?_)
    · refine o_skip (b := decide (¬ (OkW m (w)))) rfl rfl (decide_eq_true h2) ?_
      refine o_skip (b := decide (¬ (OkW m (w)))) rfl rfl (decide_eq_true h2) ?_
      refine o_skip (b := decide (¬ (OkW m (w)))) rfl rfl (decide_eq_true h2) ?_
      refine o_pickT (b := decide (¬ (OkW m (w)))) (AV.lit (.bool true)) Gd.none rfl (decide_eq_true h2) rfl ?_
      refine o_assign (AV.lit (.bool true)) Gd.none rfl ?_
      refine aops_end ?_
      refine hK4 _ ?_
      refine awp_condB (b := true) rfl (fun _ => ?_) (fun hh => absurd (hh.symm.trans rfl) (by decide))
      refine awp_seq fun K5 hK5 => ?_
      refine awp_region rfl ?_
      refine o_assign (AV.lit (.string (({data := #[]} : ByteArray)))) Gd.none rfl ?_
      refine o_assign (AV.lit (.string (({data := #[]} : ByteArray)))) Gd.none rfl ?_
      refine o_assign (nm .i64 (2)) Gd.none rfl ?_
      refine aops_end ?_
      refine hK5 _ ?_
      refine awp_ret ?_
      refine post_ret ⟨[(AV.lit (.string (({data := #[]} : ByteArray)))), (AV.lit (.string (({data := #[]} : ByteArray)))), (nm .i64 (2))], And.intro (AV.le_refl _) (And.intro (AV.le_refl _) (And.intro (AV.le_refl _) (trivial))), rfl, ?_⟩
      have e := rest_2 (m := m) (w := w) hm' (fun e => h2 e.1)
      exact tup_eq3 (str_as e.2.1) (str_as e.2.2) (congrArg (nm _) e.1)
    · have hW : OkW m w := Decidable.not_not.1 h2
      have hWl := hW.2
      refine o_loadA [(AV.lit (.int .i64 (m.mod))), (AV.sl 1 (is .i64 (m.mul))), (AV.sl 1 (is .i64 (m.add)))] (Gd.yes rfl rfl (decide_eq_false h2)) Xb_tA24 rfl rfl rfl rfl rfl ?_
      refine o_call [(AV.agg [(AV.lit (.int .i64 (m.mod))), (AV.sl 1 (is .i64 (m.mul))), (AV.sl 1 (is .i64 (m.add)))])] (bp (freeM m)) (Gd.yes rfl rfl (decide_eq_false h2)) Xb_tC58 rfl (c_sFree m (by first | assumption | exact okM_iff.1 (by assumption))) ?_
      refine o_notP (q := freeM m) (Gd.yes rfl rfl (decide_eq_false h2)) rfl ?_
      refine o_pickF (b := decide (¬ (OkW m (w)))) (bp (¬ (freeM m))) Gd.none rfl (decide_eq_false h2) rfl ?_
      refine o_assign (bp (¬ (freeM m))) Gd.none rfl ?_
      refine aops_end ?_
      refine hK4 _ ?_
      refine awp_condQ (q := ¬ (freeM m)) rfl (fun h3 => ?_) (fun h3 => ?_)
      · refine awp_seq fun K6 hK6 => ?_
        refine awp_region rfl ?_
        refine o_assign (AV.lit (.string (({data := #[]} : ByteArray)))) Gd.none rfl ?_
        refine o_assign (AV.lit (.string (({data := #[]} : ByteArray)))) Gd.none rfl ?_
        refine o_assign (nm .i64 (2)) Gd.none rfl ?_
        refine aops_end ?_
        refine hK6 _ ?_
        refine awp_ret ?_
        refine post_ret ⟨[(AV.lit (.string (({data := #[]} : ByteArray)))), (AV.lit (.string (({data := #[]} : ByteArray)))), (nm .i64 (2))], And.intro (AV.le_refl _) (And.intro (AV.le_refl _) (And.intro (AV.le_refl _) (trivial))), rfl, ?_⟩
        have e := rest_2 (m := m) (w := w) hm' (fun e => h3 e.2)
        exact tup_eq3 (str_as e.2.1) (str_as e.2.2) (congrArg (nm _) e.1)
      · have hF : freeM m := Decidable.not_not.1 h3
        refine awp_skip ?_
        refine hK1 _ ?_
        refine awp_seq fun K7 hK7 => ?_
        refine awp_region rfl ?_
        refine o_call [(nm .i64 (0))] (intW ((0 : Int))) Gd.none Xb_tC59 rfl (c_wOf ((0 : Int)) (by first | decide | omega) (by first | decide | omega)) ?_
        refine o_call [(nm .i64 (1))] (intW ((1 : Int))) Gd.none Xb_tC59 rfl (c_wOf ((1 : Int)) (by first | decide | omega) (by first | decide | omega)) ?_
        refine o_alloc 3 [(AV.lit (.bool false)), (AV.lit (.slice none 0 0))] Gd.none Xb_tO79 rfl rfl rfl ?_
        refine o_alloc 4 [(AV.lit (.bool false)), (AV.lit (.slice none 0 0))] Gd.none Xb_tO79 rfl rfl rfl ?_
        refine o_store [(4, (AO.var 79 [(AV.lit (.bool false)), (AV.lit (.slice none 0 0))])), (3, (AO.var 79 [(bp ((0 : Int) < 0)), (AV.sl 1 (ns .u32 (digs ((0 : Int)).natAbs)))])), (2, (AO.var 24 [(AV.lit (.int .i64 (m.mod))), (AV.sl 1 (is .i64 (m.mul))), (AV.sl 1 (is .i64 (m.add)))]))] Gd.none Xb_tZ79 rfl rfl rfl rfl rfl rfl ?_
        refine o_store [(4, (AO.var 79 [(bp ((1 : Int) < 0)), (AV.sl 1 (ns .u32 (digs ((1 : Int)).natAbs)))])), (3, (AO.var 79 [(bp ((0 : Int) < 0)), (AV.sl 1 (ns .u32 (digs ((0 : Int)).natAbs)))])), (2, (AO.var 24 [(AV.lit (.int .i64 (m.mod))), (AV.sl 1 (is .i64 (m.mul))), (AV.sl 1 (is .i64 (m.add)))]))] Gd.none Xb_tZ79 rfl rfl rfl rfl rfl rfl ?_
        refine aops_end ?_
        refine hK7 _ ?_
        refine awp_seq fun K8 hK8 => ?_
        refine awp_seq fun K9 hK9 => ?_
        refine awp_region rfl ?_
        refine o_move (AV.sl 1 (is .i64 (w))) Gd.none rfl ?_
        refine i_len (w) Gd.none Xb_tU22 rfl ?_
        refine o_move (nm .i64 (0)) Gd.none rfl ?_
        refine aops_end ?_
        refine hK9 _ ?_
        refine awp_block ?_
        refine awp_loopR (fun κ σ => ∃ (i : Nat), ∃ (R : Int), (i ≤ w.length) ∧ (R = (restZ m (w.take i)).1) ∧ ((digs R.natAbs).length ≤ 13 * i + 4) ∧ (w.length - i) = κ ∧ σ = ⟨[(1, (AV.sl 1 (is .i64 (w)))), (2, (AV.ref 2 (0))), (7, (AV.ref 3 (0))), (8, (AV.ref 4 (0))), (32, (AV.sl 1 (is .i64 (w)))), (33, (nm .i64 ((w).length))), (34, (nm .i64 (i)))], [(2, (AO.var 24 [(AV.lit (.int .i64 (m.mod))), (AV.sl 1 (is .i64 (m.mul))), (AV.sl 1 (is .i64 (m.add)))])), (3, (AO.var 79 [(bp (R < 0)), (AV.sl 1 (ns .u32 (digs (R).natAbs)))])), (4, (AO.var 79 [(bp ((m.mod ^ i) < 0)), (AV.sl 1 (ns .u32 (digs ((m.mod ^ i)).natAbs)))]))]⟩) ⟨_, _, ⟨0, 0, (by omega), rfl, (by simp [digs_zero]), rfl, rfl⟩, ?wk0⟩ ?rd0
        case wk0 =>
          exact Wk.sub (And.intro (by exact rfl) (And.intro (by exact rfl) (And.intro (by exact rfl) (And.intro (by exact rfl) (And.intro (by exact rfl) (And.intro (by exact rfl) (And.intro (by first | rfl | exact congrArg (nm _) (by omega) | exact nm_int (by omega) | exact nm_int (by simp [IntKind.wrap, IntKind.bits, IntKind.signed]; omega)) (trivial)))))))) (And.intro (by first | rfl | exact row_ns (by simp) | exact congrArg (fun x => some (AO.blk (.stringIter _ x))) (by omega) | (simp only [Int.pow_zero, Int.pow_succ]; rfl)) (And.intro (by first | rfl | exact row_ns (by simp) | exact congrArg (fun x => some (AO.blk (.stringIter _ x))) (by omega) | (simp only [Int.pow_zero, Int.pow_succ]; rfl)) (And.intro (by first | rfl | exact row_ns (by simp) | exact congrArg (fun x => some (AO.blk (.stringIter _ x))) (by omega) | (simp only [Int.pow_zero, Int.pow_succ]; rfl)) (trivial))))
        rintro κ _ ⟨i, R, hi, hR, hRl, rfl, rfl⟩
        obtain ⟨L1, L2, L3⟩ := line_len hM (w.take i) (isW_take hW.1 i)
        have L4 : (w.take i).length = i := by rw [List.length_take]; omega
        have L5 : (digs (m.mod ^ i).natAbs).length ≤ 3 * i + 3 := by have := lineZ_div m (w.take i); rw [L4] at this; rw [← this]; omega
        refine awp_seq fun K10 hK10 => ?_
        refine awp_region rfl ?_
        refine n_lss (i) ((w).length) Gd.none rfl rfl ?_
        refine aops_end ?_
        refine hK10 _ ?_
        refine awp_seq fun K11 hK11 => ?_
        refine awp_condQ (q := (i) < ((w).length)) rfl (fun h4 => ?_) (fun h4 => ?_)
        · have hwi := isW_get hW.1 h4
          have hd1 := small_len (z := m.mod) (by omega)
          obtain ⟨T, hT⟩ : ∃ T, T = lookT (lineZ m (w.take i)).mul m.mod (((lineZ m (w.take i)).mul * R + (lineZ m (w.take i)).add) / (lineZ m (w.take i)).div) (w.getD i 0) := ⟨_, rfl⟩
          obtain ⟨t1, t2, t3, t4⟩ := rest_step hM hF hW.1 h4 hR hT
          have hp1 := len_mulZ (lineZ m (w.take i)).mul R
          have hp2 := len_addZ ((lineZ m (w.take i)).mul * R) (lineZ m (w.take i)).add
          have hp3 : 0 < (lineZ m (w.take i)).div := by rw [lineZ_div]; exact Int.pow_pos (by omega)
          have hmd : ((m.mod.toNat : Nat) : Int) = m.mod := Int.toNat_of_nonneg (by omega)
          have hp5 := len_mulZ (m.mod ^ i) m.mod
          have hp4 := len_ediv ((lineZ m (w.take i)).mul * R + (lineZ m (w.take i)).add) hp3
          refine awp_skip ?_
          refine hK11 _ ?_
          refine awp_seq fun K12 hK12 => ?_
          refine awp_block ?_
          refine awp_seq fun K13 hK13 => ?_
          refine awp_region rfl ?_
          refine o_move (nm .i64 (i)) Gd.none rfl ?_
          refine i_index (w) (i) Gd.none Xb_tE22 rfl rfl (by omega) ?_
          refine i_loadI (w) (i) Gd.none Xb_tS3 rfl (by omega) ?_
          refine o_assign (nm .i64 (i)) Gd.none rfl ?_
          refine o_assign (AV.lit (.int .i64 ((w).getD (i) 0))) Gd.none rfl ?_
          refine aops_end ?_
          refine hK13 _ ?_
          refine awp_seq fun K14 hK14 => ?_
          refine awp_regionD rfl ?_
          refine o_loadA [(AV.lit (.int .i64 (m.mod))), (AV.sl 1 (is .i64 (m.mul))), (AV.sl 1 (is .i64 (m.add)))] Gd.none Xb_tA24 rfl rfl rfl rfl rfl ?_
          refine o_move (AV.sl 1 (is .i64 (w))) Gd.none rfl ?_
          refine o_move (nm .i64 (i)) Gd.none rfl ?_
          refine i_slice (w) (0) (i) Gd.none Xb_tE22 rfl rfl (hi_nm rfl) trivial (by omega) (by omega) ?_
          refine n_as (v' := (AV.sl 1 (is .i64 ((w).take (i))))) (by rfl) ?_
          refine o_call [(AV.agg [(AV.lit (.int .i64 (m.mod))), (AV.sl 1 (is .i64 (m.mul))), (AV.sl 1 (is .i64 (m.add)))]), (AV.sl 1 (is .i64 ((w).take (i))))] (linW (lineZ m ((w).take (i)))) Gd.none Xb_tC56 rfl (c_oOf m ((w).take (i)) (by first | assumption | exact okM_iff.1 (by assumption)) (by first | assumption | exact (by assumption : OkW _ _).1 | exact isW_take (by assumption : OkW _ _).1 _) (by first | omega | exact (by assumption : OkW _ _).2)) ?_
          refine o_alloc 101 [(AV.lit (.bool false)), (AV.lit (.slice none 0 0)), (AV.lit (.bool false)), (AV.lit (.slice none 0 0)), (AV.lit (.bool false)), (AV.lit (.slice none 0 0))] Gd.none Xb_tO89 rfl rfl rfl ?_
          refine o_store [(101, (AO.var 89 [(bp (((lineZ m ((w).take (i))).mul) < 0)), (AV.sl 1 (ns .u32 (digs ((lineZ m ((w).take (i))).mul).natAbs))), (bp (((lineZ m ((w).take (i))).add) < 0)), (AV.sl 1 (ns .u32 (digs ((lineZ m ((w).take (i))).add).natAbs))), (bp (((lineZ m ((w).take (i))).div) < 0)), (AV.sl 1 (ns .u32 (digs ((lineZ m ((w).take (i))).div).natAbs)))])), (2, (AO.var 24 [(AV.lit (.int .i64 (m.mod))), (AV.sl 1 (is .i64 (m.mul))), (AV.sl 1 (is .i64 (m.add)))])), (3, (AO.var 79 [(bp (R < 0)), (AV.sl 1 (ns .u32 (digs (R).natAbs)))])), (4, (AO.var 79 [(bp ((m.mod ^ i) < 0)), (AV.sl 1 (ns .u32 (digs ((m.mod ^ i)).natAbs)))]))] Gd.none Xb_tZ89 rfl rfl rfl rfl rfl rfl ?_
          refine aops_end ⟨by kernel_rfl, ?_⟩
          refine hK14 _ ?_
          refine awp_seq fun K15 hK15 => ?_
          refine awp_regionD rfl ?_
          refine o_fieldRef 0 Gd.none Xb_tF89_0 rfl rfl ?_
          refine o_loadA [(bp (((lineZ m ((w).take (i))).mul) < 0)), (AV.sl 1 (ns .u32 (digs ((lineZ m ((w).take (i))).mul).natAbs)))] Gd.none Xb_tA79 rfl rfl rfl rfl rfl ?_
          refine o_loadA [(bp (R < 0)), (AV.sl 1 (ns .u32 (digs (R).natAbs)))] Gd.none Xb_tA79 rfl rfl rfl rfl rfl ?_
          refine o_call [(AV.agg [(bp (((lineZ m ((w).take (i))).mul) < 0)), (AV.sl 1 (ns .u32 (digs ((lineZ m ((w).take (i))).mul).natAbs)))]), (AV.agg [(bp (R < 0)), (AV.sl 1 (ns .u32 (digs (R).natAbs)))])] (intW ((((lineZ m ((w).take (i))).mul) * R))) Gd.none Xb_tC60 rfl (c_wMul (((lineZ m ((w).take (i))).mul)) (R) (by first | assumption | omega | (simp only [Int.natAbs_neg]; omega)) (by first | assumption | omega | (simp only [Int.natAbs_neg]; omega))) ?_
          refine o_fieldRef 2 Gd.none Xb_tF89_1 rfl rfl ?_
          refine o_loadA [(bp (((lineZ m ((w).take (i))).add) < 0)), (AV.sl 1 (ns .u32 (digs ((lineZ m ((w).take (i))).add).natAbs)))] Gd.none Xb_tA79 rfl rfl rfl rfl rfl ?_
          refine o_call [(intW ((((lineZ m ((w).take (i))).mul) * R))), (AV.agg [(bp (((lineZ m ((w).take (i))).add) < 0)), (AV.sl 1 (ns .u32 (digs ((lineZ m ((w).take (i))).add).natAbs)))])] (intW (((((lineZ m ((w).take (i))).mul) * R) + ((lineZ m ((w).take (i))).add)))) Gd.none Xb_tC61 rfl (c_wAdd ((((lineZ m ((w).take (i))).mul) * R)) (((lineZ m ((w).take (i))).add)) (by first | assumption | omega | (simp only [Int.natAbs_neg]; omega)) (by first | assumption | omega | (simp only [Int.natAbs_neg]; omega))) ?_
          refine o_fieldRef 4 Gd.none Xb_tF89_2 rfl rfl ?_
          refine o_loadA [(bp (((lineZ m ((w).take (i))).div) < 0)), (AV.sl 1 (ns .u32 (digs ((lineZ m ((w).take (i))).div).natAbs)))] Gd.none Xb_tA79 rfl rfl rfl rfl rfl ?_
          refine o_call [(intW (((((lineZ m ((w).take (i))).mul) * R) + ((lineZ m ((w).take (i))).add)))), (AV.agg [(bp (((lineZ m ((w).take (i))).div) < 0)), (AV.sl 1 (ns .u32 (digs ((lineZ m ((w).take (i))).div).natAbs)))])] (AV.tup [(intW ((((((lineZ m ((w).take (i))).mul) * R) + ((lineZ m ((w).take (i))).add)) / ((lineZ m ((w).take (i))).div)))), (intW ((((((lineZ m ((w).take (i))).mul) * R) + ((lineZ m ((w).take (i))).add)) % ((lineZ m ((w).take (i))).div))))]) Gd.none Xb_tC62 rfl (c_wDivide (((((lineZ m ((w).take (i))).mul) * R) + ((lineZ m ((w).take (i))).add))) (((lineZ m ((w).take (i))).div)) (by omega) (by omega) (by omega)) ?_
          refine o_move (AV.tup [(intW ((((((lineZ m ((w).take (i))).mul) * R) + ((lineZ m ((w).take (i))).add)) / ((lineZ m ((w).take (i))).div)))), (intW ((((((lineZ m ((w).take (i))).mul) * R) + ((lineZ m ((w).take (i))).add)) % ((lineZ m ((w).take (i))).div))))]) Gd.none rfl ?_
          refine o_extract (intW ((((((lineZ m ((w).take (i))).mul) * R) + ((lineZ m ((w).take (i))).add)) / ((lineZ m ((w).take (i))).div)))) Gd.none rfl rfl ?_
          refine o_extract (intW ((((((lineZ m ((w).take (i))).mul) * R) + ((lineZ m ((w).take (i))).add)) % ((lineZ m ((w).take (i))).div)))) Gd.none rfl rfl ?_
          refine o_alloc 102 [(AV.lit (.bool false)), (AV.lit (.slice none 0 0))] Gd.none Xb_tO79 rfl rfl rfl ?_
          refine o_alloc 103 [(AV.lit (.bool false)), (AV.lit (.slice none 0 0))] Gd.none Xb_tO79 rfl rfl rfl ?_
          refine o_store [(103, (AO.var 79 [(AV.lit (.bool false)), (AV.lit (.slice none 0 0))])), (102, (AO.var 79 [(bp ((((((lineZ m ((w).take (i))).mul) * R) + ((lineZ m ((w).take (i))).add)) / ((lineZ m ((w).take (i))).div)) < 0)), (AV.sl 1 (ns .u32 (digs ((((((lineZ m ((w).take (i))).mul) * R) + ((lineZ m ((w).take (i))).add)) / ((lineZ m ((w).take (i))).div))).natAbs)))])), (101, (AO.var 89 [(bp (((lineZ m ((w).take (i))).mul) < 0)), (AV.sl 1 (ns .u32 (digs ((lineZ m ((w).take (i))).mul).natAbs))), (bp (((lineZ m ((w).take (i))).add) < 0)), (AV.sl 1 (ns .u32 (digs ((lineZ m ((w).take (i))).add).natAbs))), (bp (((lineZ m ((w).take (i))).div) < 0)), (AV.sl 1 (ns .u32 (digs ((lineZ m ((w).take (i))).div).natAbs)))])), (2, (AO.var 24 [(AV.lit (.int .i64 (m.mod))), (AV.sl 1 (is .i64 (m.mul))), (AV.sl 1 (is .i64 (m.add)))])), (3, (AO.var 79 [(bp (R < 0)), (AV.sl 1 (ns .u32 (digs (R).natAbs)))])), (4, (AO.var 79 [(bp ((m.mod ^ i) < 0)), (AV.sl 1 (ns .u32 (digs ((m.mod ^ i)).natAbs)))]))] Gd.none Xb_tZ79 rfl rfl rfl rfl rfl rfl ?_
          refine o_store [(103, (AO.var 79 [(bp ((((((lineZ m ((w).take (i))).mul) * R) + ((lineZ m ((w).take (i))).add)) % ((lineZ m ((w).take (i))).div)) < 0)), (AV.sl 1 (ns .u32 (digs ((((((lineZ m ((w).take (i))).mul) * R) + ((lineZ m ((w).take (i))).add)) % ((lineZ m ((w).take (i))).div))).natAbs)))])), (102, (AO.var 79 [(bp ((((((lineZ m ((w).take (i))).mul) * R) + ((lineZ m ((w).take (i))).add)) / ((lineZ m ((w).take (i))).div)) < 0)), (AV.sl 1 (ns .u32 (digs ((((((lineZ m ((w).take (i))).mul) * R) + ((lineZ m ((w).take (i))).add)) / ((lineZ m ((w).take (i))).div))).natAbs)))])), (101, (AO.var 89 [(bp (((lineZ m ((w).take (i))).mul) < 0)), (AV.sl 1 (ns .u32 (digs ((lineZ m ((w).take (i))).mul).natAbs))), (bp (((lineZ m ((w).take (i))).add) < 0)), (AV.sl 1 (ns .u32 (digs ((lineZ m ((w).take (i))).add).natAbs))), (bp (((lineZ m ((w).take (i))).div) < 0)), (AV.sl 1 (ns .u32 (digs ((lineZ m ((w).take (i))).div).natAbs)))])), (2, (AO.var 24 [(AV.lit (.int .i64 (m.mod))), (AV.sl 1 (is .i64 (m.mul))), (AV.sl 1 (is .i64 (m.add)))])), (3, (AO.var 79 [(bp (R < 0)), (AV.sl 1 (ns .u32 (digs (R).natAbs)))])), (4, (AO.var 79 [(bp ((m.mod ^ i) < 0)), (AV.sl 1 (ns .u32 (digs ((m.mod ^ i)).natAbs)))]))] Gd.none Xb_tZ79 rfl rfl rfl rfl rfl rfl ?_
          refine aops_end ⟨by kernel_rfl, ?_⟩
          refine hK15 _ ?_
          refine awp_seq fun K16 hK16 => ?_
          refine awp_block ?_
          refine awp_loopR (fun κ σ => ∃ (t : Nat), ∃ (A : Int), ∃ (B : Int), (t ≤ T) ∧ (A = ((lineZ m (w.take i)).mul * R + (lineZ m (w.take i)).add) / (lineZ m (w.take i)).div + (t : Int) * (lineZ m (w.take i)).mul) ∧ (B = R + (t : Int) * m.mod ^ i) ∧ ((digs A.natAbs).length ≤ 10000 + t) ∧ ((digs B.natAbs).length ≤ 13 * i + 4 + t) ∧ (T - t) = κ ∧ σ = ⟨[(1, (AV.sl 1 (is .i64 (w)))), (2, (AV.ref 2 (0))), (7, (AV.ref 3 (0))), (8, (AV.ref 4 (0))), (10, (AV.lit (.int .i64 ((w).getD (i) 0)))), (11, (AV.ref 10 (0))), (12, (AV.ref 11 (0))), (32, (AV.sl 1 (is .i64 (w)))), (33, (nm .i64 ((w).length))), (34, (nm .i64 (i)))], [(2, (AO.var 24 [(AV.lit (.int .i64 (m.mod))), (AV.sl 1 (is .i64 (m.mul))), (AV.sl 1 (is .i64 (m.add)))])), (3, (AO.var 79 [(bp (B < 0)), (AV.sl 1 (ns .u32 (digs (B).natAbs)))])), (4, (AO.var 79 [(bp ((m.mod ^ i) < 0)), (AV.sl 1 (ns .u32 (digs ((m.mod ^ i)).natAbs)))])), (10, (AO.var 89 [(bp (((lineZ m ((w).take (i))).mul) < 0)), (AV.sl 1 (ns .u32 (digs ((lineZ m ((w).take (i))).mul).natAbs))), (bp (((lineZ m ((w).take (i))).add) < 0)), (AV.sl 1 (ns .u32 (digs ((lineZ m ((w).take (i))).add).natAbs))), (bp (((lineZ m ((w).take (i))).div) < 0)), (AV.sl 1 (ns .u32 (digs ((lineZ m ((w).take (i))).div).natAbs)))])), (11, (AO.var 79 [(bp (A < 0)), (AV.sl 1 (ns .u32 (digs (A).natAbs)))]))]⟩) ⟨_, _, ⟨0, ((((lineZ m ((w).take (i))).mul) * R + ((lineZ m ((w).take (i))).add)) / ((lineZ m ((w).take (i))).div)), R, (by omega), (by simp), (by simp), (by omega), (by omega), rfl, rfl⟩, ?wk1⟩ ?rd1
          case wk1 =>
            exact Wk.trans (Wk.sub (σ' := ⟨[(1, (AV.sl 1 (is .i64 (w)))), (2, (AV.ref 2 (0))), (7, (AV.ref 3 (0))), (8, (AV.ref 4 (0))), (10, (AV.lit (.int .i64 ((w).getD (i) 0)))), (11, (AV.ref 101 (0))), (12, (AV.ref 102 (0))), (32, (AV.sl 1 (is .i64 (w)))), (33, (nm .i64 ((w).length))), (34, (nm .i64 (i)))], [(2, (AO.var 24 [(AV.lit (.int .i64 (m.mod))), (AV.sl 1 (is .i64 (m.mul))), (AV.sl 1 (is .i64 (m.add)))])), (3, (AO.var 79 [(bp (R < 0)), (AV.sl 1 (ns .u32 (digs (R).natAbs)))])), (4, (AO.var 79 [(bp ((m.mod ^ i) < 0)), (AV.sl 1 (ns .u32 (digs ((m.mod ^ i)).natAbs)))])), (101, (AO.var 89 [(bp (((lineZ m ((w).take (i))).mul) < 0)), (AV.sl 1 (ns .u32 (digs ((lineZ m ((w).take (i))).mul).natAbs))), (bp (((lineZ m ((w).take (i))).add) < 0)), (AV.sl 1 (ns .u32 (digs ((lineZ m ((w).take (i))).add).natAbs))), (bp (((lineZ m ((w).take (i))).div) < 0)), (AV.sl 1 (ns .u32 (digs ((lineZ m ((w).take (i))).div).natAbs)))])), (102, (AO.var 79 [(bp ((((((lineZ m ((w).take (i))).mul) * R) + ((lineZ m ((w).take (i))).add)) / ((lineZ m ((w).take (i))).div)) < 0)), (AV.sl 1 (ns .u32 (digs ((((((lineZ m ((w).take (i))).mul) * R) + ((lineZ m ((w).take (i))).add)) / ((lineZ m ((w).take (i))).div))).natAbs)))]))]⟩) (And.intro rfl (And.intro rfl (And.intro rfl (And.intro rfl (And.intro rfl (And.intro rfl (And.intro rfl (And.intro rfl (And.intro rfl (And.intro rfl (trivial))))))))))) (And.intro rfl (And.intro rfl (And.intro rfl (And.intro rfl (And.intro rfl (trivial))))))) (Wk.trans (Wk.ren (id := 101) (id' := 10) rfl) (Wk.trans (Wk.ren (id := 102) (id' := 11) rfl) (Wk.sub (And.intro (by exact rfl) (And.intro (by exact rfl) (And.intro (by exact rfl) (And.intro (by exact rfl) (And.intro (by exact rfl) (And.intro (by first | rfl | (simp)) (And.intro (by first | rfl | (simp)) (And.intro (by exact rfl) (And.intro (by exact rfl) (And.intro (by exact rfl) (trivial))))))))))) (And.intro (by first | rfl | exact row_ns (by simp) | exact congrArg (fun x => some (AO.blk (.stringIter _ x))) (by omega) | (simp only [Int.pow_zero, Int.pow_succ]; rfl)) (And.intro (by first | rfl | exact row_ns (by simp) | exact congrArg (fun x => some (AO.blk (.stringIter _ x))) (by omega) | (simp only [Int.pow_zero, Int.pow_succ]; rfl)) (And.intro (by first | rfl | exact row_ns (by simp) | exact congrArg (fun x => some (AO.blk (.stringIter _ x))) (by omega) | (simp only [Int.pow_zero, Int.pow_succ]; rfl)) (And.intro (by first | rfl | exact row_ns (by simp) | exact congrArg (fun x => some (AO.blk (.stringIter _ x))) (by omega) | (simp only [Int.pow_zero, Int.pow_succ]; rfl)) (And.intro (by first | rfl | exact row_ns (by simp) | exact congrArg (fun x => some (AO.blk (.stringIter _ x))) (by omega) | (simp only [Int.pow_zero, Int.pow_succ]; rfl)) (trivial)))))))))
          rintro κ _ ⟨t, A, B, ht, hA, hB, hAl, hBl, rfl, rfl⟩
          refine awp_block ?_
          refine awp_seq fun K17 hK17 => ?_
          refine awp_seq fun K18 hK18 => ?_
          refine awp_region rfl ?_
          refine o_loadA [(bp (A < 0)), (AV.sl 1 (ns .u32 (digs (A).natAbs)))] Gd.none Xb_tA79 rfl rfl rfl rfl rfl ?_
          refine o_fieldRef 0 Gd.none Xb_tF24_0 rfl rfl ?_
          refine o_loadS (AV.lit (.int .i64 (m.mod))) Gd.none Xb_tS3 rfl rfl rfl ?_
          refine n_as (v' := (nm .i64 (m.mod.toNat))) (nm_int (by omega)) ?_
          refine o_call [(AV.agg [(bp (A < 0)), (AV.sl 1 (ns .u32 (digs (A).natAbs)))]), (nm .i64 (m.mod.toNat))] (AV.tup [(intW ((A / ((m.mod.toNat : Nat) : Int)))), (AV.lit (.int .i64 (A % ((m.mod.toNat : Nat) : Int))))]) Gd.none Xb_tC63 rfl (c_wQR (A) (m.mod.toNat) (by omega) (by omega) (by first | assumption | omega | (simp only [Int.natAbs_neg]; omega))) ?_
          refine o_move (AV.tup [(intW ((A / ((m.mod.toNat : Nat) : Int)))), (AV.lit (.int .i64 (A % ((m.mod.toNat : Nat) : Int))))]) Gd.none rfl ?_
          refine o_extract (intW ((A / ((m.mod.toNat : Nat) : Int)))) Gd.none rfl rfl ?_
          refine o_extract (AV.lit (.int .i64 (A % ((m.mod.toNat : Nat) : Int)))) Gd.none rfl rfl ?_
          refine o_alloc 201 [(AV.lit (.bool false)), (AV.lit (.slice none 0 0))] Gd.none Xb_tO79 rfl rfl rfl ?_
          refine o_store [(201, (AO.var 79 [(bp ((A / ((m.mod.toNat : Nat) : Int)) < 0)), (AV.sl 1 (ns .u32 (digs ((A / ((m.mod.toNat : Nat) : Int))).natAbs)))])), (2, (AO.var 24 [(AV.lit (.int .i64 (m.mod))), (AV.sl 1 (is .i64 (m.mul))), (AV.sl 1 (is .i64 (m.add)))])), (3, (AO.var 79 [(bp (B < 0)), (AV.sl 1 (ns .u32 (digs (B).natAbs)))])), (4, (AO.var 79 [(bp ((m.mod ^ i) < 0)), (AV.sl 1 (ns .u32 (digs ((m.mod ^ i)).natAbs)))])), (10, (AO.var 89 [(bp (((lineZ m ((w).take (i))).mul) < 0)), (AV.sl 1 (ns .u32 (digs ((lineZ m ((w).take (i))).mul).natAbs))), (bp (((lineZ m ((w).take (i))).add) < 0)), (AV.sl 1 (ns .u32 (digs ((lineZ m ((w).take (i))).add).natAbs))), (bp (((lineZ m ((w).take (i))).div) < 0)), (AV.sl 1 (ns .u32 (digs ((lineZ m ((w).take (i))).div).natAbs)))])), (11, (AO.var 79 [(bp (A < 0)), (AV.sl 1 (ns .u32 (digs (A).natAbs)))]))] Gd.none Xb_tZ79 rfl rfl rfl rfl rfl rfl ?_
          refine o_assign (AV.lit (.int .i64 (A % ((m.mod.toNat : Nat) : Int)))) Gd.none rfl ?_
          refine aops_end ?_
          refine hK18 _ ?_
          refine awp_seq fun K19 hK19 => ?_
          refine awp_region rfl ?_
          refine o_move (AV.lit (.int .i64 (A % ((m.mod.toNat : Nat) : Int)))) Gd.none rfl ?_
          refine o_move (AV.lit (.int .i64 ((w).getD (i) 0))) Gd.none rfl ?_
          refine o_eql (a := (A % ((m.mod.toNat : Nat) : Int))) (c := ((w).getD (i) 0)) Gd.none rfl rfl ?_
          refine aops_end ?_
          refine hK19 _ ?_
          refine awp_condQ (q := (A % ((m.mod.toNat : Nat) : Int)) = ((w).getD (i) 0)) rfl (fun h5 => ?_) (fun h5 => ?_)
          · have h5' := h5
            rw [hmd, hA] at h5'
            have htT : t = T := by rcases Nat.lt_or_ge t T with e | e; exact absurd h5' (t3 t e); omega
            have hq4 : R + (t : Int) * m.mod ^ i = (restZ m (w.take (i + 1))).1 := by rw [htT]; exact t4
            refine awp_exit ?_
            refine hK16 _ ?_
            refine awp_regionD rfl ?_
            refine o_loadA [(bp ((m.mod ^ i) < 0)), (AV.sl 1 (ns .u32 (digs ((m.mod ^ i)).natAbs)))] Gd.none Xb_tA79 rfl rfl rfl rfl rfl ?_
            refine o_fieldRef 0 Gd.none Xb_tF24_0 rfl rfl ?_
            refine o_loadS (AV.lit (.int .i64 (m.mod))) Gd.none Xb_tS3 rfl rfl rfl ?_
            refine o_call [(AV.lit (.int .i64 (m.mod)))] (intW ((m.mod))) Gd.none Xb_tC59 rfl (c_wOf (m.mod) (by first | decide | omega) (by first | decide | omega)) ?_
            refine o_call [(AV.agg [(bp ((m.mod ^ i) < 0)), (AV.sl 1 (ns .u32 (digs ((m.mod ^ i)).natAbs)))]), (intW ((m.mod)))] (intW (((m.mod ^ i) * (m.mod)))) Gd.none Xb_tC60 rfl (c_wMul ((m.mod ^ i)) ((m.mod)) (by first | assumption | omega | (simp only [Int.natAbs_neg]; omega)) (by first | assumption | omega | (simp only [Int.natAbs_neg]; omega))) ?_
            refine o_store [(201, (AO.var 79 [(bp ((A / ((m.mod.toNat : Nat) : Int)) < 0)), (AV.sl 1 (ns .u32 (digs ((A / ((m.mod.toNat : Nat) : Int))).natAbs)))])), (2, (AO.var 24 [(AV.lit (.int .i64 (m.mod))), (AV.sl 1 (is .i64 (m.mul))), (AV.sl 1 (is .i64 (m.add)))])), (3, (AO.var 79 [(bp (B < 0)), (AV.sl 1 (ns .u32 (digs (B).natAbs)))])), (4, (AO.var 79 [(bp (((m.mod ^ i) * (m.mod)) < 0)), (AV.sl 1 (ns .u32 (digs (((m.mod ^ i) * (m.mod))).natAbs)))])), (10, (AO.var 89 [(bp (((lineZ m ((w).take (i))).mul) < 0)), (AV.sl 1 (ns .u32 (digs ((lineZ m ((w).take (i))).mul).natAbs))), (bp (((lineZ m ((w).take (i))).add) < 0)), (AV.sl 1 (ns .u32 (digs ((lineZ m ((w).take (i))).add).natAbs))), (bp (((lineZ m ((w).take (i))).div) < 0)), (AV.sl 1 (ns .u32 (digs ((lineZ m ((w).take (i))).div).natAbs)))])), (11, (AO.var 79 [(bp (A < 0)), (AV.sl 1 (ns .u32 (digs (A).natAbs)))]))] Gd.none Xb_tZ79 rfl rfl rfl rfl rfl rfl ?_
            refine aops_end ⟨by kernel_rfl, ?_⟩
            refine hK12 _ ?_
            refine awp_region rfl ?_
            refine n_add (i) (1) Gd.none rfl rfl (by simp only [topOf]; omega) ?_
            refine o_move (nm .i64 ((i) + (1))) Gd.none rfl ?_
            refine aops_end ?_
            refine ⟨_, _, ?lt, ⟨i + 1, B, (by omega), (hB.trans hq4), (by omega), rfl, rfl⟩, ?wk⟩
            case lt => omega
            case wk => exact Wk.sub (And.intro (by exact rfl) (And.intro (by exact rfl) (And.intro (by exact rfl) (And.intro (by exact rfl) (And.intro (by exact rfl) (And.intro (by exact rfl) (And.intro (by first | rfl | exact congrArg (nm _) (by omega) | exact nm_int (by omega) | exact nm_int (by simp [IntKind.wrap, IntKind.bits, IntKind.signed]; omega)) (trivial)))))))) (And.intro (by first | rfl | exact row_ns (by simp) | exact congrArg (fun x => some (AO.blk (.stringIter _ x))) (by omega) | (simp only [Int.pow_zero, Int.pow_succ]; rfl)) (And.intro (by first | rfl | exact row_ns (by simp) | exact congrArg (fun x => some (AO.blk (.stringIter _ x))) (by omega) | (simp only [Int.pow_zero, Int.pow_succ]; rfl)) (And.intro (by first | rfl | exact row_ns (by simp) | exact congrArg (fun x => some (AO.blk (.stringIter _ x))) (by omega) | (simp only [Int.pow_zero, Int.pow_succ]; rfl)) (trivial))))
          · have htT : t < T := by rcases Nat.lt_or_ge t T with e | e; exact e; exact absurd (by rw [hmd, hA, show t = T by omega]; exact t2) h5
            have hz1 := len_addZ A (lineZ m (w.take i)).mul
            have hz2 := len_addZ B (m.mod ^ i)
            refine awp_skip ?_
            refine hK17 _ ?_
            refine awp_regionD rfl ?_
            refine o_loadA [(bp (B < 0)), (AV.sl 1 (ns .u32 (digs (B).natAbs)))] Gd.none Xb_tA79 rfl rfl rfl rfl rfl ?_
            refine o_loadA [(bp ((m.mod ^ i) < 0)), (AV.sl 1 (ns .u32 (digs ((m.mod ^ i)).natAbs)))] Gd.none Xb_tA79 rfl rfl rfl rfl rfl ?_
            refine o_call [(AV.agg [(bp (B < 0)), (AV.sl 1 (ns .u32 (digs (B).natAbs)))]), (AV.agg [(bp ((m.mod ^ i) < 0)), (AV.sl 1 (ns .u32 (digs ((m.mod ^ i)).natAbs)))])] (intW ((B + (m.mod ^ i)))) Gd.none Xb_tC61 rfl (c_wAdd (B) ((m.mod ^ i)) (by first | assumption | omega | (simp only [Int.natAbs_neg]; omega)) (by first | assumption | omega | (simp only [Int.natAbs_neg]; omega))) ?_
            refine o_loadA [(bp (A < 0)), (AV.sl 1 (ns .u32 (digs (A).natAbs)))] Gd.none Xb_tA79 rfl rfl rfl rfl rfl ?_
            refine o_fieldRef 0 Gd.none Xb_tF89_0 rfl rfl ?_
            refine o_loadA [(bp (((lineZ m ((w).take (i))).mul) < 0)), (AV.sl 1 (ns .u32 (digs ((lineZ m ((w).take (i))).mul).natAbs)))] Gd.none Xb_tA79 rfl rfl rfl rfl rfl ?_
            refine o_call [(AV.agg [(bp (A < 0)), (AV.sl 1 (ns .u32 (digs (A).natAbs)))]), (AV.agg [(bp (((lineZ m ((w).take (i))).mul) < 0)), (AV.sl 1 (ns .u32 (digs ((lineZ m ((w).take (i))).mul).natAbs)))])] (intW ((A + ((lineZ m ((w).take (i))).mul)))) Gd.none Xb_tC61 rfl (c_wAdd (A) (((lineZ m ((w).take (i))).mul)) (by first | assumption | omega | (simp only [Int.natAbs_neg]; omega)) (by first | assumption | omega | (simp only [Int.natAbs_neg]; omega))) ?_
            refine o_store [(201, (AO.var 79 [(bp ((A / ((m.mod.toNat : Nat) : Int)) < 0)), (AV.sl 1 (ns .u32 (digs ((A / ((m.mod.toNat : Nat) : Int))).natAbs)))])), (2, (AO.var 24 [(AV.lit (.int .i64 (m.mod))), (AV.sl 1 (is .i64 (m.mul))), (AV.sl 1 (is .i64 (m.add)))])), (3, (AO.var 79 [(bp ((B + (m.mod ^ i)) < 0)), (AV.sl 1 (ns .u32 (digs ((B + (m.mod ^ i))).natAbs)))])), (4, (AO.var 79 [(bp ((m.mod ^ i) < 0)), (AV.sl 1 (ns .u32 (digs ((m.mod ^ i)).natAbs)))])), (10, (AO.var 89 [(bp (((lineZ m ((w).take (i))).mul) < 0)), (AV.sl 1 (ns .u32 (digs ((lineZ m ((w).take (i))).mul).natAbs))), (bp (((lineZ m ((w).take (i))).add) < 0)), (AV.sl 1 (ns .u32 (digs ((lineZ m ((w).take (i))).add).natAbs))), (bp (((lineZ m ((w).take (i))).div) < 0)), (AV.sl 1 (ns .u32 (digs ((lineZ m ((w).take (i))).div).natAbs)))])), (11, (AO.var 79 [(bp (A < 0)), (AV.sl 1 (ns .u32 (digs (A).natAbs)))]))] Gd.none Xb_tZ79 rfl rfl rfl rfl rfl rfl ?_
            refine o_store [(201, (AO.var 79 [(bp ((A / ((m.mod.toNat : Nat) : Int)) < 0)), (AV.sl 1 (ns .u32 (digs ((A / ((m.mod.toNat : Nat) : Int))).natAbs)))])), (2, (AO.var 24 [(AV.lit (.int .i64 (m.mod))), (AV.sl 1 (is .i64 (m.mul))), (AV.sl 1 (is .i64 (m.add)))])), (3, (AO.var 79 [(bp ((B + (m.mod ^ i)) < 0)), (AV.sl 1 (ns .u32 (digs ((B + (m.mod ^ i))).natAbs)))])), (4, (AO.var 79 [(bp ((m.mod ^ i) < 0)), (AV.sl 1 (ns .u32 (digs ((m.mod ^ i)).natAbs)))])), (10, (AO.var 89 [(bp (((lineZ m ((w).take (i))).mul) < 0)), (AV.sl 1 (ns .u32 (digs ((lineZ m ((w).take (i))).mul).natAbs))), (bp (((lineZ m ((w).take (i))).add) < 0)), (AV.sl 1 (ns .u32 (digs ((lineZ m ((w).take (i))).add).natAbs))), (bp (((lineZ m ((w).take (i))).div) < 0)), (AV.sl 1 (ns .u32 (digs ((lineZ m ((w).take (i))).div).natAbs)))])), (11, (AO.var 79 [(bp ((A + ((lineZ m ((w).take (i))).mul)) < 0)), (AV.sl 1 (ns .u32 (digs ((A + ((lineZ m ((w).take (i))).mul))).natAbs)))]))] Gd.none Xb_tZ79 rfl rfl rfl rfl rfl rfl ?_
            refine aops_end ⟨by kernel_rfl, ?_⟩
            refine ⟨_, _, ?lt, ⟨t + 1, (A + (lineZ m ((w).take (i))).mul), (B + (m.mod ^ i)), (by omega), (by rw [hA, Int.natCast_add, Int.add_mul, Int.natCast_one, Int.one_mul]; omega), (by rw [hB, Int.natCast_add, Int.add_mul, Int.natCast_one, Int.one_mul]; omega), (by omega), (by omega), rfl, rfl⟩, ?wk⟩
            case lt => omega
            case wk => exact Wk.sub (And.intro (by exact rfl) (And.intro (by exact rfl) (And.intro (by exact rfl) (And.intro (by exact rfl) (And.intro (by exact rfl) (And.intro (by exact rfl) (And.intro (by exact rfl) (And.intro (by exact rfl) (And.intro (by exact rfl) (And.intro (by exact rfl) (trivial))))))))))) (And.intro (by first | rfl | exact row_ns (by simp) | exact congrArg (fun x => some (AO.blk (.stringIter _ x))) (by omega) | (simp only [Int.pow_zero, Int.pow_succ]; rfl)) (And.intro (by first | rfl | exact row_ns (by simp) | exact congrArg (fun x => some (AO.blk (.stringIter _ x))) (by omega) | (simp only [Int.pow_zero, Int.pow_succ]; rfl)) (And.intro (by first | rfl | exact row_ns (by simp) | exact congrArg (fun x => some (AO.blk (.stringIter _ x))) (by omega) | (simp only [Int.pow_zero, Int.pow_succ]; rfl)) (And.intro (by first | rfl | exact row_ns (by simp) | exact congrArg (fun x => some (AO.blk (.stringIter _ x))) (by omega) | (simp only [Int.pow_zero, Int.pow_succ]; rfl)) (And.intro (by first | rfl | exact row_ns (by simp) | exact congrArg (fun x => some (AO.blk (.stringIter _ x))) (by omega) | (simp only [Int.pow_zero, Int.pow_succ]; rfl)) (trivial))))))
        · refine awp_exit ?_
          refine hK8 _ ?_
          refine awp_seq fun K20 hK20 => ?_
          refine awp_regionD rfl ?_
          refine o_loadA [(bp (R < 0)), (AV.sl 1 (ns .u32 (digs (R).natAbs)))] Gd.none Xb_tA79 rfl rfl rfl rfl rfl ?_
          refine o_call [(AV.agg [(bp (R < 0)), (AV.sl 1 (ns .u32 (digs (R).natAbs)))])] (AV.lit (.string (txt (R)))) Gd.none Xb_tC64 rfl (c_wText (R) (by first | assumption | omega | (simp only [Int.natAbs_neg]; omega))) ?_
          refine o_loadA [(bp ((m.mod ^ i) < 0)), (AV.sl 1 (ns .u32 (digs ((m.mod ^ i)).natAbs)))] Gd.none Xb_tA79 rfl rfl rfl rfl rfl ?_
          refine o_call [(AV.agg [(bp ((m.mod ^ i) < 0)), (AV.sl 1 (ns .u32 (digs ((m.mod ^ i)).natAbs)))])] (AV.lit (.string (txt ((m.mod ^ i))))) Gd.none Xb_tC64 rfl (c_wText ((m.mod ^ i)) (by first | assumption | omega | (simp only [Int.natAbs_neg]; omega))) ?_
          refine o_assign (AV.lit (.string (txt (R)))) Gd.none rfl ?_
          refine o_assign (AV.lit (.string (txt ((m.mod ^ i))))) Gd.none rfl ?_
          refine o_assign (nm .i64 (0)) Gd.none rfl ?_
          refine aops_end ⟨by kernel_rfl, ?_⟩
          refine hK20 _ ?_
          refine awp_ret ?_
          refine post_ret ⟨[(AV.lit (.string (txt (R)))), (AV.lit (.string (txt ((m.mod ^ i))))), (nm .i64 (0))], And.intro (AV.le_refl _) (And.intro (AV.le_refl _) (And.intro (AV.le_refl _) (trivial))), rfl, ?_⟩
          have e := rest_0 (m := m) (w := w) hm' ⟨hW, hF⟩; rw [show w.take i = w from List.take_of_length_le (by omega)] at hR; rw [← hR, show w.length = i by omega] at e
          exact tup_eq3 (str_as e.2.1) (str_as e.2.2) (congrArg (nm _) e.1)

end Go.Proofs.YtbilndahjkimkaaDoor

set_option linter.unusedVariables false
set_option linter.unusedSimpArgs false
namespace Go.Ab
theorem Wk.cells {C : Ctx} {n : Nat} {σ : St} {i ty : Nat} {cs cs' : List AV} (hs : lookO σ.objs i = some (.var ty cs)) (hl : LeL cs cs') : Wk C n σ ⟨σ.slots, (i, .var ty cs') :: σ.objs⟩ := fun w0 H L a w hr => by
  have conv : ∀ j o, lookO ((i, .var ty cs') :: σ.objs) j = some o → (j = i ∧ o = .var ty cs') ∨ (j ≠ i ∧ σ.sem.μ j = some o) := fun j o ho => by
    simp only [lookO] at ho
    by_cases h2 : j = i
    · subst h2
      simp at ho
      exact .inl ⟨rfl, ho.symm⟩
    · rw [beq_ne (fun e => h2 e.symm)] at ho
      exact .inr ⟨h2, ho⟩
  have hi0 := hr.objs i (.var ty cs) hs
  refine ⟨H, L, Ext.refl _ _, ⟨hr.glob, hr.heap, hr.size, hr.slot, fun j o ho => ?_, fun j k o o' g x x' hjk hj hk => ?_, hr.below, hr.defers⟩⟩
  · rcases conv j o ho with ⟨rfl, rfl⟩ | ⟨h1, h2⟩
    · obtain ⟨g, vs, a1, a2, a3, a4, a5, a6⟩ := hi0
      exact ⟨g, vs, a1, a2, hl.rep a3, a4, a5, a6⟩
    · exact hr.objs j o h2
  · have conv' : ∀ j o, lookO ((i, .var ty cs') :: σ.objs) j = some o → ∃ o', σ.sem.μ j = some o' := fun j o ho => by
      rcases conv j o ho with ⟨rfl, rfl⟩ | ⟨h1, h2⟩
      · exact ⟨_, hs⟩
      · exact ⟨_, h2⟩
    obtain ⟨o1, h1⟩ := conv' j o hj
    obtain ⟨o2, h2⟩ := conv' k o' hk
    exact hr.apart j k o1 o2 g x x' hjk h1 h2
end Go.Ab
namespace Go.Mth
open Go.Ab
def gC (a b : Nat) : Prop := ((digs a).getD ((digs a).length - 1) 0) ≤ ((digs b).getD ((digs b).length - 1) 0) ∧ 0 < (digs a).length - (digs b).length
instance (a b : Nat) : Decidable (gC a b) := inferInstanceAs (Decidable ((digs a).getD ((digs a).length - 1) 0 ≤ ((digs b).getD ((digs b).length - 1) 0) ∧ 0 < (digs a).length - (digs b).length))
def gSh (a b : Nat) : Nat := if gC a b then (digs a).length - (digs b).length - 1 else (digs a).length - (digs b).length
def gTop (a b : Nat) : Nat := if gC a b then ((digs a).getD ((digs a).length - 1) 0) * 1000000000 + (digs a).getD ((digs a).length - 2) 0 else ((digs a).getD ((digs a).length - 1) 0)
def gQ (a b : Nat) : Nat := max (gTop a b / ((digs b).getD ((digs b).length - 1) 0 + 1)) 1
def guessN (a b : Nat) : Nat := 1000000000 ^ gSh a b * gQ a b
end Go.Mth

set_option linter.unusedVariables false
set_option linter.unusedSimpArgs false
namespace Go.Proofs.YtbilndahjkimkaaDoor
open Go Go.Ab Go.Mth
end Go.Proofs.YtbilndahjkimkaaDoor

set_option linter.unusedVariables false
set_option linter.unusedSimpArgs false
namespace Go.Proofs.YtbilndahjkimkaaDoor
open Go Go.Ab Go.Mth
theorem Xc_tU22 : cx.P.underlying 22 = some (.slice 3) := by kernel_rfl
theorem Xc_tE22 : tyElem cx.P 22 = some (3, 1, 8) := by kernel_rfl
theorem Xc_tS3 : tySc cx.P 3 = true := by kernel_rfl
theorem Xc_tF24_0 : tyField cx.P 24 0 = some (0, 3) := by kernel_rfl
theorem c_vIs (m : MapM) (w : List Int) (hwl : w.length ≤ 17592186044416) : ECalls cx 22 [(mapV m), (AV.sl 1 (is .i64 (w)))] (bp (OkW m w)) := by
  refine ecalls_of_awp Tryd.func22 (c := _) rfl (Nat.le_of_ble_eq_true rfl) ?_
  show awp cx 29 _ (postF cx Tryd.f22 _) ⟨[(0, (mapV m)), (1, (AV.sl 1 (is .i64 (w))))], []⟩
  refine awp_seq fun K0 hK0 => ?_
  refine awp_region rfl ?_
  refine o_box 2 [(AV.lit (.int .i64 (m.mod))), (AV.sl 1 (is .i64 (m.mul))), (AV.sl 1 (is .i64 (m.add)))] Gd.none rfl rfl ?_
  refine o_assign (AV.lit (.bool false)) Gd.none rfl ?_
  refine aops_end ?_
  refine hK0 _ ?_
  refine awp_seq fun K1 hK1 => ?_
  refine awp_seq fun K2 hK2 => ?_
  refine awp_region rfl ?_
  refine o_assign (nm .i64 (0)) Gd.none rfl ?_
  refine aops_end ?_
  refine hK2 _ ?_
  refine awp_block ?_
  refine awp_loopR (fun κ σ => ∃ (i : Nat), (i ≤ w.length) ∧ (∀ k, k < i → 0 ≤ w.getD k 0 ∧ w.getD k 0 < m.mod) ∧ (w.length - i) = κ ∧ σ = ⟨[(1, (AV.sl 1 (is .i64 (w)))), (2, (AV.ref 2 (0))), (5, (nm .i64 (i)))], [(2, (AO.var 24 [(AV.lit (.int .i64 (m.mod))), (AV.sl 1 (is .i64 (m.mul))), (AV.sl 1 (is .i64 (m.add)))]))]⟩) ⟨_, _, ⟨0, (by omega), (fun k hk => by omega), rfl, rfl⟩, ?wk0⟩ ?rd0
  case wk0 =>
    exact Wk.sub (And.intro (by exact rfl) (And.intro (by exact rfl) (And.intro (by first | rfl | exact congrArg (nm _) (by omega) | exact nm_int (by omega) | exact nm_int (by simp [IntKind.wrap, IntKind.bits, IntKind.signed]; omega)) (trivial)))) (And.intro (by first | rfl | exact row_ns (by simp) | exact congrArg (fun x => some (AO.blk (.stringIter _ x))) (by omega)) (trivial))
  rintro κ _ ⟨i, hi, hf, rfl, rfl⟩
  refine awp_seq fun K3 hK3 => ?_
  refine awp_seq fun K4 hK4 => ?_
  refine awp_region rfl ?_
  refine o_move (nm .i64 (i)) Gd.none rfl ?_
  refine o_move (AV.sl 1 (is .i64 (w))) Gd.none rfl ?_
  refine i_len (w) Gd.none Xc_tU22 rfl ?_
  refine n_lss (i) ((w).length) Gd.none rfl rfl ?_
  refine aops_end ?_
  refine hK4 _ ?_
  refine awp_condQ (q := (i) < ((w).length)) rfl (fun h1 => ?_) (fun h1 => ?_)
  · refine awp_skip ?_
    refine hK3 _ ?_
    refine awp_seq fun K5 hK5 => ?_
    refine awp_block ?_
    refine awp_seq fun K6 hK6 => ?_
    refine awp_regionD rfl ?_
    refine o_move (AV.sl 1 (is .i64 (w))) Gd.none rfl ?_
    refine o_move (nm .i64 (i)) Gd.none rfl ?_
    refine i_index (w) (i) Gd.none Xc_tE22 rfl rfl (by omega) ?_
    refine i_loadI (w) (i) Gd.none Xc_tS3 rfl (by omega) ?_
    refine o_lss (a := ((w).getD (i) 0)) (c := (((0 : Nat) : Int))) Gd.none rfl rfl ?_
    refine o_move (bp (((w).getD (i) 0) < (((0 : Nat) : Int)))) Gd.none rfl ?_
    refine o_splitP (q := ((w).getD (i) 0) < (((0 : Nat) : Int))) 17 rfl (fun h2 => ?_) (fun h2 => ?_)
    · refine o_skip (b := decide (((w).getD (i) 0) < (((0 : Nat) : Int)))) rfl rfl (decide_eq_true h2) ?_
      refine o_skip (b := decide (((w).getD (i) 0) < (((0 : Nat) : Int)))) rfl rfl (decide_eq_true h2) ?_
      refine o_skip (b := decide (((w).getD (i) 0) < (((0 : Nat) : Int)))) rfl rfl (decide_eq_true h2) ?_
      refine o_skip (b := decide (((w).getD (i) 0) < (((0 : Nat) : Int)))) rfl rfl (decide_eq_true h2) ?_
      refine o_skip (b := decide (((w).getD (i) 0) < (((0 : Nat) : Int)))) rfl rfl (decide_eq_true h2) ?_
      refine o_skip (b := decide (((w).getD (i) 0) < (((0 : Nat) : Int)))) rfl rfl (decide_eq_true h2) ?_
      refine o_skip (b := decide (((w).getD (i) 0) < (((0 : Nat) : Int)))) rfl rfl (decide_eq_true h2) ?_
      refine o_pickT (b := decide (((w).getD (i) 0) < (((0 : Nat) : Int)))) (AV.lit (.bool true)) Gd.none rfl (decide_eq_true h2) rfl ?_
      refine aops_end ⟨by kernel_rfl, ?_⟩
      refine hK6 _ ?_
      refine awp_condB (b := true) rfl (fun _ => ?_) (fun hh => absurd (hh.symm.trans rfl) (by decide))
      refine awp_seq fun K7 hK7 => ?_
      refine awp_region rfl ?_
      refine o_assign (AV.lit (.bool false)) Gd.none rfl ?_
      refine aops_end ?_
      refine hK7 _ ?_
      refine awp_ret ?_
      refine post_ret ⟨[(AV.lit (.bool false))], And.intro (AV.le_refl _) (trivial), rfl, ?_⟩
      exact (bl_bp (b := false) ⟨fun h => (by cases h), fun h => absurd h (fun hh => absurd (isW_get hh.1 h1).1 (by omega))⟩).symm
    · refine o_move (AV.sl 1 (is .i64 (w))) (Gd.yes rfl rfl (decide_eq_false h2)) rfl ?_
      refine o_move (nm .i64 (i)) (Gd.yes rfl rfl (decide_eq_false h2)) rfl ?_
      refine i_index (w) (i) (Gd.yes rfl rfl (decide_eq_false h2)) Xc_tE22 rfl rfl (by omega) ?_
      refine i_loadI (w) (i) (Gd.yes rfl rfl (decide_eq_false h2)) Xc_tS3 rfl (by omega) ?_
      refine o_fieldRef 0 (Gd.yes rfl rfl (decide_eq_false h2)) Xc_tF24_0 rfl rfl ?_
      refine o_loadS (AV.lit (.int .i64 (m.mod))) (Gd.yes rfl rfl (decide_eq_false h2)) Xc_tS3 rfl rfl rfl ?_
      refine o_geq (a := ((w).getD (i) 0)) (c := (m.mod)) (Gd.yes rfl rfl (decide_eq_false h2)) rfl rfl ?_
      refine o_pickF (b := decide (((w).getD (i) 0) < (((0 : Nat) : Int)))) (bp ((m.mod) ≤ ((w).getD (i) 0))) Gd.none rfl (decide_eq_false h2) rfl ?_
      refine aops_end ⟨by kernel_rfl, ?_⟩
      refine hK6 _ ?_
      refine awp_condQ (q := (m.mod) ≤ ((w).getD (i) 0)) rfl (fun h3 => ?_) (fun h3 => ?_)
      · refine awp_seq fun K8 hK8 => ?_
        refine awp_region rfl ?_
        refine o_assign (AV.lit (.bool false)) Gd.none rfl ?_
        refine aops_end ?_
        refine hK8 _ ?_
        refine awp_ret ?_
        refine post_ret ⟨[(AV.lit (.bool false))], And.intro (AV.le_refl _) (trivial), rfl, ?_⟩
        exact (bl_bp (b := false) ⟨fun h => (by cases h), fun h => absurd h (fun hh => absurd (isW_get hh.1 h1).2 (by omega))⟩).symm
      · refine awp_skip ?_
        refine hK5 _ ?_
        refine awp_region rfl ?_
        refine o_move (nm .i64 (i)) Gd.none rfl ?_
        refine n_add (i) (1) Gd.none rfl rfl (by simp only [topOf]; omega) ?_
        refine o_assign (nm .i64 ((i) + (1))) Gd.none rfl ?_
        refine aops_end ?_
        refine ⟨_, _, ?lt, ⟨i + 1, (by omega), (fun k hk => by rcases Nat.lt_or_ge k i with e | e; exact hf k e; rw [show k = i by omega]; omega), rfl, rfl⟩, ?wk⟩
        case lt => omega
        case wk => exact Wk.sub (And.intro (by exact rfl) (And.intro (by exact rfl) (And.intro (by first | rfl | exact congrArg (nm _) (by omega) | exact nm_int (by omega) | exact nm_int (by simp [IntKind.wrap, IntKind.bits, IntKind.signed]; omega)) (trivial)))) (And.intro (by first | rfl | exact row_ns (by simp) | exact congrArg (fun x => some (AO.blk (.stringIter _ x))) (by omega)) (trivial))
  · refine awp_exit ?_
    refine hK1 _ ?_
    refine awp_seq fun K9 hK9 => ?_
    refine awp_region rfl ?_
    refine o_move (AV.sl 1 (is .i64 (w))) Gd.none rfl ?_
    refine i_len (w) Gd.none Xc_tU22 rfl ?_
    refine n_leq ((w).length) (200) Gd.none rfl rfl ?_
    refine o_assign (bp (((w).length) ≤ (200))) Gd.none rfl ?_
    refine aops_end ?_
    refine hK9 _ ?_
    refine awp_ret ?_
    refine post_ret ⟨[(bp (((w).length) ≤ (200)))], And.intro (AV.le_refl _) (trivial), rfl, ?_⟩
    exact bp_congr ⟨fun h => h.2, fun h => ⟨isW_of fun k hk => hf k (by omega), h⟩⟩

end Go.Proofs.YtbilndahjkimkaaDoor

set_option linter.unusedVariables false
set_option linter.unusedSimpArgs false
namespace Go.Mth
open Go.Ab
theorem exW_free : freeM (kinM 3 1) := fun i hi => by
  have : i < 2 := hi
  have : i = 0 ∨ i = 1 := by omega
  rcases this with rfl | rfl <;> decide
theorem exW_ok : OkW (kinM 3 1) [1, 1, 0] := ⟨fun r hr => by
  simp only [List.mem_cons, List.not_mem_nil, or_false] at hr
  rcases hr with rfl | rfl | rfl <;> exact ⟨by decide, by decide⟩, by decide⟩
theorem txt1 (n : Nat) (h : n < 10) : txt (n : Int) = ⟨#[UInt8.ofNat (48 + n)]⟩ := by
  have : n = 0 ∨ n = 1 ∨ n = 2 ∨ n = 3 ∨ n = 4 ∨ n = 5 ∨ n = 6 ∨ n = 7 ∨ n = 8 ∨ n = 9 := by omega
  rcases this with rfl | rfl | rfl | rfl | rfl | rfl | rfl | rfl | rfl | rfl <;> (simp [txt, txtL, decs, strN]; try rfl)
theorem txt13 : txt 13 = ⟨#[49, 51]⟩ := by
  simp [txt, txtL, decs, strN]
  rfl
theorem exW_line : lineS (kinM 3 1) [1, 1, 0] = ⟨⟨#[57]⟩, ⟨#[53]⟩, ⟨#[56]⟩⟩ ∧ lineE (kinM 3 1) [1, 1, 0] = 0 := by
  have h := line_0 okM_ex exW_ok
  have e : lineZ (kinM 3 1) [1, 1, 0] = ⟨9, 5, 8⟩ := by rfl
  refine ⟨h.2.trans ?_, h.1⟩
  rw [e]
  unfold lineT
  rw [show (9 : Int) = ((9 : Nat) : Int) by rfl, show (5 : Int) = ((5 : Nat) : Int) by rfl, show (8 : Int) = ((8 : Nat) : Int) by rfl, txt1 9 (by decide), txt1 5 (by decide), txt1 8 (by decide)]
  rfl
theorem exW_rest : restS (kinM 3 1) [1, 1, 0] = ⟨#[51]⟩ ∧ restD (kinM 3 1) [1, 1, 0] = ⟨#[56]⟩ ∧ restE (kinM 3 1) [1, 1, 0] = 0 := by
  have h := rest_0 okM_ex ⟨exW_ok, exW_free⟩
  have e : (restZ (kinM 3 1) [1, 1, 0]).1 = ((3 : Nat) : Int) := by decide +kernel
  have e2 : (kinM 3 1).mod ^ ([1, 1, 0] : List Int).length = ((8 : Nat) : Int) := by decide +kernel
  refine ⟨h.2.1.trans ?_, h.2.2.trans ?_, h.1⟩
  · rw [e, txt1 3 (by decide)]; rfl
  · rw [e2, txt1 8 (by decide)]; rfl
theorem exW_word : wordL (kinM 3 1) ⟨#[55]⟩ 4 = [1, 1, 1, 0] ∧ wordE (kinM 3 1) ⟨#[55]⟩ 4 = 0 := by
  have hf : FitK (kinM 3 1) (numS ⟨#[55]⟩) (4 : Int).toNat := fun j hj => by
    have : j < 4 := hj
    have : j = 0 ∨ j = 1 ∨ j = 2 ∨ j = 3 := by omega
    rw [numS_ex]
    rcases this with rfl | rfl | rfl | rfl
    · exact fit_of_lt (by decide)
    · rw [show iterZ (kinM 3 1) 1 7 = 11 by decide]; exact fit_of_lt (by decide)
    · rw [show iterZ (kinM 3 1) 2 7 = 17 by decide]; exact fit_of_lt (by decide)
    · rw [show iterZ (kinM 3 1) 3 7 = 26 by decide]; exact fit_of_lt (by decide)
  have h := wordE_0 (K := 4) ⟨okM_ex, okS_ex⟩ (by decide) hf
  refine ⟨h.2.trans ?_, h.1⟩
  rw [numS_ex]
  decide
theorem okS_dig {a : ByteArray} (h1 : 0 < a.size) (h2 : a.size ≤ 2000) (h3 : 49 ≤ byt a 0) (h : ∀ i, i < a.size → 48 ≤ byt a i ∧ byt a i ≤ 57) : okS a = true := by
  have h0 := h 0 h1
  have hs : sgnAt a = 0 := by unfold sgnAt; rw [if_neg (by omega)]
  exact okS_yes ⟨by rw [hs]; exact h1, by rw [hs]; omega, fun e => by rw [hs] at e; omega, fun i _ h2 => h i h2⟩
theorem dig1 {a : ByteArray} (h : (a.size = 1 ∧ 49 ≤ byt a 0 ∧ byt a 0 ≤ 57)) : okS a = true := okS_dig (by omega) (by omega) h.2.1 fun i hi => by
  have : i = 0 := by omega
  subst this; omega
theorem dig2 {a : ByteArray} (h : (a.size = 2 ∧ 49 ≤ byt a 0 ∧ byt a 0 ≤ 57 ∧ 48 ≤ byt a 1 ∧ byt a 1 ≤ 57)) : okS a = true := okS_dig (by omega) (by omega) h.2.1 fun i hi => by
  have : i = 0 ∨ i = 1 := by omega
  rcases this with rfl | rfl <;> omega
def exL : LineS := ⟨⟨#[57]⟩, ⟨#[53]⟩, ⟨#[56]⟩⟩
theorem exL_ok : okL exL = true := by
  unfold okL
  rw [show okS exL.mul = true from dig1 ⟨by decide, by decide, by decide⟩, show okS exL.add = true from dig1 ⟨by decide, by decide, by decide⟩, show okS exL.div = true from dig1 ⟨by decide, by decide, by decide⟩]
  rfl
theorem exL_num : numS exL.mul = 9 ∧ numS exL.add = 5 ∧ numS exL.div = 8 := ⟨by decide, by decide, by decide⟩
theorem exW_app : appS exL ⟨#[49, 49]⟩ = ⟨#[49, 51]⟩ ∧ AppB exL ⟨#[49, 49]⟩ ∧ appE exL ⟨#[49, 49]⟩ = 0 := by
  have hk : okS ⟨#[49, 49]⟩ = true := dig2 ⟨by decide, by decide, by decide, by decide, by decide⟩
  have hn : numS ⟨#[49, 49]⟩ = 11 := by decide
  obtain ⟨n1, n2, n3⟩ := exL_num
  have hv : appV exL ⟨#[49, 49]⟩ = 104 := by unfold appV; rw [n1, n2, hn]; rfl
  have h := app_yes ⟨exL_ok, hk⟩ (by rw [n3]; decide) (by rw [hv]; exact fit_of_lt (by decide)) (by rw [hv, n3]; rfl)
  refine ⟨h.2.2.trans ?_, h.2.1, h.1⟩
  rw [hv, n3, show (104 : Int) / 8 = 13 by rfl, txt13]
theorem exW_app2 : appS exL ⟨#[49, 50]⟩ = ⟨#[]⟩ ∧ ¬ AppB exL ⟨#[49, 50]⟩ ∧ appE exL ⟨#[49, 50]⟩ = 0 := by
  have hk : okS ⟨#[49, 50]⟩ = true := dig2 ⟨by decide, by decide, by decide, by decide, by decide⟩
  have hn : numS ⟨#[49, 50]⟩ = 12 := by decide
  obtain ⟨n1, n2, n3⟩ := exL_num
  have hv : appV exL ⟨#[49, 50]⟩ = 113 := by unfold appV; rw [n1, n2, hn]; rfl
  have h := app_no ⟨exL_ok, hk⟩ (by rw [n3]; decide) (by rw [hv]; exact fit_of_lt (by decide)) (by rw [hv, n3]; decide)
  exact ⟨h.2.2, h.2.1, h.1⟩
end Go.Mth

set_option linter.unusedVariables false
set_option linter.unusedSimpArgs false
namespace Go.Proofs.YtbilndahjkimkaaDoor
open Go Go.Ab Go.Mth
theorem Xd_tC51 : callable cx.P 51 = true := by kernel_rfl
theorem Xd_tO24 : tyZero cx.P 24 = some [(Go.Value.int IntKind.i64 0), (Go.Value.slice none 0 0), (Go.Value.slice none 0 0)] := by kernel_rfl
theorem Xd_tZ24 : tySize cx.P 24 = some 3 := by kernel_rfl
theorem Xd_tA24 : tyAgg cx.P 24 = some 3 := by kernel_rfl
theorem Xd_tE22 : tyElem cx.P 22 = some (3, 1, 8) := by kernel_rfl
theorem Xd_tO3 : tyZero cx.P 3 = some [(Go.Value.int IntKind.i64 0)] := by kernel_rfl
theorem Xd_tC20 : callable cx.P 20 = true := by kernel_rfl
theorem Xd_tO41 : tyZero cx.P 41 = some [(Go.Value.string {data := #[]}), (Go.Value.string {data := #[]}), (Go.Value.string {data := #[]})] := by kernel_rfl
theorem Xd_tZ41 : tySize cx.P 41 = some 3 := by kernel_rfl
theorem Xd_tC21 : callable cx.P 21 = true := by kernel_rfl
theorem Xd_tC12 : callable cx.P 12 = true := by kernel_rfl
theorem Xd_tP41 : tyPlaces cx.P 41 = some (fun i => (#[(0, 1), (1, 1), (2, 1)] : Array (Nat × Nat))[i]?) := by kernel_rfl
theorem Xd_tC28 : callable cx.P 28 = true := by kernel_rfl
theorem Xd_tA41 : tyAgg cx.P 41 = some 3 := by kernel_rfl
theorem Xd_tC19 : callable cx.P 19 = true := by kernel_rfl
theorem c_l3Awake  : ECalls cx 16 [] (.lit (.bool true)) := by
  refine ecalls_of_awp Tryd.func16 (c := _) rfl (Nat.le_of_ble_eq_true rfl) ?_
  show awp cx 97 _ (postF cx Tryd.f16 _) ⟨[], []⟩
  refine awp_seq fun K0 hK0 => ?_
  refine awp_region rfl ?_
  refine o_assign (AV.lit (.bool false)) Gd.none rfl ?_
  refine aops_end ?_
  refine hK0 _ ?_
  refine awp_seq fun K1 hK1 => ?_
  refine awp_region rfl ?_
  refine o_call [] (mapV (kinM 3 1)) Gd.none Xd_tC51 rfl c_gCollatz ?_
  refine o_alloc 2 [(nm .i64 (0)), (AV.lit (.slice none 0 0)), (AV.lit (.slice none 0 0))] Gd.none Xd_tO24 rfl rfl rfl ?_
  refine o_store [(2, (AO.var 24 [(AV.lit (.int .i64 ((kinM 3 1).mod))), (AV.sl 1 (is .i64 ((kinM 3 1).mul))), (AV.sl 1 (is .i64 ((kinM 3 1).add)))]))] Gd.none Xd_tZ24 rfl rfl rfl rfl rfl rfl ?_
  refine aops_end ?_
  refine hK1 _ ?_
  refine awp_seq fun K2 hK2 => ?_
  refine awp_region rfl ?_
  refine o_loadA [(AV.lit (.int .i64 ((kinM 3 1).mod))), (AV.sl 1 (is .i64 ((kinM 3 1).mul))), (AV.sl 1 (is .i64 ((kinM 3 1).add)))] Gd.none Xd_tA24 rfl rfl rfl rfl rfl ?_
  refine o_buildSlice 3 (ns .i64 ([1, 1, 0])) [(0, [(nm .i64 (1))]), (1, [(nm .i64 (1))]), (2, [(nm .i64 (0))])] Gd.none Xd_tE22 rfl Xd_tO3 rfl rfl rfl rfl rfl rfl rfl ?_
  refine o_callG [(3, 1, (ns .i64 ([1, 1, 0])))] [(AV.agg [(AV.lit (.int .i64 ((kinM 3 1).mod))), (AV.sl 1 (is .i64 ((kinM 3 1).mul))), (AV.sl 1 (is .i64 ((kinM 3 1).add)))]), (AV.sl 1 (ns .i64 ([1, 1, 0])))] _ (AV.tup [(AV.agg [(AV.lit (.string (({data := #[57]} : ByteArray)))), (AV.lit (.string (({data := #[53]} : ByteArray)))), (AV.lit (.string (({data := #[56]} : ByteArray))))]), (nm .i64 (0))]) [(2, (AO.var 24 [(AV.lit (.int .i64 ((kinM 3 1).mod))), (AV.sl 1 (is .i64 ((kinM 3 1).mul))), (AV.sl 1 (is .i64 ((kinM 3 1).add)))]))] Gd.none Xd_tC20 rfl (And.intro ⟨_, rfl⟩ (trivial)) rfl rfl (LeL.cons (AV.le_refl _) (LeL.cons (AV.le_refl _) (LeL.nil))) (by have h := c_oLine (kinM 3 1) [1, 1, 0] (by decide); rw [exW_line.1, exW_line.2] at h; exact h) rfl ?_
  refine o_move (AV.tup [(AV.agg [(AV.lit (.string (({data := #[57]} : ByteArray)))), (AV.lit (.string (({data := #[53]} : ByteArray)))), (AV.lit (.string (({data := #[56]} : ByteArray))))]), (nm .i64 (0))]) Gd.none rfl ?_
  refine o_extract (AV.agg [(AV.lit (.string (({data := #[57]} : ByteArray)))), (AV.lit (.string (({data := #[53]} : ByteArray)))), (AV.lit (.string (({data := #[56]} : ByteArray))))]) Gd.none rfl rfl ?_
  refine o_extract (nm .i64 (0)) Gd.none rfl rfl ?_
  refine o_alloc 4 [(AV.lit (.string (({data := #[]} : ByteArray)))), (AV.lit (.string (({data := #[]} : ByteArray)))), (AV.lit (.string (({data := #[]} : ByteArray))))] Gd.none Xd_tO41 rfl rfl rfl ?_
  refine o_store [(4, (AO.var 41 [(AV.lit (.string (({data := #[57]} : ByteArray)))), (AV.lit (.string (({data := #[53]} : ByteArray)))), (AV.lit (.string (({data := #[56]} : ByteArray))))])), (2, (AO.var 24 [(AV.lit (.int .i64 ((kinM 3 1).mod))), (AV.sl 1 (is .i64 ((kinM 3 1).mul))), (AV.sl 1 (is .i64 ((kinM 3 1).add)))]))] Gd.none Xd_tZ41 rfl rfl rfl rfl rfl rfl ?_
  refine o_assign (nm .i64 (0)) Gd.none rfl ?_
  refine aops_end ?_
  refine hK2 _ ?_
  refine awp_seq fun K3 hK3 => ?_
  refine awp_region rfl ?_
  refine o_loadA [(AV.lit (.int .i64 ((kinM 3 1).mod))), (AV.sl 1 (is .i64 ((kinM 3 1).mul))), (AV.sl 1 (is .i64 ((kinM 3 1).add)))] Gd.none Xd_tA24 rfl rfl rfl rfl rfl ?_
  refine o_buildSlice 5 (ns .i64 ([1, 1, 0])) [(0, [(nm .i64 (1))]), (1, [(nm .i64 (1))]), (2, [(nm .i64 (0))])] Gd.none Xd_tE22 rfl Xd_tO3 rfl rfl rfl rfl rfl rfl rfl ?_
  refine o_callG [(5, 1, (ns .i64 ([1, 1, 0])))] [(AV.agg [(AV.lit (.int .i64 ((kinM 3 1).mod))), (AV.sl 1 (is .i64 ((kinM 3 1).mul))), (AV.sl 1 (is .i64 ((kinM 3 1).add)))]), (AV.sl 1 (ns .i64 ([1, 1, 0])))] _ (AV.tup [(AV.lit (.string (({data := #[51]} : ByteArray)))), (AV.lit (.string (({data := #[56]} : ByteArray)))), (nm .i64 (0))]) [(4, (AO.var 41 [(AV.lit (.string (({data := #[57]} : ByteArray)))), (AV.lit (.string (({data := #[53]} : ByteArray)))), (AV.lit (.string (({data := #[56]} : ByteArray))))])), (2, (AO.var 24 [(AV.lit (.int .i64 ((kinM 3 1).mod))), (AV.sl 1 (is .i64 ((kinM 3 1).mul))), (AV.sl 1 (is .i64 ((kinM 3 1).add)))]))] Gd.none Xd_tC21 rfl (And.intro ⟨_, rfl⟩ (trivial)) rfl rfl (LeL.cons (AV.le_refl _) (LeL.cons (AV.le_refl _) (LeL.nil))) (by have h := c_oRest (kinM 3 1) [1, 1, 0] (by decide); rw [exW_rest.1, exW_rest.2.1, exW_rest.2.2] at h; exact h) rfl ?_
  refine o_move (AV.tup [(AV.lit (.string (({data := #[51]} : ByteArray)))), (AV.lit (.string (({data := #[56]} : ByteArray)))), (nm .i64 (0))]) Gd.none rfl ?_
  refine o_extract (AV.lit (.string (({data := #[51]} : ByteArray)))) Gd.none rfl rfl ?_
  refine o_extract (AV.lit (.string (({data := #[56]} : ByteArray)))) Gd.none rfl rfl ?_
  refine o_extract (nm .i64 (0)) Gd.none rfl rfl ?_
  refine o_assign (AV.lit (.string (({data := #[51]} : ByteArray)))) Gd.none rfl ?_
  refine o_assign (AV.lit (.string (({data := #[56]} : ByteArray)))) Gd.none rfl ?_
  refine o_assign (nm .i64 (0)) Gd.none rfl ?_
  refine aops_end ?_
  refine hK3 _ ?_
  refine awp_seq fun K4 hK4 => ?_
  refine awp_region rfl ?_
  refine o_loadA [(AV.lit (.int .i64 ((kinM 3 1).mod))), (AV.sl 1 (is .i64 ((kinM 3 1).mul))), (AV.sl 1 (is .i64 ((kinM 3 1).add)))] Gd.none Xd_tA24 rfl rfl rfl rfl rfl ?_
  refine o_call [(AV.agg [(AV.lit (.int .i64 ((kinM 3 1).mod))), (AV.sl 1 (is .i64 ((kinM 3 1).mul))), (AV.sl 1 (is .i64 ((kinM 3 1).add)))]), (AV.lit (.string (({data := #[55]} : ByteArray)))), (nm .i64 (4))] (AV.tup [(AV.sl 1 (is .i64 ([1, 1, 1, 0]))), (nm .i64 (0))]) Gd.none Xd_tC12 rfl (by have h := c_oWord (kinM 3 1) ⟨#[55]⟩ 4 (by decide); rw [exW_word.1, exW_word.2] at h; exact h) ?_
  refine o_move (AV.tup [(AV.sl 1 (is .i64 ([1, 1, 1, 0]))), (nm .i64 (0))]) Gd.none rfl ?_
  refine o_extract (AV.sl 1 (is .i64 ([1, 1, 1, 0]))) Gd.none rfl rfl ?_
  refine o_extract (nm .i64 (0)) Gd.none rfl rfl ?_
  refine o_assign (AV.sl 1 (is .i64 ([1, 1, 1, 0]))) Gd.none rfl ?_
  refine o_assign (nm .i64 (0)) Gd.none rfl ?_
  refine aops_end ?_
  refine hK4 _ ?_
  refine awp_seq fun K5 hK5 => ?_
  refine awp_region rfl ?_
  refine o_build [(AV.lit (.string (({data := #[57]} : ByteArray)))), (AV.lit (.string (({data := #[53]} : ByteArray)))), (AV.lit (.string (({data := #[56]} : ByteArray))))] [(0, [(AV.lit (.string (({data := #[57]} : ByteArray))))]), (1, [(AV.lit (.string (({data := #[53]} : ByteArray))))]), (2, [(AV.lit (.string (({data := #[56]} : ByteArray))))])] Gd.none Xd_tP41 Xd_tO41 rfl rfl rfl ?_
  refine o_call [(AV.agg [(AV.lit (.string (({data := #[57]} : ByteArray)))), (AV.lit (.string (({data := #[53]} : ByteArray)))), (AV.lit (.string (({data := #[56]} : ByteArray))))]), (AV.lit (.string (({data := #[49, 49]} : ByteArray))))] (AV.tup [(AV.lit (.string (({data := #[49, 51]} : ByteArray)))), (AV.lit (.bool true)), (nm .i64 (0))]) Gd.none Xd_tC28 rfl (by have h := c_oApply exL ⟨#[49, 49]⟩ (by decide) (by decide) (by decide) (by decide); rw [exW_app.1, bp_yes exW_app.2.1, exW_app.2.2] at h; exact h) ?_
  refine o_move (AV.tup [(AV.lit (.string (({data := #[49, 51]} : ByteArray)))), (AV.lit (.bool true)), (nm .i64 (0))]) Gd.none rfl ?_
  refine o_extract (AV.lit (.string (({data := #[49, 51]} : ByteArray)))) Gd.none rfl rfl ?_
  refine o_extract (AV.lit (.bool true)) Gd.none rfl rfl ?_
  refine o_extract (nm .i64 (0)) Gd.none rfl rfl ?_
  refine o_assign (AV.lit (.string (({data := #[49, 51]} : ByteArray)))) Gd.none rfl ?_
  refine o_assign (AV.lit (.bool true)) Gd.none rfl ?_
  refine o_assign (nm .i64 (0)) Gd.none rfl ?_
  refine aops_end ?_
  refine hK5 _ ?_
  refine awp_seq fun K6 hK6 => ?_
  refine awp_region rfl ?_
  refine o_build [(AV.lit (.string (({data := #[57]} : ByteArray)))), (AV.lit (.string (({data := #[53]} : ByteArray)))), (AV.lit (.string (({data := #[56]} : ByteArray))))] [(0, [(AV.lit (.string (({data := #[57]} : ByteArray))))]), (1, [(AV.lit (.string (({data := #[53]} : ByteArray))))]), (2, [(AV.lit (.string (({data := #[56]} : ByteArray))))])] Gd.none Xd_tP41 Xd_tO41 rfl rfl rfl ?_
  refine o_call [(AV.agg [(AV.lit (.string (({data := #[57]} : ByteArray)))), (AV.lit (.string (({data := #[53]} : ByteArray)))), (AV.lit (.string (({data := #[56]} : ByteArray))))]), (AV.lit (.string (({data := #[49, 50]} : ByteArray))))] (AV.tup [(AV.lit (.string (({data := #[]} : ByteArray)))), (AV.lit (.bool false)), (nm .i64 (0))]) Gd.none Xd_tC28 rfl (by have h := c_oApply exL ⟨#[49, 50]⟩ (by decide) (by decide) (by decide) (by decide); rw [exW_app2.1, bp_no exW_app2.2.1, exW_app2.2.2] at h; exact h) ?_
  refine o_move (AV.tup [(AV.lit (.string (({data := #[]} : ByteArray)))), (AV.lit (.bool false)), (nm .i64 (0))]) Gd.none rfl ?_
  refine o_extract (AV.lit (.string (({data := #[]} : ByteArray)))) Gd.none rfl rfl ?_
  refine o_extract (AV.lit (.bool false)) Gd.none rfl rfl ?_
  refine o_extract (nm .i64 (0)) Gd.none rfl rfl ?_
  refine o_assign (AV.lit (.string (({data := #[]} : ByteArray)))) Gd.none rfl ?_
  refine o_assign (AV.lit (.bool false)) Gd.none rfl ?_
  refine o_assign (nm .i64 (0)) Gd.none rfl ?_
  refine aops_end ?_
  refine hK6 _ ?_
  refine awp_seq fun K7 hK7 => ?_
  refine awp_region rfl ?_
  refine o_move (nm .i64 (0)) Gd.none rfl ?_
  refine n_eql (0) (0) Gd.none rfl rfl ?_
  refine o_move (bp ((0) = (0))) Gd.none rfl ?_
  refine o_loadA [(AV.lit (.string (({data := #[57]} : ByteArray)))), (AV.lit (.string (({data := #[53]} : ByteArray)))), (AV.lit (.string (({data := #[56]} : ByteArray))))] (Gd.yes rfl rfl (decide_eq_true (by decide))) Xd_tA41 rfl rfl rfl rfl rfl ?_
  refine o_build [(AV.lit (.string (({data := #[57]} : ByteArray)))), (AV.lit (.string (({data := #[53]} : ByteArray)))), (AV.lit (.string (({data := #[56]} : ByteArray))))] [(0, [(AV.lit (.string (({data := #[57]} : ByteArray))))]), (1, [(AV.lit (.string (({data := #[53]} : ByteArray))))]), (2, [(AV.lit (.string (({data := #[56]} : ByteArray))))])] (Gd.yes rfl rfl (decide_eq_true (by decide))) Xd_tP41 Xd_tO41 rfl rfl rfl ?_
  refine o_eqlA [.string (({data := #[57]} : ByteArray)), .string (({data := #[53]} : ByteArray)), .string (({data := #[56]} : ByteArray))] [.string (({data := #[57]} : ByteArray)), .string (({data := #[53]} : ByteArray)), .string (({data := #[56]} : ByteArray))] ((({data := #[57]} : ByteArray)) = (({data := #[57]} : ByteArray)) ∧ (({data := #[53]} : ByteArray)) = (({data := #[53]} : ByteArray)) ∧ (({data := #[56]} : ByteArray)) = (({data := #[56]} : ByteArray))) (Gd.yes rfl rfl (decide_eq_true (by decide))) rfl rfl (eq_api_Line _ _ _ _ _ _) ?_
  refine o_pickT (b := decide ((0) = (0))) (bp ((({data := #[57]} : ByteArray)) = (({data := #[57]} : ByteArray)) ∧ (({data := #[53]} : ByteArray)) = (({data := #[53]} : ByteArray)) ∧ (({data := #[56]} : ByteArray)) = (({data := #[56]} : ByteArray)))) Gd.none rfl (decide_eq_true (by decide)) rfl ?_
  refine o_move (bp ((({data := #[57]} : ByteArray)) = (({data := #[57]} : ByteArray)) ∧ (({data := #[53]} : ByteArray)) = (({data := #[53]} : ByteArray)) ∧ (({data := #[56]} : ByteArray)) = (({data := #[56]} : ByteArray)))) Gd.none rfl ?_
  refine o_move (nm .i64 (0)) (Gd.yes rfl rfl (decide_eq_true ⟨rfl, rfl, rfl⟩)) rfl ?_
  refine n_eql (0) (0) (Gd.yes rfl rfl (decide_eq_true ⟨rfl, rfl, rfl⟩)) rfl rfl ?_
  refine o_pickT (b := decide ((({data := #[57]} : ByteArray)) = (({data := #[57]} : ByteArray)) ∧ (({data := #[53]} : ByteArray)) = (({data := #[53]} : ByteArray)) ∧ (({data := #[56]} : ByteArray)) = (({data := #[56]} : ByteArray)))) (bp ((0) = (0))) Gd.none rfl (decide_eq_true ⟨rfl, rfl, rfl⟩) rfl ?_
  refine o_move (bp ((0) = (0))) Gd.none rfl ?_
  refine o_move (AV.lit (.string (({data := #[51]} : ByteArray)))) (Gd.yes rfl rfl (decide_eq_true (by decide))) rfl ?_
  refine o_eqlS (a := (({data := #[51]} : ByteArray))) (c := (({data := #[51]} : ByteArray))) (Gd.yes rfl rfl (decide_eq_true (by decide))) rfl rfl ?_
  refine o_pickT (b := decide ((0) = (0))) (bp ((({data := #[51]} : ByteArray)).toList = (({data := #[51]} : ByteArray)).toList)) Gd.none rfl (decide_eq_true (by decide)) rfl ?_
  refine o_move (bp ((({data := #[51]} : ByteArray)).toList = (({data := #[51]} : ByteArray)).toList)) Gd.none rfl ?_
  refine o_move (AV.lit (.string (({data := #[56]} : ByteArray)))) (Gd.yes rfl rfl (decide_eq_true rfl)) rfl ?_
  refine o_eqlS (a := (({data := #[56]} : ByteArray))) (c := (({data := #[56]} : ByteArray))) (Gd.yes rfl rfl (decide_eq_true rfl)) rfl rfl ?_
  refine o_pickT (b := decide ((({data := #[51]} : ByteArray)).toList = (({data := #[51]} : ByteArray)).toList)) (bp ((({data := #[56]} : ByteArray)).toList = (({data := #[56]} : ByteArray)).toList)) Gd.none rfl (decide_eq_true rfl) rfl ?_
  refine o_move (bp ((({data := #[56]} : ByteArray)).toList = (({data := #[56]} : ByteArray)).toList)) Gd.none rfl ?_
  refine o_move (nm .i64 (0)) (Gd.yes rfl rfl (decide_eq_true rfl)) rfl ?_
  refine n_eql (0) (0) (Gd.yes rfl rfl (decide_eq_true rfl)) rfl rfl ?_
  refine o_pickT (b := decide ((({data := #[56]} : ByteArray)).toList = (({data := #[56]} : ByteArray)).toList)) (bp ((0) = (0))) Gd.none rfl (decide_eq_true rfl) rfl ?_
  refine o_move (bp ((0) = (0))) Gd.none rfl ?_
  refine o_move (AV.sl 1 (is .i64 ([1, 1, 1, 0]))) (Gd.yes rfl rfl (decide_eq_true (by decide))) rfl ?_
  refine o_buildSlice 6 (ns .i64 ([1, 1, 1, 0])) [(0, [(nm .i64 (1))]), (1, [(nm .i64 (1))]), (2, [(nm .i64 (1))]), (3, [(nm .i64 (0))])] (Gd.yes rfl rfl (decide_eq_true (by decide))) Xd_tE22 rfl Xd_tO3 rfl rfl rfl rfl rfl rfl rfl ?_
  refine o_callG [(6, 1, (ns .i64 ([1, 1, 1, 0])))] [(AV.sl 1 (is .i64 ([1, 1, 1, 0]))), (AV.sl 1 (ns .i64 ([1, 1, 1, 0])))] _ (bp ([1, 1, 1, 0] = [1, 1, 1, 0])) [(4, (AO.var 41 [(AV.lit (.string (({data := #[57]} : ByteArray)))), (AV.lit (.string (({data := #[53]} : ByteArray)))), (AV.lit (.string (({data := #[56]} : ByteArray))))])), (2, (AO.var 24 [(AV.lit (.int .i64 ((kinM 3 1).mod))), (AV.sl 1 (is .i64 ((kinM 3 1).mul))), (AV.sl 1 (is .i64 ((kinM 3 1).add)))]))] (Gd.yes rfl rfl (decide_eq_true (by decide))) Xd_tC19 rfl (And.intro ⟨_, rfl⟩ (trivial)) rfl rfl (LeL.cons (AV.le_refl _) (LeL.cons (AV.le_refl _) (LeL.nil))) (c_gAlike [1, 1, 1, 0] [1, 1, 1, 0]) rfl ?_
  refine o_pickT (b := decide ((0) = (0))) (bp ([1, 1, 1, 0] = [1, 1, 1, 0])) Gd.none rfl (decide_eq_true (by decide)) rfl ?_
  refine o_move (bp ([1, 1, 1, 0] = [1, 1, 1, 0])) Gd.none rfl ?_
  refine o_move (nm .i64 (0)) (Gd.yes rfl rfl (decide_eq_true rfl)) rfl ?_
  refine n_eql (0) (0) (Gd.yes rfl rfl (decide_eq_true rfl)) rfl rfl ?_
  refine o_pickT (b := decide ([1, 1, 1, 0] = [1, 1, 1, 0])) (bp ((0) = (0))) Gd.none rfl (decide_eq_true rfl) rfl ?_
  refine o_move (bp ((0) = (0))) Gd.none rfl ?_
  refine o_move (AV.lit (.string (({data := #[49, 51]} : ByteArray)))) (Gd.yes rfl rfl (decide_eq_true (by decide))) rfl ?_
  refine o_eqlS (a := (({data := #[49, 51]} : ByteArray))) (c := (({data := #[49, 51]} : ByteArray))) (Gd.yes rfl rfl (decide_eq_true (by decide))) rfl rfl ?_
  refine o_pickT (b := decide ((0) = (0))) (bp ((({data := #[49, 51]} : ByteArray)).toList = (({data := #[49, 51]} : ByteArray)).toList)) Gd.none rfl (decide_eq_true (by decide)) rfl ?_
  refine o_move (bp ((({data := #[49, 51]} : ByteArray)).toList = (({data := #[49, 51]} : ByteArray)).toList)) Gd.none rfl ?_
  refine o_move (AV.lit (.bool true)) (Gd.yes rfl rfl (decide_eq_true rfl)) rfl ?_
  refine o_pickT (b := decide ((({data := #[49, 51]} : ByteArray)).toList = (({data := #[49, 51]} : ByteArray)).toList)) (AV.lit (.bool true)) Gd.none rfl (decide_eq_true rfl) rfl ?_
  refine o_move (AV.lit (.bool true)) Gd.none rfl ?_
  refine o_move (nm .i64 (0)) (Gd.yes rfl rfl rfl) rfl ?_
  refine n_eql (0) (0) (Gd.yes rfl rfl rfl) rfl rfl ?_
  refine o_pickT (b := true) (bp ((0) = (0))) Gd.none rfl rfl rfl ?_
  refine o_move (bp ((0) = (0))) Gd.none rfl ?_
  refine o_move (AV.lit (.string (({data := #[]} : ByteArray)))) (Gd.yes rfl rfl (decide_eq_true (by decide))) rfl ?_
  refine o_eqlS (a := (({data := #[]} : ByteArray))) (c := (({data := #[]} : ByteArray))) (Gd.yes rfl rfl (decide_eq_true (by decide))) rfl rfl ?_
  refine o_pickT (b := decide ((0) = (0))) (bp ((({data := #[]} : ByteArray)).toList = (({data := #[]} : ByteArray)).toList)) Gd.none rfl (decide_eq_true (by decide)) rfl ?_
  refine o_move (bp ((({data := #[]} : ByteArray)).toList = (({data := #[]} : ByteArray)).toList)) Gd.none rfl ?_
  refine o_move (AV.lit (.bool false)) (Gd.yes rfl rfl (decide_eq_true rfl)) rfl ?_
  refine o_not (b := false) (Gd.yes rfl rfl (decide_eq_true rfl)) rfl ?_
  refine o_pickT (b := decide ((({data := #[]} : ByteArray)).toList = (({data := #[]} : ByteArray)).toList)) (AV.lit (.bool true)) Gd.none rfl (decide_eq_true rfl) rfl ?_
  refine o_assign (AV.lit (.bool true)) Gd.none rfl ?_
  refine aops_end ?_
  refine hK7 _ ?_
  refine awp_ret ?_
  refine post_ret ⟨[(AV.lit (.bool true))], And.intro (AV.le_refl _) (trivial), rfl, ?_⟩
  first | rfl | simp [bp]

end Go.Proofs.YtbilndahjkimkaaDoor

set_option linter.unusedVariables false
set_option linter.unusedSimpArgs false
namespace Go.Mth
open Go.Ab
theorem fit_of_pow' {z : Int} {k : Nat} (h : z.natAbs < 10 ^ k) (hk : k ≤ 2000) (h1 : 1 ≤ k) : Fit z := fit_of_pow h hk h1
theorem ten2 (k : Nat) : (100 : Nat) ^ k = 10 ^ (2 * k) := by rw [Nat.pow_mul]
theorem mod_pow_lt {m : MapM} (hm : OkM m) (k : Nat) : (m.mod ^ k).natAbs < 10 ^ (2 * k + 1) := by
  obtain ⟨o1, o2, _⟩ := hm
  rw [Int.natAbs_pow]
  have h1 : m.mod.natAbs ^ k ≤ 100 ^ k := Nat.pow_le_pow_left (by omega) k
  have h2 : (10 : Nat) ^ (2 * k) < 10 ^ (2 * k + 1) := Nat.pow_lt_pow_right (by decide) (by omega)
  rw [ten2] at h1
  omega
theorem mod_pow_fit {m : MapM} (hm : OkM m) {k : Nat} (hk : k ≤ 200) : Fit (m.mod ^ k) := fit_of_pow' (mod_pow_lt hm k) (by omega) (by omega)
end Go.Mth

set_option linter.unusedVariables false
set_option linter.unusedSimpArgs false
namespace Go.Proofs.YtbilndahjkimkaaDoor
open Go Go.Ab Go.Mth
end Go.Proofs.YtbilndahjkimkaaDoor

set_option linter.unusedVariables false
set_option linter.unusedSimpArgs false
namespace Go.Proofs.YtbilndahjkimkaaDoor
open Go Go.Ab Go.Mth
end Go.Proofs.YtbilndahjkimkaaDoor

set_option linter.unusedVariables false
set_option linter.unusedSimpArgs false
namespace Go.Proofs.YtbilndahjkimkaaDoor
open Go Go.Ab Go.Mth
end Go.Proofs.YtbilndahjkimkaaDoor

set_option linter.unusedVariables false
set_option linter.unusedSimpArgs false
namespace Go.Proofs.YtbilndahjkimkaaDoor
open Go Go.Ab Go.Mth
end Go.Proofs.YtbilndahjkimkaaDoor

set_option linter.unusedVariables false
set_option linter.unusedSimpArgs false
namespace Go.Proofs.YtbilndahjkimkaaDoor
open Go Go.Ab Go.Mth
theorem Xf1_tA24 : tyAgg cx.P 24 = some 3 := by kernel_rfl
theorem Xf1_tC14 : callable cx.P 14 = true := by kernel_rfl
theorem Xf1_tC16 : callable cx.P 16 = true := by kernel_rfl
theorem Xf1_tC22 : callable cx.P 22 = true := by kernel_rfl
theorem Xf1_tC20 : callable cx.P 20 = true := by kernel_rfl
theorem Xf1_tO41 : tyZero cx.P 41 = some [(Go.Value.string {data := #[]}), (Go.Value.string {data := #[]}), (Go.Value.string {data := #[]})] := by kernel_rfl
theorem Xf1_tZ41 : tySize cx.P 41 = some 3 := by kernel_rfl
theorem Xf1_tC38 : callable cx.P 38 = true := by kernel_rfl
theorem Xf1_tO36 : tyZero cx.P 36 = some [(Go.Value.bool false), (Go.Value.slice none 0 0)] := by kernel_rfl
theorem Xf1_tZ36 : tySize cx.P 36 = some 2 := by kernel_rfl
theorem Xf1_tU22 : cx.P.underlying 22 = some (.slice 3) := by kernel_rfl
theorem Xf1_tA36 : tyAgg cx.P 36 = some 2 := by kernel_rfl
theorem Xf1_tF24_1 : tyField cx.P 24 1 = some (1, 22) := by kernel_rfl
theorem Xf1_tS22 : tySc cx.P 22 = true := by kernel_rfl
theorem Xf1_tE22 : tyElem cx.P 22 = some (3, 1, 8) := by kernel_rfl
theorem Xf1_tS3 : tySc cx.P 3 = true := by kernel_rfl
theorem Xf1_tC37 : callable cx.P 37 = true := by kernel_rfl
theorem Xf1_tF24_0 : tyField cx.P 24 0 = some (0, 3) := by kernel_rfl
theorem Xf1_tF41_0 : tyField cx.P 41 0 = some (0, 9) := by kernel_rfl
theorem Xf1_tS9 : tySc cx.P 9 = true := by kernel_rfl
theorem Xf1_tC27 : callable cx.P 27 = true := by kernel_rfl
theorem Xf1_tF41_2 : tyField cx.P 41 2 = some (2, 9) := by kernel_rfl
theorem c_WordPowers (m : MapM) (w : List Int) (hwl : w.length ≤ 17592186044416) : ECalls cx 8 [(mapV m), (AV.sl 1 (is .i64 (w)))] (.lit (.bool true)) := by
  refine ecalls_of_awp Tryd.func8 (c := _) rfl (Nat.le_of_ble_eq_true rfl) ?_
  show awp cx 69 _ (postF cx Tryd.f8 _) ⟨[(0, (mapV m)), (1, (AV.sl 1 (is .i64 (w))))], []⟩
  refine awp_seq fun K0 hK0 => ?_
  refine awp_region rfl ?_
  refine o_box 2 [(AV.lit (.int .i64 (m.mod))), (AV.sl 1 (is .i64 (m.mul))), (AV.sl 1 (is .i64 (m.add)))] Gd.none rfl rfl ?_
  refine o_assign (AV.lit (.bool false)) Gd.none rfl ?_
  refine aops_end ?_
  refine hK0 _ ?_
  refine awp_seq fun K1 hK1 => ?_
  refine awp_seq fun K2 hK2 => ?_
  refine awp_region rfl ?_
  refine o_loadA [(AV.lit (.int .i64 (m.mod))), (AV.sl 1 (is .i64 (m.mul))), (AV.sl 1 (is .i64 (m.add)))] Gd.none Xf1_tA24 rfl rfl rfl rfl rfl ?_
  refine o_call [(AV.agg [(AV.lit (.int .i64 (m.mod))), (AV.sl 1 (is .i64 (m.mul))), (AV.sl 1 (is .i64 (m.add)))])] (AV.lit (.bool (okM m))) Gd.none Xf1_tC14 rfl (c_gValid m) ?_
  refine o_not (b := okM m) Gd.none rfl ?_
  refine o_move (AV.lit (.bool (!(okM m)))) Gd.none rfl ?_
  refine o_split (b := !(okM m)) 13 rfl (fun h1 => ?_) (fun h1 => ?_)
  · have hm' : ¬ okM m = true := by simpa using h1
    refine o_skip (b := !(okM m)) rfl rfl h1 ?_
    refine o_skip (b := !(okM m)) rfl rfl h1 ?_
    refine o_skip (b := !(okM m)) rfl rfl h1 ?_
    refine o_skip (b := !(okM m)) rfl rfl h1 ?_
    refine o_pickT (b := !(okM m)) (AV.lit (.bool true)) Gd.none rfl h1 rfl ?_
    refine aops_end ?_
    refine hK2 _ ?_
    refine awp_condB (b := true) rfl (fun _ => ?_) (fun hh => absurd (hh.symm.trans rfl) (by decide))
    refine awp_seq fun K3 hK3 => ?_
    refine awp_region rfl ?_
    refine o_call [] (AV.lit (.bool true)) Gd.none Xf1_tC16 rfl c_l3Awake ?_
    refine o_assign (AV.lit (.bool true)) Gd.none rfl ?_
    refine aops_end ?_
    refine hK3 _ ?_
    refine awp_ret ?_
    refine post_ret ⟨[(AV.lit (.bool true))], And.intro (AV.le_refl _) (trivial), rfl, ?_⟩
    first | rfl | simp [bp]
  · have hm' : okM m = true := by simpa using h1
    have hM := okM_iff.1 hm'
    have hM2 := hM
    obtain ⟨o1, o2, o3, o4, o5⟩ := hM2
    refine o_loadA [(AV.lit (.int .i64 (m.mod))), (AV.sl 1 (is .i64 (m.mul))), (AV.sl 1 (is .i64 (m.add)))] (Gd.yes rfl rfl h1) Xf1_tA24 rfl rfl rfl rfl rfl ?_
    refine o_move (AV.sl 1 (is .i64 (w))) (Gd.yes rfl rfl h1) rfl ?_
    refine o_call [(AV.agg [(AV.lit (.int .i64 (m.mod))), (AV.sl 1 (is .i64 (m.mul))), (AV.sl 1 (is .i64 (m.add)))]), (AV.sl 1 (is .i64 (w)))] (bp (OkW m (w))) (Gd.yes rfl rfl h1) Xf1_tC22 rfl (c_vIs m (w) (by omega)) ?_
    refine o_notP (q := OkW m (w)) (Gd.yes rfl rfl h1) rfl ?_
    refine o_pickF (b := !(okM m)) (bp (¬ (OkW m (w)))) Gd.none rfl h1 rfl ?_
    refine aops_end ?_
    refine hK2 _ ?_
    refine awp_condQ (q := ¬ (OkW m (w))) rfl (fun h2 => ?_) (fun h2 => ?_)
    · refine awp_seq fun K4 hK4 => ?_
      refine awp_region rfl ?_
      refine o_call [] (AV.lit (.bool true)) Gd.none Xf1_tC16 rfl c_l3Awake ?_
      refine o_assign (AV.lit (.bool true)) Gd.none rfl ?_
      refine aops_end ?_
      refine hK4 _ ?_
      refine awp_ret ?_
      refine post_ret ⟨[(AV.lit (.bool true))], And.intro (AV.le_refl _) (trivial), rfl, ?_⟩
      first | rfl | simp [bp]
    · have hW : OkW m w := Decidable.not_not.1 h2
      have e := line_0 hm' hW
      have hWl := hW.2
      refine awp_skip ?_
      refine hK1 _ ?_
      refine awp_seq fun K5 hK5 => ?_
      refine awp_region rfl ?_
      refine o_loadA [(AV.lit (.int .i64 (m.mod))), (AV.sl 1 (is .i64 (m.mul))), (AV.sl 1 (is .i64 (m.add)))] Gd.none Xf1_tA24 rfl rfl rfl rfl rfl ?_
      refine o_move (AV.sl 1 (is .i64 (w))) Gd.none rfl ?_
      refine o_call [(AV.agg [(AV.lit (.int .i64 (m.mod))), (AV.sl 1 (is .i64 (m.mul))), (AV.sl 1 (is .i64 (m.add)))]), (AV.sl 1 (is .i64 (w)))] (AV.tup [(AV.agg [(AV.lit (.string ((lineS m (w)).mul))), (AV.lit (.string ((lineS m (w)).add))), (AV.lit (.string ((lineS m (w)).div)))]), (nm .i64 (lineE m (w)))]) Gd.none Xf1_tC20 rfl (c_oLine m (w) (by omega)) ?_
      refine o_move (AV.tup [(AV.agg [(AV.lit (.string ((lineS m (w)).mul))), (AV.lit (.string ((lineS m (w)).add))), (AV.lit (.string ((lineS m (w)).div)))]), (nm .i64 (lineE m (w)))]) Gd.none rfl ?_
      refine o_extract (AV.agg [(AV.lit (.string ((lineS m (w)).mul))), (AV.lit (.string ((lineS m (w)).add))), (AV.lit (.string ((lineS m (w)).div)))]) Gd.none rfl rfl ?_
      refine o_extract (nm .i64 (lineE m (w))) Gd.none rfl rfl ?_
      refine o_alloc 3 [(AV.lit (.string (({data := #[]} : ByteArray)))), (AV.lit (.string (({data := #[]} : ByteArray)))), (AV.lit (.string (({data := #[]} : ByteArray))))] Gd.none Xf1_tO41 rfl rfl rfl ?_
      refine o_store [(3, (AO.var 41 [(AV.lit (.string ((lineS m (w)).mul))), (AV.lit (.string ((lineS m (w)).add))), (AV.lit (.string ((lineS m (w)).div)))])), (2, (AO.var 24 [(AV.lit (.int .i64 (m.mod))), (AV.sl 1 (is .i64 (m.mul))), (AV.sl 1 (is .i64 (m.add)))]))] Gd.none Xf1_tZ41 rfl rfl rfl rfl rfl rfl ?_
      refine o_assign (nm .i64 (lineE m (w))) Gd.none rfl ?_
      refine aops_end ?_
      refine hK5 _ ?_
      refine awp_seq fun K6 hK6 => ?_
      refine awp_region rfl ?_
      refine o_call [(nm .i64 (1))] (intR ((1 : Int))) Gd.none Xf1_tC38 rfl (c_rOf ((1 : Int)) (by first | decide | omega) (by first | decide | omega)) ?_
      refine o_call [(nm .i64 (1))] (intR ((1 : Int))) Gd.none Xf1_tC38 rfl (c_rOf ((1 : Int)) (by first | decide | omega) (by first | decide | omega)) ?_
      refine o_alloc 4 [(AV.lit (.bool false)), (AV.lit (.slice none 0 0))] Gd.none Xf1_tO36 rfl rfl rfl ?_
      refine o_alloc 5 [(AV.lit (.bool false)), (AV.lit (.slice none 0 0))] Gd.none Xf1_tO36 rfl rfl rfl ?_
      refine o_store [(5, (AO.var 36 [(AV.lit (.bool false)), (AV.lit (.slice none 0 0))])), (4, (AO.var 36 [(bp ((1 : Int) < 0)), (AV.sl 1 (ns .i64 (digs ((1 : Int)).natAbs)))])), (3, (AO.var 41 [(AV.lit (.string ((lineS m (w)).mul))), (AV.lit (.string ((lineS m (w)).add))), (AV.lit (.string ((lineS m (w)).div)))])), (2, (AO.var 24 [(AV.lit (.int .i64 (m.mod))), (AV.sl 1 (is .i64 (m.mul))), (AV.sl 1 (is .i64 (m.add)))]))] Gd.none Xf1_tZ36 rfl rfl rfl rfl rfl rfl ?_
      refine o_store [(5, (AO.var 36 [(bp ((1 : Int) < 0)), (AV.sl 1 (ns .i64 (digs ((1 : Int)).natAbs)))])), (4, (AO.var 36 [(bp ((1 : Int) < 0)), (AV.sl 1 (ns .i64 (digs ((1 : Int)).natAbs)))])), (3, (AO.var 41 [(AV.lit (.string ((lineS m (w)).mul))), (AV.lit (.string ((lineS m (w)).add))), (AV.lit (.string ((lineS m (w)).div)))])), (2, (AO.var 24 [(AV.lit (.int .i64 (m.mod))), (AV.sl 1 (is .i64 (m.mul))), (AV.sl 1 (is .i64 (m.add)))]))] Gd.none Xf1_tZ36 rfl rfl rfl rfl rfl rfl ?_
      refine aops_end ?_
      refine hK6 _ ?_
      refine awp_seq fun K7 hK7 => ?_
      refine awp_seq fun K8 hK8 => ?_
      refine awp_region rfl ?_
      refine o_assign (nm .i64 (0)) Gd.none rfl ?_
      refine aops_end ?_
      refine hK8 _ ?_
      refine awp_block ?_
      refine awp_loopR (fun κ σ => ∃ (i : Nat), ∃ (P : Int), (i ≤ w.length) ∧ (P = (lineZ m (w.take i)).mul) ∧ (w.length - i) = κ ∧ σ = ⟨[(1, (AV.sl 1 (is .i64 (w)))), (2, (AV.ref 2 (0))), (5, (AV.ref 3 (0))), (6, (nm .i64 (lineE m (w)))), (7, (AV.ref 4 (0))), (8, (AV.ref 5 (0))), (9, (nm .i64 (i)))], [(2, (AO.var 24 [(AV.lit (.int .i64 (m.mod))), (AV.sl 1 (is .i64 (m.mul))), (AV.sl 1 (is .i64 (m.add)))])), (3, (AO.var 41 [(AV.lit (.string ((lineS m (w)).mul))), (AV.lit (.string ((lineS m (w)).add))), (AV.lit (.string ((lineS m (w)).div)))])), (4, (AO.var 36 [(bp (P < 0)), (AV.sl 1 (ns .i64 (digs (P).natAbs)))])), (5, (AO.var 36 [(bp ((m.mod ^ i) < 0)), (AV.sl 1 (ns .i64 (digs ((m.mod ^ i)).natAbs)))]))]⟩) ⟨_, _, ⟨0, 1, (by omega), rfl, rfl, rfl⟩, ?wk0⟩ ?rd0
      case wk0 =>
        exact Wk.sub (And.intro (by exact rfl) (And.intro (by exact rfl) (And.intro (by exact rfl) (And.intro (by exact rfl) (And.intro (by exact rfl) (And.intro (by exact rfl) (And.intro (by first | rfl | exact congrArg (nm _) (by omega) | exact nm_int (by omega) | exact nm_int (by simp [IntKind.wrap, IntKind.bits, IntKind.signed]; omega)) (trivial)))))))) (And.intro (by first | rfl | exact row_ns (by simp) | exact congrArg (fun x => some (AO.blk (.stringIter _ x))) (by omega) | (first | (simp only [Int.pow_zero, Int.pow_succ]; rfl) | (rw [← lineZ_next h3]; show some (AO.var _ [bp (_ * _ < 0), _]) = some (AO.var _ [bp (_ * _ < 0), _]); simp only [Int.mul_comm]; rfl))) (And.intro (by first | rfl | exact row_ns (by simp) | exact congrArg (fun x => some (AO.blk (.stringIter _ x))) (by omega) | (first | (simp only [Int.pow_zero, Int.pow_succ]; rfl) | (rw [← lineZ_next h3]; show some (AO.var _ [bp (_ * _ < 0), _]) = some (AO.var _ [bp (_ * _ < 0), _]); simp only [Int.mul_comm]; rfl))) (And.intro (by first | rfl | exact row_ns (by simp) | exact congrArg (fun x => some (AO.blk (.stringIter _ x))) (by omega) | (first | (simp only [Int.pow_zero, Int.pow_succ]; rfl) | (rw [← lineZ_next h3]; show some (AO.var _ [bp (_ * _ < 0), _]) = some (AO.var _ [bp (_ * _ < 0), _]); simp only [Int.mul_comm]; rfl))) (And.intro (by first | rfl | exact row_ns (by simp) | exact congrArg (fun x => some (AO.blk (.stringIter _ x))) (by omega) | (first | (simp only [Int.pow_zero, Int.pow_succ]; rfl) | (rw [← lineZ_next h3]; show some (AO.var _ [bp (_ * _ < 0), _]) = some (AO.var _ [bp (_ * _ < 0), _]); simp only [Int.mul_comm]; rfl))) (trivial)))))
      rintro κ _ ⟨i, P, hi, hP, rfl, rfl⟩
      obtain ⟨L1, L2, L3⟩ := line_len hM (w.take i) (isW_take hW.1 i)
      have L4 : (w.take i).length = i := by rw [List.length_take]; omega
      have L5 := fit_len (mod_pow_fit hM (k := i) (by omega))
      rw [← hP] at L1
      refine awp_seq fun K9 hK9 => ?_
      refine awp_seq fun K10 hK10 => ?_
      refine awp_region rfl ?_
      refine o_move (nm .i64 (i)) Gd.none rfl ?_
      refine o_move (AV.sl 1 (is .i64 (w))) Gd.none rfl ?_
      refine i_len (w) Gd.none Xf1_tU22 rfl ?_
      refine n_lss (i) ((w).length) Gd.none rfl rfl ?_
      refine aops_end ?_
      refine hK10 _ ?_
      refine awp_condQ (q := (i) < ((w).length)) rfl (fun h3 => ?_) (fun h3 => ?_)
      · have hwi := isW_get hW.1 h3
        have hor := o5 ((w).getD (i) 0).toNat (by omega)
        have hq1 := small_len (z := (m.mul).getD (((w).getD (i) 0).toNat) 0) (by omega)
        have hd1 := small_len (z := m.mod) (by omega)
        refine awp_skip ?_
        refine hK9 _ ?_
        refine awp_seq fun K11 hK11 => ?_
        refine awp_block ?_
        refine awp_seq fun K12 hK12 => ?_
        refine awp_regionD rfl ?_
        refine o_loadA [(bp (P < 0)), (AV.sl 1 (ns .i64 (digs (P).natAbs)))] Gd.none Xf1_tA36 rfl rfl rfl rfl rfl ?_
        refine o_fieldRef 1 Gd.none Xf1_tF24_1 rfl rfl ?_
        refine o_loadS (AV.sl 1 (is .i64 (m.mul))) Gd.none Xf1_tS22 rfl rfl rfl ?_
        refine o_move (AV.sl 1 (is .i64 (w))) Gd.none rfl ?_
        refine o_move (nm .i64 (i)) Gd.none rfl ?_
        refine i_index (w) (i) Gd.none Xf1_tE22 rfl rfl (by omega) ?_
        refine i_loadI (w) (i) Gd.none Xf1_tS3 rfl (by omega) ?_
        refine n_as (v' := (nm .i64 (((w).getD (i) 0).toNat))) (nm_int (by omega)) ?_
        refine i_index (m.mul) (((w).getD (i) 0).toNat) Gd.none Xf1_tE22 rfl rfl (by omega) ?_
        refine i_loadI (m.mul) (((w).getD (i) 0).toNat) Gd.none Xf1_tS3 rfl (by omega) ?_
        refine o_call [(AV.lit (.int .i64 ((m.mul).getD (((w).getD (i) 0).toNat) 0)))] (intR ((m.mul).getD (((w).getD (i) 0).toNat) 0)) Gd.none Xf1_tC38 rfl (c_rOf ((m.mul).getD (((w).getD (i) 0).toNat) 0) (by first | decide | omega) (by first | decide | omega)) ?_
        refine o_call [(AV.agg [(bp (P < 0)), (AV.sl 1 (ns .i64 (digs (P).natAbs)))]), (intR ((m.mul).getD (((w).getD (i) 0).toNat) 0))] (intR ((P * (m.mul).getD (((w).getD (i) 0).toNat) 0))) Gd.none Xf1_tC37 rfl (c_rMul (P) ((m.mul).getD (((w).getD (i) 0).toNat) 0) (by first | assumption | omega | (simp only [Int.natAbs_neg]; omega)) (by first | assumption | omega | (simp only [Int.natAbs_neg]; omega))) ?_
        refine o_store [(2, (AO.var 24 [(AV.lit (.int .i64 (m.mod))), (AV.sl 1 (is .i64 (m.mul))), (AV.sl 1 (is .i64 (m.add)))])), (3, (AO.var 41 [(AV.lit (.string ((lineS m (w)).mul))), (AV.lit (.string ((lineS m (w)).add))), (AV.lit (.string ((lineS m (w)).div)))])), (4, (AO.var 36 [(bp ((P * (m.mul).getD (((w).getD (i) 0).toNat) 0) < 0)), (AV.sl 1 (ns .i64 (digs ((P * (m.mul).getD (((w).getD (i) 0).toNat) 0)).natAbs)))])), (5, (AO.var 36 [(bp ((m.mod ^ i) < 0)), (AV.sl 1 (ns .i64 (digs ((m.mod ^ i)).natAbs)))]))] Gd.none Xf1_tZ36 rfl rfl rfl rfl rfl rfl ?_
        refine aops_end ⟨by kernel_rfl, ?_⟩
        refine hK12 _ ?_
        refine awp_regionD rfl ?_
        refine o_loadA [(bp ((m.mod ^ i) < 0)), (AV.sl 1 (ns .i64 (digs ((m.mod ^ i)).natAbs)))] Gd.none Xf1_tA36 rfl rfl rfl rfl rfl ?_
        refine o_fieldRef 0 Gd.none Xf1_tF24_0 rfl rfl ?_
        refine o_loadS (AV.lit (.int .i64 (m.mod))) Gd.none Xf1_tS3 rfl rfl rfl ?_
        refine o_call [(AV.lit (.int .i64 (m.mod)))] (intR ((m.mod))) Gd.none Xf1_tC38 rfl (c_rOf (m.mod) (by first | decide | omega) (by first | decide | omega)) ?_
        refine o_call [(AV.agg [(bp ((m.mod ^ i) < 0)), (AV.sl 1 (ns .i64 (digs ((m.mod ^ i)).natAbs)))]), (intR ((m.mod)))] (intR (((m.mod ^ i) * (m.mod)))) Gd.none Xf1_tC37 rfl (c_rMul ((m.mod ^ i)) ((m.mod)) (by first | assumption | omega | (simp only [Int.natAbs_neg]; omega)) (by first | assumption | omega | (simp only [Int.natAbs_neg]; omega))) ?_
        refine o_store [(2, (AO.var 24 [(AV.lit (.int .i64 (m.mod))), (AV.sl 1 (is .i64 (m.mul))), (AV.sl 1 (is .i64 (m.add)))])), (3, (AO.var 41 [(AV.lit (.string ((lineS m (w)).mul))), (AV.lit (.string ((lineS m (w)).add))), (AV.lit (.string ((lineS m (w)).div)))])), (4, (AO.var 36 [(bp ((P * (m.mul).getD (((w).getD (i) 0).toNat) 0) < 0)), (AV.sl 1 (ns .i64 (digs ((P * (m.mul).getD (((w).getD (i) 0).toNat) 0)).natAbs)))])), (5, (AO.var 36 [(bp (((m.mod ^ i) * (m.mod)) < 0)), (AV.sl 1 (ns .i64 (digs (((m.mod ^ i) * (m.mod))).natAbs)))]))] Gd.none Xf1_tZ36 rfl rfl rfl rfl rfl rfl ?_
        refine aops_end ⟨by kernel_rfl, ?_⟩
        refine hK11 _ ?_
        refine awp_region rfl ?_
        refine o_move (nm .i64 (i)) Gd.none rfl ?_
        refine n_add (i) (1) Gd.none rfl rfl (by simp only [topOf]; omega) ?_
        refine o_assign (nm .i64 ((i) + (1))) Gd.none rfl ?_
        refine aops_end ?_
        refine ⟨_, _, ?lt, ⟨i + 1, (P * (m.mul).getD (((w).getD (i) 0).toNat) 0), (by omega), (by rw [← lineZ_next h3, hP, Int.mul_comm]; rfl), rfl, rfl⟩, ?wk⟩
        case lt => omega
        case wk => exact Wk.sub (And.intro (by exact rfl) (And.intro (by exact rfl) (And.intro (by exact rfl) (And.intro (by exact rfl) (And.intro (by exact rfl) (And.intro (by exact rfl) (And.intro (by first | rfl | exact congrArg (nm _) (by omega) | exact nm_int (by omega) | exact nm_int (by simp [IntKind.wrap, IntKind.bits, IntKind.signed]; omega)) (trivial)))))))) (And.intro (by first | rfl | exact row_ns (by simp) | exact congrArg (fun x => some (AO.blk (.stringIter _ x))) (by omega) | (first | (simp only [Int.pow_zero, Int.pow_succ]; rfl) | (rw [← lineZ_next h3]; show some (AO.var _ [bp (_ * _ < 0), _]) = some (AO.var _ [bp (_ * _ < 0), _]); simp only [Int.mul_comm]; rfl))) (And.intro (by first | rfl | exact row_ns (by simp) | exact congrArg (fun x => some (AO.blk (.stringIter _ x))) (by omega) | (first | (simp only [Int.pow_zero, Int.pow_succ]; rfl) | (rw [← lineZ_next h3]; show some (AO.var _ [bp (_ * _ < 0), _]) = some (AO.var _ [bp (_ * _ < 0), _]); simp only [Int.mul_comm]; rfl))) (And.intro (by first | rfl | exact row_ns (by simp) | exact congrArg (fun x => some (AO.blk (.stringIter _ x))) (by omega) | (first | (simp only [Int.pow_zero, Int.pow_succ]; rfl) | (rw [← lineZ_next h3]; show some (AO.var _ [bp (_ * _ < 0), _]) = some (AO.var _ [bp (_ * _ < 0), _]); simp only [Int.mul_comm]; rfl))) (And.intro (by first | rfl | exact row_ns (by simp) | exact congrArg (fun x => some (AO.blk (.stringIter _ x))) (by omega) | (first | (simp only [Int.pow_zero, Int.pow_succ]; rfl) | (rw [← lineZ_next h3]; show some (AO.var _ [bp (_ * _ < 0), _]) = some (AO.var _ [bp (_ * _ < 0), _]); simp only [Int.mul_comm]; rfl))) (trivial)))))
      · refine awp_exit ?_
        refine hK7 _ ?_
        refine awp_seq fun K13 hK13 => ?_
        refine awp_regionD rfl ?_
        refine o_move (nm .i64 (lineE m (w))) Gd.none rfl ?_
        refine n_as (v' := (nm .i64 (0))) (by rw [e.1]) ?_
        refine n_eql (0) (0) Gd.none rfl rfl ?_
        refine o_move (bp ((0) = (0))) Gd.none rfl ?_
        refine o_fieldRef 0 (Gd.yes rfl rfl (decide_eq_true (by decide))) Xf1_tF41_0 rfl rfl ?_
        refine o_loadS (AV.lit (.string ((lineS m (w)).mul))) (Gd.yes rfl rfl (decide_eq_true (by decide))) Xf1_tS9 rfl rfl rfl ?_
        refine n_as (v' := (AV.lit (.string (txt (P))))) (by rw [e.2, hP, List.take_of_length_le (by omega)]; rfl) ?_
        refine o_loadA [(bp (P < 0)), (AV.sl 1 (ns .i64 (digs (P).natAbs)))] (Gd.yes rfl rfl (decide_eq_true (by decide))) Xf1_tA36 rfl rfl rfl rfl rfl ?_
        refine o_call [(AV.agg [(bp (P < 0)), (AV.sl 1 (ns .i64 (digs (P).natAbs)))])] (AV.lit (.string (txt (P)))) (Gd.yes rfl rfl (decide_eq_true (by decide))) Xf1_tC27 rfl (c_rText (P) (by first | assumption | omega | (simp only [Int.natAbs_neg]; omega))) ?_
        refine o_eqlS (a := (txt (P))) (c := (txt (P))) (Gd.yes rfl rfl (decide_eq_true (by decide))) rfl rfl ?_
        refine o_pickT (b := decide ((0) = (0))) (bp ((txt (P)).toList = (txt (P)).toList)) Gd.none rfl (decide_eq_true (by decide)) rfl ?_
        refine o_move (bp ((txt (P)).toList = (txt (P)).toList)) Gd.none rfl ?_
        refine o_fieldRef 2 (Gd.yes rfl rfl (decide_eq_true rfl)) Xf1_tF41_2 rfl rfl ?_
        refine o_loadS (AV.lit (.string ((lineS m (w)).div))) (Gd.yes rfl rfl (decide_eq_true rfl)) Xf1_tS9 rfl rfl rfl ?_
        refine n_as (v' := (AV.lit (.string (txt ((m.mod ^ i)))))) (by rw [e.2, show i = w.length by omega, ← lineZ_div]; rfl) ?_
        refine o_loadA [(bp ((m.mod ^ i) < 0)), (AV.sl 1 (ns .i64 (digs ((m.mod ^ i)).natAbs)))] (Gd.yes rfl rfl (decide_eq_true rfl)) Xf1_tA36 rfl rfl rfl rfl rfl ?_
        refine o_call [(AV.agg [(bp ((m.mod ^ i) < 0)), (AV.sl 1 (ns .i64 (digs ((m.mod ^ i)).natAbs)))])] (AV.lit (.string (txt ((m.mod ^ i))))) (Gd.yes rfl rfl (decide_eq_true rfl)) Xf1_tC27 rfl (c_rText ((m.mod ^ i)) (by first | assumption | omega | (simp only [Int.natAbs_neg]; omega))) ?_
        refine o_eqlS (a := (txt ((m.mod ^ i)))) (c := (txt ((m.mod ^ i)))) (Gd.yes rfl rfl (decide_eq_true rfl)) rfl rfl ?_
        refine o_pickT (b := decide ((txt (P)).toList = (txt (P)).toList)) (bp ((txt ((m.mod ^ i))).toList = (txt ((m.mod ^ i))).toList)) Gd.none rfl (decide_eq_true rfl) rfl ?_
        refine o_move (bp ((txt ((m.mod ^ i))).toList = (txt ((m.mod ^ i))).toList)) Gd.none rfl ?_
        refine o_call [] (AV.lit (.bool true)) (Gd.yes rfl rfl (decide_eq_true rfl)) Xf1_tC16 rfl c_l3Awake ?_
        refine o_pickT (b := decide ((txt ((m.mod ^ i))).toList = (txt ((m.mod ^ i))).toList)) (AV.lit (.bool true)) Gd.none rfl (decide_eq_true rfl) rfl ?_
        refine o_assign (AV.lit (.bool true)) Gd.none rfl ?_
        refine aops_end ⟨by kernel_rfl, ?_⟩
        refine hK13 _ ?_
        refine awp_ret ?_
        refine post_ret ⟨[(AV.lit (.bool true))], And.intro (AV.le_refl _) (trivial), rfl, ?_⟩
        first | rfl | simp [bp]

end Go.Proofs.YtbilndahjkimkaaDoor

set_option linter.unusedVariables false
namespace Go.Proofs.YtbilndahjkimkaaDoor.wordPowers
open Go Go.Ab Go.Mth Go.ChangeShapes Go.WideShapes Go.ChangeAt Go.RowKit
theorem reads (os : Os) {H : Type} (enc : TypeId × Value → H) : ∃ places, DataW.whole enc Tryd.prog ((World.laidAll Tryd.prog os laid5).forCall (fun _ _ => 0) ⟨#[], #[.agg #[.int .i64 0, .slice none 0 0, .slice none 0 0], .slice none 0 0], []⟩).memory Tryd.f8.params.toList Rows.wordPowersSpec.vars false (#[.agg #[.int .i64 0, .slice none 0 0, .slice none 0 0], .slice none 0 0] : Array Value).toList 8 = some ([.agg [.lit (.int .i64 0), .nil, .nil], .nil], [], places) := ⟨[], by kernel_rfl⟩
theorem met (os : Os) : laidMetH Tryd.prog laid5 ((World.laidAll Tryd.prog os laid5).forCall (fun _ _ => 0) ⟨#[], #[.agg #[.int .i64 0, .slice none 0 0, .slice none 0 0], .slice none 0 0], []⟩).memory := (MakeChecks.laidMetH_plain _ _ _ (by kernel_rfl)).mpr (laidMet_laidAll _ (by kernel_rfl) (by kernel_rfl))
theorem specs {H : Type} (ds : List (DataW H)) (h : ds.length = 2) : (Rows.wordPowersSpec.fn H ds).results = [.lit (.bool true)] ∧ (Rows.wordPowersSpec.fn H ds).args = ds ∧ (Rows.wordPowersSpec.fn H ds).vars = [] := by
  rcases ds with _ | ⟨d0, _ | ⟨d1, _ | ⟨e, t⟩⟩⟩ <;> simp at h <;> exact ⟨rfl, rfl, rfl⟩
set_option maxRecDepth 100000 in
theorem opened {H : Type} (enc : TypeId × Value → H) (W : World) (base : Nat) (args : Array Value) (ds : List (DataW H)) (ps : List MemPlace) (hval : ∀ (j : Nat) t v, (#[24, 22] : Array TypeId)[j]? = some t → args[j]? = some v → Value.okWide Tryd.prog W .any base t v)
    (hA : DataW.TrodAll enc Tryd.prog W 0 (fun _ => true) true [24, 22] args.toList ds ps) (hsz : (DataW.weightsEach Tryd.prog [24, 22] ds).all (· ≤ reachBytes) = true) : ∃ xs, RepL (memOf W) xs noLoc args.toList ∧ ECalls cx 8 xs (.lit (.bool true)) := by
  obtain ⟨v0, vs0, d0, ds0, p0, q0, hargs, rfl, rfl, h0, r0⟩ := trodAll_cons hA
  obtain ⟨v1, vs1, d1, ds1, p1, q1, rfl, rfl, rfl, h1, r1⟩ := trodAll_cons r0
  obtain ⟨rfl, rfl, rfl⟩ := trodAll_nil r1
  obtain rfl : args = #[v0, v1] := by cases args; simp_all
  obtain ⟨m0, e0, b0, c0⟩ := rep_map (hval 0 24 v0 rfl rfl) h0 (fun n hn => by simpa using List.all_eq_true.1 hsz n (DataW.weights_mem_each (j := 0) rfl rfl n hn))
  obtain ⟨l1, e1, b1⟩ := rep_list (hval 1 22 v1 rfl rfl) h1 (fun n hn => by simpa using List.all_eq_true.1 hsz n (DataW.weights_mem_each (j := 1) rfl rfl n hn))
  exact ⟨[mapV m0, .sl 1 (is .i64 l1)], RepL.cons e0 (RepL.cons e1 (by simp only [RepL])), c_WordPowers m0 l1 b1⟩
set_option maxRecDepth 100000 in
theorem lifted (os : Os) (started : os.Started) (H : Type) (enc : TypeId × Value → H) (F : Stop.Interp) :
    ReturnsInHanded {} Tryd.checked os 8 .any ((OpenSpec.ofChange Rows.wordPowersSpec).preRow enc Tryd.prog Tryd.f8 Rows.wordPowersRow.domain false Rows.wordPowersRow.laid) (((OpenSpec.ofChange Rows.wordPowersSpec).at F).post enc Tryd.prog Tryd.f8 false true false false) := by
  obtain ⟨places, hx⟩ := reads os enc
  refine lifted_of (C := Tryd.checked) started cx rfl ownT (by kernel_rfl) Tryd.func8 (witness_laid #[.agg #[.int .i64 0, .slice none 0 0, .slice none 0 0], .slice none 0 0] (by kernel_rfl) (by kernel_rfl) (by kernel_rfl) (OpenSpec.preRow_of_cond 8 hx (by kernel_rfl) (fun k hk => by cases hk) (by kernel_rfl) (met os))) laidOutT (by kernel_rfl) (tb := 4) (by kernel_rfl) u4T rfl (fun ds h => specs ds (h.trans (by kernel_rfl))) (fun W h => tabG_of h) ?_
  intro W base args ds ps hval hA hsz
  exact opened enc W base args ds ps hval hA hsz
theorem said : Rows.WordPowersSaid :=
  OpenClaim.holds_of_cond 8 Tryd.f8 rfl rfl rfl rfl rfl rfl rfl ⟨rfl, rfl, rfl, rfl, rfl⟩ rfl rfl rfl rfl rfl (by kernel_rfl) Tryd.func8 (by kernel_rfl)
    (of_decide_eq_true (by kernel_rfl)) (by unfold Func.isWrapper; first | (rw [if_pos (by decide +kernel)]; kernel_rfl) | (rw [if_neg (by decide +kernel)]; exact ⟨rfl, rfl⟩))
    (fun os started H enc _ F => by rw [OpenClaim.pre_eq_preRow]; exact lifted os started H enc F)
theorem plain (f : FuncId) (fn : Func) (hf : Tryd.pinned.checked.prog.funcNamed "katabasis/katabasislaw03.WordPowers" = some f) (hfn : Tryd.pinned.checked.prog.funcs[f]? = some fn) :
    true = Tryd.pinned.checked.prog.looks [] ∧ ∀ (j : Nat) t, fn.params[j]? = some t → Tryd.pinned.checked.prog.wantsStandIn t = false := by
  obtain rfl : f = 8 := Option.some.inj ((show Tryd.prog.funcNamed "katabasis/katabasislaw03.WordPowers" = some 8 by kernel_rfl).symm.trans hf) |>.symm
  obtain rfl : fn = Tryd.f8 := (Option.some.inj (Tryd.func8.symm.trans hfn)).symm
  refine ⟨by kernel_rfl, fun j t ht => ?_⟩
  rw [Tryd.params8] at ht
  have : t = 24 ∨ t = 22 := by have h := Array.mem_of_getElem? ht; simp at h; first | exact h | (rcases h with h | h | h | h <;> simp [h]) | (rcases h with h | h | h <;> simp [h]) | (rcases h with h | h <;> simp [h])
  rcases this with rfl | rfl
  · exact (show Tryd.prog.wantsStandIn 24 = false by kernel_rfl)
  · exact (show Tryd.prog.wantsStandIn 22 = false by kernel_rfl)
end Go.Proofs.YtbilndahjkimkaaDoor.wordPowers
namespace Go.Proofs.YtbilndahjkimkaaDoor
open Go
theorem wordPowers_holds : Rows.WordPowersCardSaid :=
  Claim7.holds_tied_plain_at .later [] _ _ _ _ wordPowers.said (fun _ h => by cases h) (by kernel_rfl) (fun _ h => by cases h) wordPowers_row_tie rfl ⟨rfl, rfl⟩ (by kernel_rfl) rfl wordPowers.plain (by kernel_rfl)
#print axioms wordPowers_holds
end Go.Proofs.YtbilndahjkimkaaDoor

