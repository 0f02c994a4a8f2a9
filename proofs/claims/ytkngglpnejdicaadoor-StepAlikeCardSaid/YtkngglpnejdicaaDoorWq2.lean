import Derived.Test.YtkngglpnejdicaaDoorWo
import Derived.Test.YtkngglpnejdicaaDoorLc
set_option linter.unusedVariables false
set_option linter.unusedSimpArgs false
namespace Go.Proofs.YtkngglpnejdicaaDoor
open Go Go.Ab Go.Mth
theorem Wq2_tA24 : tyAgg cx.P 24 = some 3 := by kernel_rfl
theorem Wq2_tC21 : callable cx.P 21 = true := by kernel_rfl
theorem Wq2_tC22 : callable cx.P 22 = true := by kernel_rfl
theorem Wq2_tC29 : callable cx.P 29 = true := by kernel_rfl
theorem Wq2_tC24 : callable cx.P 24 = true := by kernel_rfl
theorem Wq2_tO36 : tyZero cx.P 36 = some [(Go.Value.bool false), (Go.Value.slice none 0 0)] := by kernel_rfl
theorem Wq2_tZ36 : tySize cx.P 36 = some 2 := by kernel_rfl
theorem Wq2_tA36 : tyAgg cx.P 36 = some 2 := by kernel_rfl
theorem Wq2_tF24_0 : tyField cx.P 24 0 = some (0, 3) := by kernel_rfl
theorem Wq2_tS3 : tySc cx.P 3 = true := by kernel_rfl
theorem Wq2_tC31 : callable cx.P 31 = true := by kernel_rfl
theorem Wq2_tC30 : callable cx.P 30 = true := by kernel_rfl
theorem Wq2_tC32 : callable cx.P 32 = true := by kernel_rfl
theorem Wq2_tC25 : callable cx.P 25 = true := by kernel_rfl
theorem Wq2_tC19 : callable cx.P 19 = true := by kernel_rfl
theorem Wq2_tC26 : callable cx.P 26 = true := by kernel_rfl
theorem Wq2_tU26 : cx.P.underlying 26 = some (.slice 9) := by kernel_rfl
theorem Wq2_tE26 : tyElem cx.P 26 = some (9, 1, 16) := by kernel_rfl
theorem Wq2_tS9 : tySc cx.P 9 = true := by kernel_rfl
theorem Wq2_tC33 : callable cx.P 33 = true := by kernel_rfl
theorem Wq2_tF24_1 : tyField cx.P 24 1 = some (1, 22) := by kernel_rfl
theorem Wq2_tS22 : tySc cx.P 22 = true := by kernel_rfl
theorem Wq2_tE22 : tyElem cx.P 22 = some (3, 1, 8) := by kernel_rfl
theorem Wq2_tC35 : callable cx.P 35 = true := by kernel_rfl
theorem Wq2_tC34 : callable cx.P 34 = true := by kernel_rfl
theorem c_StepAlike (m : MapM) (a b : ByteArray) (K : Int) (hsz : a.size ≤ 9223372036854775807) (hsb : b.size ≤ 9223372036854775807) : ECalls cx 5 [(mapV m), (AV.lit (.string (a))), (AV.lit (.string (b))), (AV.lit (.int .i64 (K)))] (.lit (.bool true)) := by
  refine ecalls_of_awp Tryd.func5 (c := _) rfl (Nat.le_of_ble_eq_true rfl) ?_
  show awp cx 189 _ (postF cx Tryd.f5 _) ⟨[(0, (mapV m)), (1, (AV.lit (.string (a)))), (2, (AV.lit (.string (b)))), (3, (AV.lit (.int .i64 (K))))], []⟩
  refine awp_seq fun K0 hK0 => ?_
  refine awp_region rfl ?_
  refine o_box 2 [(AV.lit (.int .i64 (m.mod))), (AV.sl 1 (is .i64 (m.mul))), (AV.sl 1 (is .i64 (m.add)))] Gd.none rfl rfl ?_
  refine o_assign (AV.lit (.bool false)) Gd.none rfl ?_
  refine aops_end ?_
  refine hK0 _ ?_
  refine awp_seq fun K1 hK1 => ?_
  refine awp_seq fun K2 hK2 => ?_
  refine awp_region rfl ?_
  refine o_loadA [(AV.lit (.int .i64 (m.mod))), (AV.sl 1 (is .i64 (m.mul))), (AV.sl 1 (is .i64 (m.add)))] Gd.none Wq2_tA24 rfl rfl rfl rfl rfl ?_
  refine o_move (AV.lit (.string (a))) Gd.none rfl ?_
  refine o_call [(AV.agg [(AV.lit (.int .i64 (m.mod))), (AV.sl 1 (is .i64 (m.mul))), (AV.sl 1 (is .i64 (m.add)))]), (AV.lit (.string (a)))] (AV.lit (.bool (okM m && okS (a)))) Gd.none Wq2_tC21 rfl (c_l2Formed m (a) (by first | assumption | omega)) ?_
  refine o_not (b := okM m && okS (a)) Gd.none rfl ?_
  refine o_move (AV.lit (.bool (!(okM m && okS (a))))) Gd.none rfl ?_
  refine o_split (b := !(okM m && okS (a))) 28 rfl (fun h1 => ?_) (fun h1 => ?_)
  · refine o_skip (b := !(okM m && okS (a))) rfl rfl h1 ?_
    refine o_skip (b := !(okM m && okS (a))) rfl rfl h1 ?_
    refine o_skip (b := !(okM m && okS (a))) rfl rfl h1 ?_
    refine o_pickT (b := !(okM m && okS (a))) (AV.lit (.bool true)) Gd.none rfl h1 rfl ?_
    refine o_move (AV.lit (.bool true)) Gd.none rfl ?_
    refine o_skip (b := true) rfl rfl rfl ?_
    refine o_skip (b := true) rfl rfl rfl ?_
    refine o_pickT (b := true) (AV.lit (.bool true)) Gd.none rfl rfl rfl ?_
    refine o_move (AV.lit (.bool true)) Gd.none rfl ?_
    refine o_skip (b := true) rfl rfl rfl ?_
    refine o_skip (b := true) rfl rfl rfl ?_
    refine o_pickT (b := true) (AV.lit (.bool true)) Gd.none rfl rfl rfl ?_
    refine aops_end ?_
    refine hK2 _ ?_
    refine awp_condB (b := true) rfl (fun _ => ?_) (fun hh => absurd (hh.symm.trans rfl) (by decide))
    refine awp_seq fun K3 hK3 => ?_
    refine awp_region rfl ?_
    refine o_call [] (AV.lit (.bool true)) Gd.none Wq2_tC22 rfl c_l2Awake ?_
    refine o_assign (AV.lit (.bool true)) Gd.none rfl ?_
    refine aops_end ?_
    refine hK3 _ ?_
    refine awp_ret ?_
    refine post_ret ⟨[(AV.lit (.bool true))], And.intro (AV.le_refl _) (trivial), rfl, ?_⟩
    first | rfl | simp [bp]
  · have hm2 := formed2 h1
    obtain ⟨hm', ha'⟩ := hm2
    have hM := okM_iff.1 hm'
    have hS := okS_iff.1 ha'
    have hlz := len_numS hS
    have hrl := runZ_len hM K.toNat (z := numS a) (by omega)
    have hol := fun i => orbZ_lens hM K.toNat (z := numS a) i (by omega)
    have hp := orbZ_last (m := m) K.toNat (numS a)
    have hM2 := hM
    obtain ⟨o1, o2, o3, o4, o5⟩ := hM2
    have hml := small_len (z := m.mod) (by omega)
    refine o_move (AV.lit (.string (b))) (Gd.yes rfl rfl h1) rfl ?_
    refine o_call [(AV.lit (.string (b)))] (AV.lit (.bool (okS (b)))) (Gd.yes rfl rfl h1) Wq2_tC29 rfl (c_rValid (b) (by first | assumption | omega)) ?_
    refine o_not (b := okS (b)) (Gd.yes rfl rfl h1) rfl ?_
    refine o_pickF (b := !(okM m && okS (a))) (AV.lit (.bool (!(okS (b))))) Gd.none rfl h1 rfl ?_
    refine o_move (AV.lit (.bool (!(okS (b))))) Gd.none rfl ?_
    refine o_split (b := !(okS (b))) 33 rfl (fun h2 => ?_) (fun h2 => ?_)
    · refine o_skip (b := !(okS (b))) rfl rfl h2 ?_
      refine o_skip (b := !(okS (b))) rfl rfl h2 ?_
      refine o_pickT (b := !(okS (b))) (AV.lit (.bool true)) Gd.none rfl h2 rfl ?_
      refine o_move (AV.lit (.bool true)) Gd.none rfl ?_
      refine o_skip (b := true) rfl rfl rfl ?_
      refine o_skip (b := true) rfl rfl rfl ?_
      refine o_pickT (b := true) (AV.lit (.bool true)) Gd.none rfl rfl rfl ?_
      refine aops_end ?_
      refine hK2 _ ?_
      refine awp_condB (b := true) rfl (fun _ => ?_) (fun hh => absurd (hh.symm.trans rfl) (by decide))
      refine awp_seq fun K4 hK4 => ?_
      refine awp_region rfl ?_
      refine o_call [] (AV.lit (.bool true)) Gd.none Wq2_tC22 rfl c_l2Awake ?_
      refine o_assign (AV.lit (.bool true)) Gd.none rfl ?_
      refine aops_end ?_
      refine hK4 _ ?_
      refine awp_ret ?_
      refine post_ret ⟨[(AV.lit (.bool true))], And.intro (AV.le_refl _) (trivial), rfl, ?_⟩
      first | rfl | simp [bp]
    · have hb' : okS b = true := by simpa using h2
      have hSb := okS_iff.1 hb'
      have hlb := len_numS hSb
      refine o_move (AV.lit (.int .i64 (K))) (Gd.yes rfl rfl h2) rfl ?_
      refine o_lss (a := (K)) (c := (((0 : Nat) : Int))) (Gd.yes rfl rfl h2) rfl rfl ?_
      refine o_pickF (b := !(okS (b))) (bp ((K) < (((0 : Nat) : Int)))) Gd.none rfl h2 rfl ?_
      refine o_move (bp ((K) < (((0 : Nat) : Int)))) Gd.none rfl ?_
      refine o_splitP (q := (K) < (((0 : Nat) : Int))) 37 rfl (fun h3 => ?_) (fun h3 => ?_)
      · refine o_skip (b := decide ((K) < (((0 : Nat) : Int)))) rfl rfl (decide_eq_true h3) ?_
        refine o_skip (b := decide ((K) < (((0 : Nat) : Int)))) rfl rfl (decide_eq_true h3) ?_
        refine o_pickT (b := decide ((K) < (((0 : Nat) : Int)))) (AV.lit (.bool true)) Gd.none rfl (decide_eq_true h3) rfl ?_
        refine aops_end ?_
        refine hK2 _ ?_
        refine awp_condB (b := true) rfl (fun _ => ?_) (fun hh => absurd (hh.symm.trans rfl) (by decide))
        refine awp_seq fun K5 hK5 => ?_
        refine awp_region rfl ?_
        refine o_call [] (AV.lit (.bool true)) Gd.none Wq2_tC22 rfl c_l2Awake ?_
        refine o_assign (AV.lit (.bool true)) Gd.none rfl ?_
        refine aops_end ?_
        refine hK5 _ ?_
        refine awp_ret ?_
        refine post_ret ⟨[(AV.lit (.bool true))], And.intro (AV.le_refl _) (trivial), rfl, ?_⟩
        first | rfl | simp [bp]
      · refine o_move (AV.lit (.int .i64 (K))) (Gd.yes rfl rfl (decide_eq_false h3)) rfl ?_
        refine o_gtr (a := (K)) (c := (((1000 : Nat) : Int))) (Gd.yes rfl rfl (decide_eq_false h3)) rfl rfl ?_
        refine o_pickF (b := decide ((K) < (((0 : Nat) : Int)))) (bp ((((1000 : Nat) : Int)) < (K))) Gd.none rfl (decide_eq_false h3) rfl ?_
        refine aops_end ?_
        refine hK2 _ ?_
        refine awp_condQ (q := (((1000 : Nat) : Int)) < (K)) rfl (fun h4 => ?_) (fun h4 => ?_)
        · refine awp_seq fun K6 hK6 => ?_
          refine awp_region rfl ?_
          refine o_call [] (AV.lit (.bool true)) Gd.none Wq2_tC22 rfl c_l2Awake ?_
          refine o_assign (AV.lit (.bool true)) Gd.none rfl ?_
          refine aops_end ?_
          refine hK6 _ ?_
          refine awp_ret ?_
          refine post_ret ⟨[(AV.lit (.bool true))], And.intro (AV.le_refl _) (trivial), rfl, ?_⟩
          first | rfl | simp [bp]
        · refine awp_skip ?_
          refine hK1 _ ?_
          refine awp_seq fun K7 hK7 => ?_
          refine awp_region rfl ?_
          refine o_move (AV.lit (.string (b))) Gd.none rfl ?_
          refine o_call [(AV.lit (.string (b)))] (intR ((numS (b)))) Gd.none Wq2_tC24 rfl (c_rParse (b) (by first | assumption | exact okS_iff.1 (by assumption))) ?_
          refine o_move (AV.lit (.string (a))) Gd.none rfl ?_
          refine o_call [(AV.lit (.string (a)))] (intR ((numS (a)))) Gd.none Wq2_tC24 rfl (c_rParse (a) (by first | assumption | exact okS_iff.1 (by assumption))) ?_
          refine o_alloc 3 [(AV.lit (.bool false)), (AV.lit (.slice none 0 0))] Gd.none Wq2_tO36 rfl rfl rfl ?_
          refine o_alloc 4 [(AV.lit (.bool false)), (AV.lit (.slice none 0 0))] Gd.none Wq2_tO36 rfl rfl rfl ?_
          refine o_store [(4, (AO.var 36 [(AV.lit (.bool false)), (AV.lit (.slice none 0 0))])), (3, (AO.var 36 [(bp ((numS (b)) < 0)), (AV.sl 1 (ns .i64 (digs ((numS (b))).natAbs)))])), (2, (AO.var 24 [(AV.lit (.int .i64 (m.mod))), (AV.sl 1 (is .i64 (m.mul))), (AV.sl 1 (is .i64 (m.add)))]))] Gd.none Wq2_tZ36 rfl rfl rfl rfl rfl rfl ?_
          refine o_store [(4, (AO.var 36 [(bp ((numS (a)) < 0)), (AV.sl 1 (ns .i64 (digs ((numS (a))).natAbs)))])), (3, (AO.var 36 [(bp ((numS (b)) < 0)), (AV.sl 1 (ns .i64 (digs ((numS (b))).natAbs)))])), (2, (AO.var 24 [(AV.lit (.int .i64 (m.mod))), (AV.sl 1 (is .i64 (m.mul))), (AV.sl 1 (is .i64 (m.add)))]))] Gd.none Wq2_tZ36 rfl rfl rfl rfl rfl rfl ?_
          refine aops_end ?_
          refine hK7 _ ?_
          refine awp_seq fun K8 hK8 => ?_
          refine awp_seq fun K9 hK9 => ?_
          refine awp_region rfl ?_
          refine o_assign (nm .i64 (0)) Gd.none rfl ?_
          refine aops_end ?_
          refine hK9 _ ?_
          refine awp_block ?_
          refine awp_loopR (fun κ σ => ∃ (j : Nat), ∃ (y : Int), ((j : Int) ≤ K) ∧ (y = numS b * m.mod ^ j) ∧ ((digs y.natAbs).length ≤ 300 + j) ∧ (K.toNat - j) = κ ∧ σ = ⟨[(1, (AV.lit (.string (a)))), (2, (AV.lit (.string (b)))), (3, (AV.lit (.int .i64 (K)))), (4, (AV.ref 2 (0))), (9, (AV.ref 3 (0))), (10, (AV.ref 4 (0))), (11, (nm .i64 (j)))], [(2, (AO.var 24 [(AV.lit (.int .i64 (m.mod))), (AV.sl 1 (is .i64 (m.mul))), (AV.sl 1 (is .i64 (m.add)))])), (3, (AO.var 36 [(bp (y < 0)), (AV.sl 1 (ns .i64 (digs (y).natAbs)))])), (4, (AO.var 36 [(bp ((numS (a)) < 0)), (AV.sl 1 (ns .i64 (digs ((numS (a))).natAbs)))]))]⟩) ⟨_, _, ⟨0, (numS (b)), (by omega), (by simp), (by omega), rfl, rfl⟩, ?wk0⟩ ?rd0
          case wk0 =>
            exact Wk.sub (And.intro (by exact rfl) (And.intro (by exact rfl) (And.intro (by exact rfl) (And.intro (by exact rfl) (And.intro (by exact rfl) (And.intro (by exact rfl) (And.intro (by first | rfl | exact congrArg (nm _) (by omega) | exact nm_int (by omega) | exact nm_int (by simp [IntKind.wrap, IntKind.bits, IntKind.signed]; omega)) (trivial)))))))) (And.intro (by first | rfl | exact row_ns (by simp) | exact congrArg (fun x => some (AO.blk (.stringIter _ x))) (by omega)) (And.intro (by first | rfl | exact row_ns (by simp) | exact congrArg (fun x => some (AO.blk (.stringIter _ x))) (by omega)) (And.intro (by first | rfl | exact row_ns (by simp) | exact congrArg (fun x => some (AO.blk (.stringIter _ x))) (by omega)) (trivial))))
          rintro κ _ ⟨j, y, hi, hy, hyl, rfl, rfl⟩
          refine awp_seq fun K10 hK10 => ?_
          refine awp_seq fun K11 hK11 => ?_
          refine awp_region rfl ?_
          refine o_move (nm .i64 (j)) Gd.none rfl ?_
          refine o_move (AV.lit (.int .i64 (K))) Gd.none rfl ?_
          refine o_lss (a := (((j : Nat) : Int))) (c := (K)) Gd.none rfl rfl ?_
          refine aops_end ?_
          refine hK11 _ ?_
          refine awp_condQ (q := (((j : Nat) : Int)) < (K)) rfl (fun h5 => ?_) (fun h5 => ?_)
          · refine awp_skip ?_
            refine hK10 _ ?_
            refine awp_seq fun K12 hK12 => ?_
            refine awp_block ?_
            refine awp_regionD rfl ?_
            refine o_loadA [(bp (y < 0)), (AV.sl 1 (ns .i64 (digs (y).natAbs)))] Gd.none Wq2_tA36 rfl rfl rfl rfl rfl ?_
            refine o_fieldRef 0 Gd.none Wq2_tF24_0 rfl rfl ?_
            refine o_loadS (AV.lit (.int .i64 (m.mod))) Gd.none Wq2_tS3 rfl rfl rfl ?_
            refine o_call [(AV.lit (.int .i64 (m.mod)))] (intR ((m.mod))) Gd.none Wq2_tC31 rfl (c_rOf (m.mod) (by first | decide | omega) (by first | decide | omega)) ?_
            refine o_call [(AV.agg [(bp (y < 0)), (AV.sl 1 (ns .i64 (digs (y).natAbs)))]), (intR ((m.mod)))] (intR ((y * (m.mod)))) Gd.none Wq2_tC30 rfl (c_rMul (y) ((m.mod)) (by first | assumption | omega | (simp only [Int.natAbs_neg]; omega)) (by first | assumption | omega | (simp only [Int.natAbs_neg]; omega))) ?_
            refine o_store [(2, (AO.var 24 [(AV.lit (.int .i64 (m.mod))), (AV.sl 1 (is .i64 (m.mul))), (AV.sl 1 (is .i64 (m.add)))])), (3, (AO.var 36 [(bp ((y * (m.mod)) < 0)), (AV.sl 1 (ns .i64 (digs ((y * (m.mod))).natAbs)))])), (4, (AO.var 36 [(bp ((numS (a)) < 0)), (AV.sl 1 (ns .i64 (digs ((numS (a))).natAbs)))]))] Gd.none Wq2_tZ36 rfl rfl rfl rfl rfl rfl ?_
            refine aops_end ⟨by kernel_rfl, ?_⟩
            refine hK12 _ ?_
            refine awp_region rfl ?_
            refine o_move (nm .i64 (j)) Gd.none rfl ?_
            refine n_add (j) (1) Gd.none rfl rfl (by simp only [topOf]; omega) ?_
            refine o_assign (nm .i64 ((j) + (1))) Gd.none rfl ?_
            refine aops_end ?_
            refine ⟨_, _, ?lt, ⟨j + 1, (y * m.mod), (by omega), (by rw [hy, Int.pow_succ, Int.mul_assoc]), (by have := len_mulZ y m.mod; omega), rfl, rfl⟩, ?wk⟩
            case lt => omega
            case wk => exact Wk.sub (And.intro (by exact rfl) (And.intro (by exact rfl) (And.intro (by exact rfl) (And.intro (by exact rfl) (And.intro (by exact rfl) (And.intro (by exact rfl) (And.intro (by first | rfl | exact congrArg (nm _) (by omega) | exact nm_int (by omega) | exact nm_int (by simp [IntKind.wrap, IntKind.bits, IntKind.signed]; omega)) (trivial)))))))) (And.intro (by first | rfl | exact row_ns (by simp) | exact congrArg (fun x => some (AO.blk (.stringIter _ x))) (by omega)) (And.intro (by first | rfl | exact row_ns (by simp) | exact congrArg (fun x => some (AO.blk (.stringIter _ x))) (by omega)) (And.intro (by first | rfl | exact row_ns (by simp) | exact congrArg (fun x => some (AO.blk (.stringIter _ x))) (by omega)) (trivial))))
          · have hyK : y = numS b * m.mod ^ K.toNat := by rw [hy, show j = K.toNat by omega]
            have hxl := len_addZ (numS a) y
            refine awp_exit ?_
            refine hK8 _ ?_
            refine awp_seq fun K13 hK13 => ?_
            refine awp_region rfl ?_
            refine o_loadA [(bp ((numS (a)) < 0)), (AV.sl 1 (ns .i64 (digs ((numS (a))).natAbs)))] Gd.none Wq2_tA36 rfl rfl rfl rfl rfl ?_
            refine o_loadA [(bp (y < 0)), (AV.sl 1 (ns .i64 (digs (y).natAbs)))] Gd.none Wq2_tA36 rfl rfl rfl rfl rfl ?_
            refine o_call [(AV.agg [(bp ((numS (a)) < 0)), (AV.sl 1 (ns .i64 (digs ((numS (a))).natAbs)))]), (AV.agg [(bp (y < 0)), (AV.sl 1 (ns .i64 (digs (y).natAbs)))])] (intR (((numS (a)) + y))) Gd.none Wq2_tC32 rfl (c_rAdd ((numS (a))) (y) (by first | assumption | omega | (simp only [Int.natAbs_neg]; omega)) (by first | assumption | omega | (simp only [Int.natAbs_neg]; omega))) ?_
            refine o_alloc 101 [(AV.lit (.bool false)), (AV.lit (.slice none 0 0))] Gd.none Wq2_tO36 rfl rfl rfl ?_
            refine o_store [(101, (AO.var 36 [(bp (((numS (a)) + y) < 0)), (AV.sl 1 (ns .i64 (digs (((numS (a)) + y)).natAbs)))])), (2, (AO.var 24 [(AV.lit (.int .i64 (m.mod))), (AV.sl 1 (is .i64 (m.mul))), (AV.sl 1 (is .i64 (m.add)))])), (3, (AO.var 36 [(bp (y < 0)), (AV.sl 1 (ns .i64 (digs (y).natAbs)))])), (4, (AO.var 36 [(bp ((numS (a)) < 0)), (AV.sl 1 (ns .i64 (digs ((numS (a))).natAbs)))]))] Gd.none Wq2_tZ36 rfl rfl rfl rfl rfl rfl ?_
            refine aops_end ?_
            refine hK13 _ ?_
            refine awp_seq fun K14 hK14 => ?_
            refine awp_seq fun K15 hK15 => ?_
            refine awp_region rfl ?_
            refine o_loadA [(bp (((numS (a)) + y) < 0)), (AV.sl 1 (ns .i64 (digs (((numS (a)) + y)).natAbs)))] Gd.none Wq2_tA36 rfl rfl rfl rfl rfl ?_
            refine o_call [(AV.agg [(bp (((numS (a)) + y) < 0)), (AV.sl 1 (ns .i64 (digs (((numS (a)) + y)).natAbs)))])] (bp (Fit (((numS (a)) + y)))) Gd.none Wq2_tC25 rfl (c_rFits (((numS (a)) + y)) (by first | assumption | omega | (simp only [Int.natAbs_neg]; omega))) ?_
            refine o_notP (q := Fit (((numS (a)) + y))) Gd.none rfl ?_
            refine aops_end ?_
            refine hK15 _ ?_
            refine awp_condQ (q := ¬ (Fit (((numS (a)) + y)))) rfl (fun h6 => ?_) (fun h6 => ?_)
            · refine awp_seq fun K16 hK16 => ?_
              refine awp_region rfl ?_
              refine o_call [] (AV.lit (.bool true)) Gd.none Wq2_tC22 rfl c_l2Awake ?_
              refine o_assign (AV.lit (.bool true)) Gd.none rfl ?_
              refine aops_end ?_
              refine hK16 _ ?_
              refine awp_ret ?_
              refine post_ret ⟨[(AV.lit (.bool true))], And.intro (AV.le_refl _) (trivial), rfl, ?_⟩
              first | rfl | simp [bp]
            · have hFo := Decidable.not_not.1 h6
              have hty := txt_sz hFo
              have hoy := okS_iff.2 (okS_txt hFo)
              refine awp_skip ?_
              refine hK14 _ ?_
              refine awp_seq fun K17 hK17 => ?_
              refine awp_region rfl ?_
              refine o_loadA [(AV.lit (.int .i64 (m.mod))), (AV.sl 1 (is .i64 (m.mul))), (AV.sl 1 (is .i64 (m.add)))] Gd.none Wq2_tA24 rfl rfl rfl rfl rfl ?_
              refine o_move (AV.lit (.string (a))) Gd.none rfl ?_
              refine o_move (AV.lit (.int .i64 (K))) Gd.none rfl ?_
              refine o_call [(AV.agg [(AV.lit (.int .i64 (m.mod))), (AV.sl 1 (is .i64 (m.mul))), (AV.sl 1 (is .i64 (m.add)))]), (AV.lit (.string (a))), (AV.lit (.int .i64 (K)))] (AV.tup [(AV.sl 1 (sbs ((orbS m (a) (K)).map txt))), (nm .i64 (orbE m (a) (K)))]) Gd.none Wq2_tC19 rfl (c_sOrbit m (a) (K) (by first | assumption | decide | omega)) ?_
              refine o_move (AV.tup [(AV.sl 1 (sbs ((orbS m (a) (K)).map txt))), (nm .i64 (orbE m (a) (K)))]) Gd.none rfl ?_
              refine o_extract (AV.sl 1 (sbs ((orbS m (a) (K)).map txt))) Gd.none rfl rfl ?_
              refine o_extract (nm .i64 (orbE m (a) (K))) Gd.none rfl rfl ?_
              refine o_assign (AV.sl 1 (sbs ((orbS m (a) (K)).map txt))) Gd.none rfl ?_
              refine o_assign (nm .i64 (orbE m (a) (K))) Gd.none rfl ?_
              refine aops_end ?_
              refine hK17 _ ?_
              refine awp_seq fun K18 hK18 => ?_
              refine awp_regionD rfl ?_
              refine o_loadA [(AV.lit (.int .i64 (m.mod))), (AV.sl 1 (is .i64 (m.mul))), (AV.sl 1 (is .i64 (m.add)))] Gd.none Wq2_tA24 rfl rfl rfl rfl rfl ?_
              refine o_loadA [(bp (((numS (a)) + y) < 0)), (AV.sl 1 (ns .i64 (digs (((numS (a)) + y)).natAbs)))] Gd.none Wq2_tA36 rfl rfl rfl rfl rfl ?_
              refine o_call [(AV.agg [(bp (((numS (a)) + y) < 0)), (AV.sl 1 (ns .i64 (digs (((numS (a)) + y)).natAbs)))])] (AV.lit (.string (txt (((numS (a)) + y))))) Gd.none Wq2_tC26 rfl (c_rText (((numS (a)) + y)) (by first | assumption | omega | (simp only [Int.natAbs_neg]; omega))) ?_
              refine o_move (AV.lit (.int .i64 (K))) Gd.none rfl ?_
              refine o_call [(AV.agg [(AV.lit (.int .i64 (m.mod))), (AV.sl 1 (is .i64 (m.mul))), (AV.sl 1 (is .i64 (m.add)))]), (AV.lit (.string (txt (((numS (a)) + y))))), (AV.lit (.int .i64 (K)))] (AV.tup [(AV.sl 1 (sbs ((orbS m (txt (((numS (a)) + y))) (K)).map txt))), (nm .i64 (orbE m (txt (((numS (a)) + y))) (K)))]) Gd.none Wq2_tC19 rfl (c_sOrbit m (txt (((numS (a)) + y))) (K) (by first | assumption | decide | omega)) ?_
              refine o_move (AV.tup [(AV.sl 1 (sbs ((orbS m (txt (((numS (a)) + y))) (K)).map txt))), (nm .i64 (orbE m (txt (((numS (a)) + y))) (K)))]) Gd.none rfl ?_
              refine o_extract (AV.sl 1 (sbs ((orbS m (txt (((numS (a)) + y))) (K)).map txt))) Gd.none rfl rfl ?_
              refine o_extract (nm .i64 (orbE m (txt (((numS (a)) + y))) (K))) Gd.none rfl rfl ?_
              refine o_assign (AV.sl 1 (sbs ((orbS m (txt (((numS (a)) + y))) (K)).map txt))) Gd.none rfl ?_
              refine o_assign (nm .i64 (orbE m (txt (((numS (a)) + y))) (K))) Gd.none rfl ?_
              refine aops_end ⟨by kernel_rfl, ?_⟩
              refine hK18 _ ?_
              refine awp_seq fun K19 hK19 => ?_
              refine awp_seq fun K20 hK20 => ?_
              refine awp_region rfl ?_
              refine o_move (nm .i64 (orbE m (a) (K))) Gd.none rfl ?_
              refine n_neq (orbE m (a) (K)) (0) Gd.none rfl rfl ?_
              refine o_move (bp ((orbE m (a) (K)) ≠ (0))) Gd.none rfl ?_
              refine o_splitP (q := (orbE m (a) (K)) ≠ (0)) 80 rfl (fun h7 => ?_) (fun h7 => ?_)
              · refine o_skip (b := decide ((orbE m (a) (K)) ≠ (0))) rfl rfl (decide_eq_true h7) ?_
                refine o_skip (b := decide ((orbE m (a) (K)) ≠ (0))) rfl rfl (decide_eq_true h7) ?_
                refine o_pickT (b := decide ((orbE m (a) (K)) ≠ (0))) (AV.lit (.bool true)) Gd.none rfl (decide_eq_true h7) rfl ?_
                refine aops_end ?_
                refine hK20 _ ?_
                refine awp_condB (b := true) rfl (fun _ => ?_) (fun hh => absurd (hh.symm.trans rfl) (by decide))
                refine awp_seq fun K21 hK21 => ?_
                refine awp_region rfl ?_
                refine o_move (nm .i64 (orbE m (a) (K))) Gd.none rfl ?_
                refine n_eql (orbE m (a) (K)) (0) Gd.none rfl rfl ?_
                refine o_move (bp ((orbE m (a) (K)) = (0))) Gd.none rfl ?_
                refine o_move (nm .i64 (orbE m (a) (K))) (Gd.yes rfl rfl (decide_eq_false h7)) rfl ?_
                refine n_as (v' := (nm .i64 (3))) (by exact congrArg (nm _) (orbE_ne ⟨hm', ha'⟩ (by omega) h7)) ?_
                refine n_eql (3) (3) (Gd.yes rfl rfl (decide_eq_false h7)) rfl rfl ?_
                refine o_pickF (b := decide ((orbE m (a) (K)) = (0))) (bp ((3) = (3))) Gd.none rfl (decide_eq_false h7) rfl ?_
                refine o_move (bp ((3) = (3))) Gd.none rfl ?_
                refine o_move (nm .i64 (orbE m (txt (((numS (a)) + y))) (K))) (Gd.yes rfl rfl (decide_eq_true (by decide))) rfl ?_
                refine n_eql (orbE m (txt (((numS (a)) + y))) (K)) (0) (Gd.yes rfl rfl (decide_eq_true (by decide))) rfl rfl ?_
                refine o_move (bp ((orbE m (txt (((numS (a)) + y))) (K)) = (0))) (Gd.yes rfl rfl (decide_eq_true (by decide))) rfl ?_
                refine o_splitP (q := (orbE m (txt (((numS (a)) + y))) (K)) = (0)) 93 rfl (fun h8 => ?_) (fun h8 => ?_)
                · refine o_skip (b := decide ((orbE m (txt (((numS (a)) + y))) (K)) = (0))) rfl rfl (decide_eq_true h8) ?_
                  refine o_skip (b := decide ((orbE m (txt (((numS (a)) + y))) (K)) = (0))) rfl rfl (decide_eq_true h8) ?_
                  refine o_pickT (b := decide ((orbE m (txt (((numS (a)) + y))) (K)) = (0))) (AV.lit (.bool true)) (Gd.yes rfl rfl (decide_eq_true (by decide))) rfl (decide_eq_true h8) rfl ?_
                  refine o_pickT (b := decide ((3) = (3))) (AV.lit (.bool true)) Gd.none rfl (decide_eq_true (by decide)) rfl ?_
                  refine o_move (AV.lit (.bool true)) Gd.none rfl ?_
                  refine o_call [] (AV.lit (.bool true)) (Gd.yes rfl rfl rfl) Wq2_tC22 rfl c_l2Awake ?_
                  refine o_pickT (b := true) (AV.lit (.bool true)) Gd.none rfl rfl rfl ?_
                  refine o_assign (AV.lit (.bool true)) Gd.none rfl ?_
                  refine aops_end ?_
                  refine hK21 _ ?_
                  refine awp_ret ?_
                  refine post_ret ⟨[(AV.lit (.bool true))], And.intro (AV.le_refl _) (trivial), rfl, ?_⟩
                  first | rfl | simp [bp]
                · refine o_move (nm .i64 (orbE m (txt (((numS (a)) + y))) (K))) (Gd.yes rfl rfl (decide_eq_false h8)) rfl ?_
                  refine n_as (v' := (nm .i64 (3))) (by exact congrArg (nm _) (orbE_ne ⟨hm', hoy⟩ (by omega) (by first | exact h9 | exact h8))) ?_
                  refine n_eql (3) (3) (Gd.yes rfl rfl (decide_eq_false h8)) rfl rfl ?_
                  refine o_pickF (b := decide ((orbE m (txt (((numS (a)) + y))) (K)) = (0))) (bp ((3) = (3))) (Gd.yes rfl rfl (decide_eq_true (by decide))) rfl (decide_eq_false h8) rfl ?_
                  refine o_pickT (b := decide ((3) = (3))) (bp ((3) = (3))) Gd.none rfl (decide_eq_true (by decide)) rfl ?_
                  refine o_move (bp ((3) = (3))) Gd.none rfl ?_
                  refine o_call [] (AV.lit (.bool true)) (Gd.yes rfl rfl (decide_eq_true (by decide))) Wq2_tC22 rfl c_l2Awake ?_
                  refine o_pickT (b := decide ((3) = (3))) (AV.lit (.bool true)) Gd.none rfl (decide_eq_true (by decide)) rfl ?_
                  refine o_assign (AV.lit (.bool true)) Gd.none rfl ?_
                  refine aops_end ?_
                  refine hK21 _ ?_
                  refine awp_ret ?_
                  refine post_ret ⟨[(AV.lit (.bool true))], And.intro (AV.le_refl _) (trivial), rfl, ?_⟩
                  first | rfl | simp [bp]
              · refine o_move (nm .i64 (orbE m (txt (((numS (a)) + y))) (K))) (Gd.yes rfl rfl (decide_eq_false h7)) rfl ?_
                refine n_neq (orbE m (txt (((numS (a)) + y))) (K)) (0) (Gd.yes rfl rfl (decide_eq_false h7)) rfl rfl ?_
                refine o_pickF (b := decide ((orbE m (a) (K)) ≠ (0))) (bp ((orbE m (txt (((numS (a)) + y))) (K)) ≠ (0))) Gd.none rfl (decide_eq_false h7) rfl ?_
                refine aops_end ?_
                refine hK20 _ ?_
                refine awp_condQ (q := (orbE m (txt (((numS (a)) + y))) (K)) ≠ (0)) rfl (fun h9 => ?_) (fun h9 => ?_)
                · refine awp_seq fun K22 hK22 => ?_
                  refine awp_region rfl ?_
                  refine o_move (nm .i64 (orbE m (a) (K))) Gd.none rfl ?_
                  refine n_eql (orbE m (a) (K)) (0) Gd.none rfl rfl ?_
                  refine o_move (bp ((orbE m (a) (K)) = (0))) Gd.none rfl ?_
                  refine o_skip (b := decide ((orbE m (a) (K)) = (0))) rfl rfl (decide_eq_true (Decidable.not_not.1 h7)) ?_
                  refine o_skip (b := decide ((orbE m (a) (K)) = (0))) rfl rfl (decide_eq_true (Decidable.not_not.1 h7)) ?_
                  refine o_pickT (b := decide ((orbE m (a) (K)) = (0))) (AV.lit (.bool true)) Gd.none rfl (decide_eq_true (Decidable.not_not.1 h7)) rfl ?_
                  refine o_move (AV.lit (.bool true)) Gd.none rfl ?_
                  refine o_move (nm .i64 (orbE m (txt (((numS (a)) + y))) (K))) (Gd.yes rfl rfl rfl) rfl ?_
                  refine n_eql (orbE m (txt (((numS (a)) + y))) (K)) (0) (Gd.yes rfl rfl rfl) rfl rfl ?_
                  refine o_move (bp ((orbE m (txt (((numS (a)) + y))) (K)) = (0))) (Gd.yes rfl rfl rfl) rfl ?_
                  refine o_move (nm .i64 (orbE m (txt (((numS (a)) + y))) (K))) (Gd.yes rfl rfl (decide_eq_false h9)) rfl ?_
                  refine n_as (v' := (nm .i64 (3))) (by exact congrArg (nm _) (orbE_ne ⟨hm', hoy⟩ (by omega) (by first | exact h9 | exact h8))) ?_
                  refine n_eql (3) (3) (Gd.yes rfl rfl (decide_eq_false h9)) rfl rfl ?_
                  refine o_pickF (b := decide ((orbE m (txt (((numS (a)) + y))) (K)) = (0))) (bp ((3) = (3))) (Gd.yes rfl rfl rfl) rfl (decide_eq_false h9) rfl ?_
                  refine o_pickT (b := true) (bp ((3) = (3))) Gd.none rfl rfl rfl ?_
                  refine o_move (bp ((3) = (3))) Gd.none rfl ?_
                  refine o_call [] (AV.lit (.bool true)) (Gd.yes rfl rfl (decide_eq_true (by decide))) Wq2_tC22 rfl c_l2Awake ?_
                  refine o_pickT (b := decide ((3) = (3))) (AV.lit (.bool true)) Gd.none rfl (decide_eq_true (by decide)) rfl ?_
                  refine o_assign (AV.lit (.bool true)) Gd.none rfl ?_
                  refine aops_end ?_
                  refine hK22 _ ?_
                  refine awp_ret ?_
                  refine post_ret ⟨[(AV.lit (.bool true))], And.intro (AV.le_refl _) (trivial), rfl, ?_⟩
                  first | rfl | simp [bp]
                · have e1 := Decidable.not_not.1 h7
                  have e2 := Decidable.not_not.1 h9
                  obtain ⟨_, _, _, _, hfa⟩ := orbE_fit e1
                  obtain ⟨_, _, _, _, hfb⟩ := orbE_fit e2
                  rw [numS_txt] at hfb
                  have hO1 := orbS_yes ⟨hm', ha', by omega, by omega, hfa⟩
                  have hO2 : orbS m (txt ((numS (a) + y))) K = (orbZ m K.toNat (numS a + y)) := by rw [orbS_yes (orbE_fit e2), numS_txt]
                  have hoa := orb_fit hfa
                  have hob := orb_fit hfb
                  refine awp_skip ?_
                  refine hK19 _ ?_
                  refine awp_seq fun K23 hK23 => ?_
                  refine awp_seq fun K24 hK24 => ?_
                  refine awp_region rfl ?_
                  refine o_move (AV.sl 1 (sbs ((orbS m (a) (K)).map txt))) Gd.none rfl ?_
                  refine s_len ((orbS m (a) (K)).map txt) Gd.none Wq2_tU26 rfl ?_
                  refine n_as (v' := (nm .i64 (K.toNat + 1))) (by exact congrArg (nm _) (by rw [List.length_map, hO1]; exact hoa.1)) ?_
                  refine o_move (AV.lit (.int .i64 (K))) Gd.none rfl ?_
                  refine o_add (a := (K)) (c := (((1 : Nat) : Int))) Gd.none rfl rfl (by exact wrap64 (by omega) (by omega)) ?_
                  refine n_as (v' := (nm .i64 (K.toNat + 1))) (by exact nm_int (by omega)) ?_
                  refine n_neq (K.toNat + 1) (K.toNat + 1) Gd.none rfl rfl ?_
                  refine o_move (bp ((K.toNat + 1) ≠ (K.toNat + 1))) Gd.none rfl ?_
                  refine o_move (AV.sl 1 (sbs ((orbS m (txt (((numS (a)) + y))) (K)).map txt))) (Gd.yes rfl rfl (decide_eq_false (fun h => h rfl))) rfl ?_
                  refine s_len ((orbS m (txt (((numS (a)) + y))) (K)).map txt) (Gd.yes rfl rfl (decide_eq_false (fun h => h rfl))) Wq2_tU26 rfl ?_
                  refine n_as (v' := (nm .i64 (K.toNat + 1))) (by exact congrArg (nm _) (by rw [List.length_map, hO2]; exact hob.1)) ?_
                  refine o_move (AV.lit (.int .i64 (K))) (Gd.yes rfl rfl (decide_eq_false (fun h => h rfl))) rfl ?_
                  refine o_add (a := (K)) (c := (((1 : Nat) : Int))) (Gd.yes rfl rfl (decide_eq_false (fun h => h rfl))) rfl rfl (by exact wrap64 (by omega) (by omega)) ?_
                  refine n_as (v' := (nm .i64 (K.toNat + 1))) (by exact nm_int (by omega)) ?_
                  refine n_neq (K.toNat + 1) (K.toNat + 1) (Gd.yes rfl rfl (decide_eq_false (fun h => h rfl))) rfl rfl ?_
                  refine o_pickF (b := decide ((K.toNat + 1) ≠ (K.toNat + 1))) (bp ((K.toNat + 1) ≠ (K.toNat + 1))) Gd.none rfl (decide_eq_false (fun h => h rfl)) rfl ?_
                  refine aops_end ?_
                  refine hK24 _ ?_
                  refine awp_condB (b := decide ((K.toNat + 1) ≠ (K.toNat + 1))) rfl (fun hh => absurd (hh.symm.trans (decide_eq_false (fun h => h rfl))) (by decide)) (fun _ => ?_)
                  refine awp_skip ?_
                  refine hK23 _ ?_
                  refine awp_seq fun K25 hK25 => ?_
                  refine awp_region rfl ?_
                  refine o_move (AV.lit (.string (b))) Gd.none rfl ?_
                  refine o_call [(AV.lit (.string (b)))] (intR ((numS (b)))) Gd.none Wq2_tC24 rfl (c_rParse (b) (by first | assumption | exact okS_iff.1 (by assumption))) ?_
                  refine o_alloc 102 [(AV.lit (.bool false)), (AV.lit (.slice none 0 0))] Gd.none Wq2_tO36 rfl rfl rfl ?_
                  refine o_store [(102, (AO.var 36 [(bp ((numS (b)) < 0)), (AV.sl 1 (ns .i64 (digs ((numS (b))).natAbs)))])), (101, (AO.var 36 [(bp (((numS (a)) + y) < 0)), (AV.sl 1 (ns .i64 (digs (((numS (a)) + y)).natAbs)))])), (2, (AO.var 24 [(AV.lit (.int .i64 (m.mod))), (AV.sl 1 (is .i64 (m.mul))), (AV.sl 1 (is .i64 (m.add)))])), (3, (AO.var 36 [(bp (y < 0)), (AV.sl 1 (ns .i64 (digs (y).natAbs)))])), (4, (AO.var 36 [(bp ((numS (a)) < 0)), (AV.sl 1 (ns .i64 (digs ((numS (a))).natAbs)))]))] Gd.none Wq2_tZ36 rfl rfl rfl rfl rfl rfl ?_
                  refine aops_end ?_
                  refine hK25 _ ?_
                  refine awp_seq fun K26 hK26 => ?_
                  refine awp_seq fun K27 hK27 => ?_
                  refine awp_region rfl ?_
                  refine o_assign (nm .i64 (0)) Gd.none rfl ?_
                  refine aops_end ?_
                  refine hK27 _ ?_
                  refine awp_block ?_
                  refine awp_loopR (fun κ σ => ∃ (i : Nat), ((i : Int) ≤ K + 1) ∧ (K.toNat + 1 - i) = κ ∧ σ = ⟨[(3, (AV.lit (.int .i64 (K)))), (4, (AV.ref 2 (0))), (13, (AV.sl 1 (sbs ((orbZ m K.toNat (numS a)).map txt)))), (15, (AV.sl 1 (sbs ((orbZ m K.toNat (numS a + y)).map txt)))), (17, (AV.ref 5 (0))), (18, (nm .i64 (i)))], [(2, (AO.var 24 [(AV.lit (.int .i64 (m.mod))), (AV.sl 1 (is .i64 (m.mul))), (AV.sl 1 (is .i64 (m.add)))])), (5, (AO.var 36 [(bp ((numS (b)) < 0)), (AV.sl 1 (ns .i64 (digs ((numS (b))).natAbs)))]))]⟩) ⟨_, _, ⟨0, (by omega), rfl, rfl⟩, ?wk1⟩ ?rd1
                  case wk1 =>
                    exact Wk.trans (Wk.sub (σ' := ⟨[(3, (AV.lit (.int .i64 (K)))), (4, (AV.ref 2 (0))), (13, (AV.sl 1 (sbs ((orbS m (a) (K)).map txt)))), (15, (AV.sl 1 (sbs ((orbS m (txt (((numS (a)) + y))) (K)).map txt)))), (17, (AV.ref 102 (0))), (18, (nm .i64 (0)))], [(2, (AO.var 24 [(AV.lit (.int .i64 (m.mod))), (AV.sl 1 (is .i64 (m.mul))), (AV.sl 1 (is .i64 (m.add)))])), (102, (AO.var 36 [(bp ((numS (b)) < 0)), (AV.sl 1 (ns .i64 (digs ((numS (b))).natAbs)))]))]⟩) (And.intro rfl (And.intro rfl (And.intro rfl (And.intro rfl (And.intro rfl (And.intro rfl (trivial))))))) (And.intro rfl (And.intro rfl (trivial)))) (Wk.trans (Wk.ren (id := 102) (id' := 5) rfl) (Wk.sub (And.intro (by exact rfl) (And.intro (by exact rfl) (And.intro (by first | rfl | (first | exact ss_as (congrArg (List.map txt) hO1) | exact ss_as (congrArg (List.map txt) hO2))) (And.intro (by first | rfl | (first | exact ss_as (congrArg (List.map txt) hO1) | exact ss_as (congrArg (List.map txt) hO2))) (And.intro (by first | rfl | (first | exact ss_as (congrArg (List.map txt) hO1) | exact ss_as (congrArg (List.map txt) hO2))) (And.intro (by first | rfl | exact congrArg (nm _) (by omega) | exact nm_int (by omega) | exact nm_int (by simp [IntKind.wrap, IntKind.bits, IntKind.signed]; omega)) (trivial))))))) (And.intro (by first | rfl | exact row_ns (by simp) | exact congrArg (fun x => some (AO.blk (.stringIter _ x))) (by omega)) (And.intro (by first | rfl | exact row_ns (by simp) | exact congrArg (fun x => some (AO.blk (.stringIter _ x))) (by omega)) (trivial)))))
                  rintro κ _ ⟨i, hi, rfl, rfl⟩
                  refine awp_seq fun K28 hK28 => ?_
                  refine awp_seq fun K29 hK29 => ?_
                  refine awp_region rfl ?_
                  refine o_move (nm .i64 (i)) Gd.none rfl ?_
                  refine o_move (AV.lit (.int .i64 (K))) Gd.none rfl ?_
                  refine o_leq (a := (((i : Nat) : Int))) (c := (K)) Gd.none rfl rfl ?_
                  refine aops_end ?_
                  refine hK29 _ ?_
                  refine awp_condQ (q := (((i : Nat) : Int)) ≤ (K)) rfl (fun h10 => ?_) (fun h10 => ?_)
                  · have hia := fit_all _ hfa i (by omega)
                    have hib := fit_all _ hfb i (by omega)
                    have hta := txt_sz hia
                    have htb := txt_sz hib
                    have hka := okS_iff.2 (okS_txt hia)
                    have hkb := okS_iff.2 (okS_txt hib)
                    have hla := fit_len hia
                    have hlb2 := fit_len hib
                    refine awp_skip ?_
                    refine hK28 _ ?_
                    refine awp_seq fun K30 hK30 => ?_
                    refine awp_block ?_
                    refine awp_seq fun K31 hK31 => ?_
                    refine awp_region rfl ?_
                    refine o_move (AV.sl 1 (sbs ((orbZ m K.toNat (numS a)).map txt))) Gd.none rfl ?_
                    refine o_move (nm .i64 (i)) Gd.none rfl ?_
                    refine s_index ((orbZ m K.toNat (numS a)).map txt) (i) Gd.none Wq2_tE26 rfl rfl (by rw [List.length_map, hoa.1]; omega) ?_
                    refine s_loadI ((orbZ m K.toNat (numS a)).map txt) (i) Gd.none Wq2_tS9 rfl (by rw [List.length_map, hoa.1]; omega) ?_
                    refine n_as (v' := (AV.lit (.string (txt (iterZ m i (numS a)))))) (by exact str_as ((map_getD (by rw [hoa.1]; omega)).trans (congrArg txt (hoa.2 i (by omega))))) ?_
                    refine o_call [(AV.lit (.string (txt (iterZ m i (numS a)))))] (AV.lit (.bool (okS (txt (iterZ m i (numS a)))))) Gd.none Wq2_tC29 rfl (c_rValid (txt (iterZ m i (numS a))) (by first | assumption | omega)) ?_
                    refine n_as (v' := (AV.lit (.bool true))) (by rw [hka]) ?_
                    refine o_not (b := true) Gd.none rfl ?_
                    refine o_move (AV.lit (.bool false)) Gd.none rfl ?_
                    refine o_move (AV.sl 1 (sbs ((orbZ m K.toNat (numS a + y)).map txt))) (Gd.yes rfl rfl rfl) rfl ?_
                    refine o_move (nm .i64 (i)) (Gd.yes rfl rfl rfl) rfl ?_
                    refine s_index ((orbZ m K.toNat (numS a + y)).map txt) (i) (Gd.yes rfl rfl rfl) Wq2_tE26 rfl rfl (by rw [List.length_map, hob.1]; omega) ?_
                    refine s_loadI ((orbZ m K.toNat (numS a + y)).map txt) (i) (Gd.yes rfl rfl rfl) Wq2_tS9 rfl (by rw [List.length_map, hob.1]; omega) ?_
                    refine n_as (v' := (AV.lit (.string (txt (iterZ m i (numS a + y)))))) (by exact str_as ((map_getD (by rw [hob.1]; omega)).trans (congrArg txt (hob.2 i (by omega))))) ?_
                    refine o_call [(AV.lit (.string (txt (iterZ m i (numS a + y)))))] (AV.lit (.bool (okS (txt (iterZ m i (numS a + y)))))) (Gd.yes rfl rfl rfl) Wq2_tC29 rfl (c_rValid (txt (iterZ m i (numS a + y))) (by first | assumption | omega)) ?_
                    refine n_as (v' := (AV.lit (.bool true))) (by rw [hkb]) ?_
                    refine o_not (b := true) (Gd.yes rfl rfl rfl) rfl ?_
                    refine o_pickF (b := false) (AV.lit (.bool false)) Gd.none rfl rfl rfl ?_
                    refine aops_end ?_
                    refine hK31 _ ?_
                    refine awp_condB (b := false) rfl (fun hh => absurd (hh.symm.trans rfl) (by decide)) (fun _ => ?_)
                    refine awp_skip ?_
                    refine hK30 _ ?_
                    refine awp_region rfl ?_
                    refine o_move (nm .i64 (i)) Gd.none rfl ?_
                    refine n_add (i) (1) Gd.none rfl rfl (by simp only [topOf]; omega) ?_
                    refine o_assign (nm .i64 ((i) + (1))) Gd.none rfl ?_
                    refine aops_end ?_
                    refine ⟨_, _, ?lt, ⟨i + 1, (by omega), rfl, rfl⟩, ?wk⟩
                    case lt => omega
                    case wk => exact Wk.sub (And.intro (by exact rfl) (And.intro (by exact rfl) (And.intro (by exact rfl) (And.intro (by exact rfl) (And.intro (by exact rfl) (And.intro (by first | rfl | exact congrArg (nm _) (by omega) | exact nm_int (by omega) | exact nm_int (by simp [IntKind.wrap, IntKind.bits, IntKind.signed]; omega)) (trivial))))))) (And.intro (by first | rfl | exact row_ns (by simp) | exact congrArg (fun x => some (AO.blk (.stringIter _ x))) (by omega)) (And.intro (by first | rfl | exact row_ns (by simp) | exact congrArg (fun x => some (AO.blk (.stringIter _ x))) (by omega)) (trivial)))
                  · refine awp_exit ?_
                    refine hK26 _ ?_
                    refine awp_seq fun K32 hK32 => ?_
                    refine awp_seq fun K33 hK33 => ?_
                    refine awp_region rfl ?_
                    refine o_assign (nm .i64 (0)) Gd.none rfl ?_
                    refine aops_end ?_
                    refine hK33 _ ?_
                    refine awp_block ?_
                    refine awp_loopR (fun κ σ => ∃ (i : Nat), ∃ (g : Int), ((i : Int) ≤ K) ∧ (g = numS b * prodZ m (numS a) i) ∧ ((digs g.natAbs).length ≤ 300 + i) ∧ (K.toNat - i) = κ ∧ σ = ⟨[(3, (AV.lit (.int .i64 (K)))), (4, (AV.ref 2 (0))), (13, (AV.sl 1 (sbs ((orbZ m K.toNat (numS a)).map txt)))), (15, (AV.sl 1 (sbs ((orbZ m K.toNat (numS a + y)).map txt)))), (17, (AV.ref 5 (0))), (19, (nm .i64 (i)))], [(2, (AO.var 24 [(AV.lit (.int .i64 (m.mod))), (AV.sl 1 (is .i64 (m.mul))), (AV.sl 1 (is .i64 (m.add)))])), (5, (AO.var 36 [(bp (g < 0)), (AV.sl 1 (ns .i64 (digs (g).natAbs)))]))]⟩) ⟨_, _, ⟨0, (numS (b)), (by omega), (by simp [prodZ]), (by omega), rfl, rfl⟩, ?wk2⟩ ?rd2
                    case wk2 =>
                      exact Wk.sub (And.intro (by exact rfl) (And.intro (by exact rfl) (And.intro (by exact rfl) (And.intro (by exact rfl) (And.intro (by exact rfl) (And.intro (by first | rfl | exact congrArg (nm _) (by omega) | exact nm_int (by omega) | exact nm_int (by simp [IntKind.wrap, IntKind.bits, IntKind.signed]; omega)) (trivial))))))) (And.intro (by first | rfl | exact row_ns (by simp) | exact congrArg (fun x => some (AO.blk (.stringIter _ x))) (by omega)) (And.intro (by first | rfl | exact row_ns (by simp) | exact congrArg (fun x => some (AO.blk (.stringIter _ x))) (by omega)) (trivial)))
                    rintro κ _ ⟨i, g, hi, hg, hgl, rfl, rfl⟩
                    refine awp_seq fun K34 hK34 => ?_
                    refine awp_seq fun K35 hK35 => ?_
                    refine awp_region rfl ?_
                    refine o_move (nm .i64 (i)) Gd.none rfl ?_
                    refine o_move (AV.lit (.int .i64 (K))) Gd.none rfl ?_
                    refine o_lss (a := (((i : Nat) : Int))) (c := (K)) Gd.none rfl rfl ?_
                    refine aops_end ?_
                    refine hK35 _ ?_
                    refine awp_condQ (q := (((i : Nat) : Int)) < (K)) rfl (fun h11 => ?_) (fun h11 => ?_)
                    · have hia := fit_all _ hfa i (by omega)
                      have hib := fit_all _ hfb i (by omega)
                      have hta := txt_sz hia
                      have htb := txt_sz hib
                      have hka := okS_iff.2 (okS_txt hia)
                      have hkb := okS_iff.2 (okS_txt hib)
                      have hla := fit_len hia
                      have hlb2 := fit_len hib
                      have hmd : ((m.mod.toNat : Nat) : Int) = m.mod := Int.toNat_of_nonneg (by omega)
                      have hr0 := Int.emod_nonneg (iterZ m i (numS a)) (b := m.mod) (by omega)
                      have hr1 := Int.emod_lt_of_pos (iterZ m i (numS a)) (b := m.mod) (by omega)
                      have hal : (iterZ m i (numS a + y)) % m.mod = (iterZ m i (numS a)) % m.mod := by rw [hyK]; exact alike_rest hM (numS a) (numS b) (by omega)
                      have hrm := o5 ((iterZ m i (numS a)) % m.mod).toNat (by omega)
                      have hlm := small_len (z := m.mul.getD ((iterZ m i (numS a)) % m.mod).toNat 0) (by omega)
                      have hlg := len_mulZ g (m.mul.getD ((iterZ m i (numS a)) % m.mod).toNat 0)
                      refine awp_skip ?_
                      refine hK34 _ ?_
                      refine awp_seq fun K36 hK36 => ?_
                      refine awp_block ?_
                      refine awp_seq fun K37 hK37 => ?_
                      refine awp_regionD rfl ?_
                      refine o_move (AV.sl 1 (sbs ((orbZ m K.toNat (numS a)).map txt))) Gd.none rfl ?_
                      refine o_move (nm .i64 (i)) Gd.none rfl ?_
                      refine s_index ((orbZ m K.toNat (numS a)).map txt) (i) Gd.none Wq2_tE26 rfl rfl (by rw [List.length_map, hoa.1]; omega) ?_
                      refine s_loadI ((orbZ m K.toNat (numS a)).map txt) (i) Gd.none Wq2_tS9 rfl (by rw [List.length_map, hoa.1]; omega) ?_
                      refine n_as (v' := (AV.lit (.string (txt (iterZ m i (numS a)))))) (by exact str_as ((map_getD (by rw [hoa.1]; omega)).trans (congrArg txt (hoa.2 i (by omega))))) ?_
                      refine o_call [(AV.lit (.string (txt (iterZ m i (numS a)))))] (intR ((numS (txt (iterZ m i (numS a)))))) Gd.none Wq2_tC24 rfl (c_rParse (txt (iterZ m i (numS a))) (by first | assumption | exact okS_iff.1 (by assumption))) ?_
                      refine n_as (v' := (intR ((iterZ m i (numS a))))) (by simp only [numS_txt]) ?_
                      refine o_fieldRef 0 Gd.none Wq2_tF24_0 rfl rfl ?_
                      refine o_loadS (AV.lit (.int .i64 (m.mod))) Gd.none Wq2_tS3 rfl rfl rfl ?_
                      refine n_as (v' := (nm .i64 (m.mod.toNat))) (nm_int (by omega)) ?_
                      refine o_call [(intR ((iterZ m i (numS a)))), (nm .i64 (m.mod.toNat))] (AV.tup [(intR (((iterZ m i (numS a)) / ((m.mod.toNat : Nat) : Int)))), (AV.lit (.int .i64 ((iterZ m i (numS a)) % ((m.mod.toNat : Nat) : Int))))]) Gd.none Wq2_tC33 rfl (c_rQR ((iterZ m i (numS a))) (m.mod.toNat) (by omega) (by omega) (by first | assumption | omega | (simp only [Int.natAbs_neg]; omega))) ?_
                      refine o_move (AV.tup [(intR (((iterZ m i (numS a)) / ((m.mod.toNat : Nat) : Int)))), (AV.lit (.int .i64 ((iterZ m i (numS a)) % ((m.mod.toNat : Nat) : Int))))]) Gd.none rfl ?_
                      refine o_extract (intR (((iterZ m i (numS a)) / ((m.mod.toNat : Nat) : Int)))) Gd.none rfl rfl ?_
                      refine o_extract (AV.lit (.int .i64 ((iterZ m i (numS a)) % ((m.mod.toNat : Nat) : Int)))) Gd.none rfl rfl ?_
                      refine n_as (v' := (nm .i64 (((iterZ m i (numS a)) % m.mod).toNat))) (by exact nm_int (by rw [hmd]; omega)) ?_
                      refine o_alloc 301 [(AV.lit (.bool false)), (AV.lit (.slice none 0 0))] Gd.none Wq2_tO36 rfl rfl rfl ?_
                      refine o_store [(301, (AO.var 36 [(bp (((iterZ m i (numS a)) / ((m.mod.toNat : Nat) : Int)) < 0)), (AV.sl 1 (ns .i64 (digs (((iterZ m i (numS a)) / ((m.mod.toNat : Nat) : Int))).natAbs)))])), (2, (AO.var 24 [(AV.lit (.int .i64 (m.mod))), (AV.sl 1 (is .i64 (m.mul))), (AV.sl 1 (is .i64 (m.add)))])), (5, (AO.var 36 [(bp (g < 0)), (AV.sl 1 (ns .i64 (digs (g).natAbs)))]))] Gd.none Wq2_tZ36 rfl rfl rfl rfl rfl rfl ?_
                      refine o_assign (nm .i64 (((iterZ m i (numS a)) % m.mod).toNat)) Gd.none rfl ?_
                      refine aops_end ⟨by kernel_rfl, ?_⟩
                      refine hK37 _ ?_
                      refine awp_seq fun K38 hK38 => ?_
                      refine awp_regionD rfl ?_
                      refine o_move (AV.sl 1 (sbs ((orbZ m K.toNat (numS a + y)).map txt))) Gd.none rfl ?_
                      refine o_move (nm .i64 (i)) Gd.none rfl ?_
                      refine s_index ((orbZ m K.toNat (numS a + y)).map txt) (i) Gd.none Wq2_tE26 rfl rfl (by rw [List.length_map, hob.1]; omega) ?_
                      refine s_loadI ((orbZ m K.toNat (numS a + y)).map txt) (i) Gd.none Wq2_tS9 rfl (by rw [List.length_map, hob.1]; omega) ?_
                      refine n_as (v' := (AV.lit (.string (txt (iterZ m i (numS a + y)))))) (by exact str_as ((map_getD (by rw [hob.1]; omega)).trans (congrArg txt (hob.2 i (by omega))))) ?_
                      refine o_call [(AV.lit (.string (txt (iterZ m i (numS a + y)))))] (intR ((numS (txt (iterZ m i (numS a + y)))))) Gd.none Wq2_tC24 rfl (c_rParse (txt (iterZ m i (numS a + y))) (by first | assumption | exact okS_iff.1 (by assumption))) ?_
                      refine n_as (v' := (intR ((iterZ m i (numS a + y))))) (by simp only [numS_txt]) ?_
                      refine o_fieldRef 0 Gd.none Wq2_tF24_0 rfl rfl ?_
                      refine o_loadS (AV.lit (.int .i64 (m.mod))) Gd.none Wq2_tS3 rfl rfl rfl ?_
                      refine n_as (v' := (nm .i64 (m.mod.toNat))) (nm_int (by omega)) ?_
                      refine o_call [(intR ((iterZ m i (numS a + y)))), (nm .i64 (m.mod.toNat))] (AV.tup [(intR (((iterZ m i (numS a + y)) / ((m.mod.toNat : Nat) : Int)))), (AV.lit (.int .i64 ((iterZ m i (numS a + y)) % ((m.mod.toNat : Nat) : Int))))]) Gd.none Wq2_tC33 rfl (c_rQR ((iterZ m i (numS a + y))) (m.mod.toNat) (by omega) (by omega) (by first | assumption | omega | (simp only [Int.natAbs_neg]; omega))) ?_
                      refine o_move (AV.tup [(intR (((iterZ m i (numS a + y)) / ((m.mod.toNat : Nat) : Int)))), (AV.lit (.int .i64 ((iterZ m i (numS a + y)) % ((m.mod.toNat : Nat) : Int))))]) Gd.none rfl ?_
                      refine o_extract (intR (((iterZ m i (numS a + y)) / ((m.mod.toNat : Nat) : Int)))) Gd.none rfl rfl ?_
                      refine o_extract (AV.lit (.int .i64 ((iterZ m i (numS a + y)) % ((m.mod.toNat : Nat) : Int)))) Gd.none rfl rfl ?_
                      refine n_as (v' := (nm .i64 (((iterZ m i (numS a)) % m.mod).toNat))) (by exact nm_int (by rw [hmd, hal]; omega)) ?_
                      refine o_alloc 302 [(AV.lit (.bool false)), (AV.lit (.slice none 0 0))] Gd.none Wq2_tO36 rfl rfl rfl ?_
                      refine o_store [(302, (AO.var 36 [(bp (((iterZ m i (numS a + y)) / ((m.mod.toNat : Nat) : Int)) < 0)), (AV.sl 1 (ns .i64 (digs (((iterZ m i (numS a + y)) / ((m.mod.toNat : Nat) : Int))).natAbs)))])), (301, (AO.var 36 [(bp (((iterZ m i (numS a)) / ((m.mod.toNat : Nat) : Int)) < 0)), (AV.sl 1 (ns .i64 (digs (((iterZ m i (numS a)) / ((m.mod.toNat : Nat) : Int))).natAbs)))])), (2, (AO.var 24 [(AV.lit (.int .i64 (m.mod))), (AV.sl 1 (is .i64 (m.mul))), (AV.sl 1 (is .i64 (m.add)))])), (5, (AO.var 36 [(bp (g < 0)), (AV.sl 1 (ns .i64 (digs (g).natAbs)))]))] Gd.none Wq2_tZ36 rfl rfl rfl rfl rfl rfl ?_
                      refine o_assign (nm .i64 (((iterZ m i (numS a)) % m.mod).toNat)) Gd.none rfl ?_
                      refine aops_end ⟨by kernel_rfl, ?_⟩
                      refine hK38 _ ?_
                      refine awp_seq fun K39 hK39 => ?_
                      refine awp_seq fun K40 hK40 => ?_
                      refine awp_region rfl ?_
                      refine o_move (nm .i64 (((iterZ m i (numS a)) % m.mod).toNat)) Gd.none rfl ?_
                      refine o_move (nm .i64 (((iterZ m i (numS a)) % m.mod).toNat)) Gd.none rfl ?_
                      refine n_neq (((iterZ m i (numS a)) % m.mod).toNat) (((iterZ m i (numS a)) % m.mod).toNat) Gd.none rfl rfl ?_
                      refine aops_end ?_
                      refine hK40 _ ?_
                      refine awp_condB (b := decide ((((iterZ m i (numS a)) % m.mod).toNat) ≠ (((iterZ m i (numS a)) % m.mod).toNat))) rfl (fun hh => absurd (hh.symm.trans (decide_eq_false (fun h => h rfl))) (by decide)) (fun _ => ?_)
                      refine awp_skip ?_
                      refine hK39 _ ?_
                      refine awp_regionD rfl ?_
                      refine o_loadA [(bp (g < 0)), (AV.sl 1 (ns .i64 (digs (g).natAbs)))] Gd.none Wq2_tA36 rfl rfl rfl rfl rfl ?_
                      refine o_fieldRef 1 Gd.none Wq2_tF24_1 rfl rfl ?_
                      refine o_loadS (AV.sl 1 (is .i64 (m.mul))) Gd.none Wq2_tS22 rfl rfl rfl ?_
                      refine o_move (nm .i64 (((iterZ m i (numS a)) % m.mod).toNat)) Gd.none rfl ?_
                      refine i_index (m.mul) (((iterZ m i (numS a)) % m.mod).toNat) Gd.none Wq2_tE22 rfl rfl (by omega) ?_
                      refine i_loadI (m.mul) (((iterZ m i (numS a)) % m.mod).toNat) Gd.none Wq2_tS3 rfl (by omega) ?_
                      refine o_call [(AV.lit (.int .i64 ((m.mul).getD (((iterZ m i (numS a)) % m.mod).toNat) 0)))] (intR ((m.mul).getD (((iterZ m i (numS a)) % m.mod).toNat) 0)) Gd.none Wq2_tC31 rfl (c_rOf ((m.mul).getD (((iterZ m i (numS a)) % m.mod).toNat) 0) (by first | decide | omega) (by first | decide | omega)) ?_
                      refine o_call [(AV.agg [(bp (g < 0)), (AV.sl 1 (ns .i64 (digs (g).natAbs)))]), (intR ((m.mul).getD (((iterZ m i (numS a)) % m.mod).toNat) 0))] (intR ((g * (m.mul).getD (((iterZ m i (numS a)) % m.mod).toNat) 0))) Gd.none Wq2_tC30 rfl (c_rMul (g) ((m.mul).getD (((iterZ m i (numS a)) % m.mod).toNat) 0) (by first | assumption | omega | (simp only [Int.natAbs_neg]; omega)) (by first | assumption | omega | (simp only [Int.natAbs_neg]; omega))) ?_
                      refine o_store [(302, (AO.var 36 [(bp (((iterZ m i (numS a + y)) / ((m.mod.toNat : Nat) : Int)) < 0)), (AV.sl 1 (ns .i64 (digs (((iterZ m i (numS a + y)) / ((m.mod.toNat : Nat) : Int))).natAbs)))])), (301, (AO.var 36 [(bp (((iterZ m i (numS a)) / ((m.mod.toNat : Nat) : Int)) < 0)), (AV.sl 1 (ns .i64 (digs (((iterZ m i (numS a)) / ((m.mod.toNat : Nat) : Int))).natAbs)))])), (2, (AO.var 24 [(AV.lit (.int .i64 (m.mod))), (AV.sl 1 (is .i64 (m.mul))), (AV.sl 1 (is .i64 (m.add)))])), (5, (AO.var 36 [(bp ((g * (m.mul).getD (((iterZ m i (numS a)) % m.mod).toNat) 0) < 0)), (AV.sl 1 (ns .i64 (digs ((g * (m.mul).getD (((iterZ m i (numS a)) % m.mod).toNat) 0)).natAbs)))]))] Gd.none Wq2_tZ36 rfl rfl rfl rfl rfl rfl ?_
                      refine aops_end ⟨by kernel_rfl, ?_⟩
                      refine hK36 _ ?_
                      refine awp_region rfl ?_
                      refine o_move (nm .i64 (i)) Gd.none rfl ?_
                      refine n_add (i) (1) Gd.none rfl rfl (by simp only [topOf]; omega) ?_
                      refine o_assign (nm .i64 ((i) + (1))) Gd.none rfl ?_
                      refine aops_end ?_
                      refine ⟨_, _, ?lt, ⟨i + 1, (g * (m.mul).getD (((iterZ m i (numS a)) % m.mod).toNat) 0), (by omega), (by rw [hg, prodZ, Int.mul_assoc]), (by omega), rfl, rfl⟩, ?wk⟩
                      case lt => omega
                      case wk => exact Wk.sub (And.intro (by exact rfl) (And.intro (by exact rfl) (And.intro (by exact rfl) (And.intro (by exact rfl) (And.intro (by exact rfl) (And.intro (by first | rfl | exact congrArg (nm _) (by omega) | exact nm_int (by omega) | exact nm_int (by simp [IntKind.wrap, IntKind.bits, IntKind.signed]; omega)) (trivial))))))) (And.intro (by first | rfl | exact row_ns (by simp) | exact congrArg (fun x => some (AO.blk (.stringIter _ x))) (by omega)) (And.intro (by first | rfl | exact row_ns (by simp) | exact congrArg (fun x => some (AO.blk (.stringIter _ x))) (by omega)) (trivial)))
                    · have hKa := fit_all _ hfa K.toNat (by omega)
                      have hKb := fit_all _ hfb K.toNat (by omega)
                      have hka := okS_iff.2 (okS_txt hKa)
                      have hkb := okS_iff.2 (okS_txt hKb)
                      have hla := fit_len hKa
                      have hlb2 := fit_len hKb
                      have hend : (iterZ m K.toNat (numS a + y)) - (iterZ m K.toNat (numS a)) = g := by rw [hg, hyK, show i = K.toNat by omega]; exact alike_end hM (numS a) (numS b) K.toNat
                      refine awp_exit ?_
                      refine hK32 _ ?_
                      refine awp_seq fun K41 hK41 => ?_
                      refine awp_regionD rfl ?_
                      refine o_move (AV.sl 1 (sbs ((orbZ m K.toNat (numS a + y)).map txt))) Gd.none rfl ?_
                      refine o_move (AV.lit (.int .i64 (K))) Gd.none rfl ?_
                      refine n_as (v' := (nm .i64 (K.toNat))) (nm_int (by omega)) ?_
                      refine s_index ((orbZ m K.toNat (numS a + y)).map txt) (K.toNat) Gd.none Wq2_tE26 rfl rfl (by rw [List.length_map, hob.1]; omega) ?_
                      refine s_loadI ((orbZ m K.toNat (numS a + y)).map txt) (K.toNat) Gd.none Wq2_tS9 rfl (by rw [List.length_map, hob.1]; omega) ?_
                      refine n_as (v' := (AV.lit (.string (txt (iterZ m K.toNat (numS a + y)))))) (by exact str_as ((map_getD (by rw [hob.1]; omega)).trans (congrArg txt (hob.2 K.toNat (by omega))))) ?_
                      refine o_call [(AV.lit (.string (txt (iterZ m K.toNat (numS a + y)))))] (intR ((numS (txt (iterZ m K.toNat (numS a + y)))))) Gd.none Wq2_tC24 rfl (c_rParse (txt (iterZ m K.toNat (numS a + y))) (by first | assumption | exact okS_iff.1 (by assumption))) ?_
                      refine n_as (v' := (intR ((iterZ m K.toNat (numS a + y))))) (by simp only [numS_txt]) ?_
                      refine o_move (AV.sl 1 (sbs ((orbZ m K.toNat (numS a)).map txt))) Gd.none rfl ?_
                      refine o_move (AV.lit (.int .i64 (K))) Gd.none rfl ?_
                      refine n_as (v' := (nm .i64 (K.toNat))) (nm_int (by omega)) ?_
                      refine s_index ((orbZ m K.toNat (numS a)).map txt) (K.toNat) Gd.none Wq2_tE26 rfl rfl (by rw [List.length_map, hoa.1]; omega) ?_
                      refine s_loadI ((orbZ m K.toNat (numS a)).map txt) (K.toNat) Gd.none Wq2_tS9 rfl (by rw [List.length_map, hoa.1]; omega) ?_
                      refine n_as (v' := (AV.lit (.string (txt (iterZ m K.toNat (numS a)))))) (by exact str_as ((map_getD (by rw [hoa.1]; omega)).trans (congrArg txt (hoa.2 K.toNat (by omega))))) ?_
                      refine o_call [(AV.lit (.string (txt (iterZ m K.toNat (numS a)))))] (intR ((numS (txt (iterZ m K.toNat (numS a)))))) Gd.none Wq2_tC24 rfl (c_rParse (txt (iterZ m K.toNat (numS a))) (by first | assumption | exact okS_iff.1 (by assumption))) ?_
                      refine n_as (v' := (intR ((iterZ m K.toNat (numS a))))) (by simp only [numS_txt]) ?_
                      refine o_call [(intR ((iterZ m K.toNat (numS a + y)))), (intR ((iterZ m K.toNat (numS a))))] (intR (((iterZ m K.toNat (numS a + y)) - (iterZ m K.toNat (numS a))))) Gd.none Wq2_tC35 rfl (c_rSub ((iterZ m K.toNat (numS a + y))) ((iterZ m K.toNat (numS a))) (by first | assumption | omega | (simp only [Int.natAbs_neg]; omega)) (by first | assumption | omega | (simp only [Int.natAbs_neg]; omega))) ?_
                      refine o_loadA [(bp (g < 0)), (AV.sl 1 (ns .i64 (digs (g).natAbs)))] Gd.none Wq2_tA36 rfl rfl rfl rfl rfl ?_
                      refine o_call [(intR (((iterZ m K.toNat (numS a + y)) - (iterZ m K.toNat (numS a))))), (AV.agg [(bp (g < 0)), (AV.sl 1 (ns .i64 (digs (g).natAbs)))])] (AV.lit (.int .i64 (cmpZ (((iterZ m K.toNat (numS a + y)) - (iterZ m K.toNat (numS a)))) (g)))) Gd.none Wq2_tC34 rfl (c_rCmp (((iterZ m K.toNat (numS a + y)) - (iterZ m K.toNat (numS a)))) (g)) ?_
                      refine n_as (v' := (nm .i64 (0))) (by exact nm_int (cmpZ_0.2 hend)) ?_
                      refine n_eql (0) (0) Gd.none rfl rfl ?_
                      refine o_move (bp ((0) = (0))) Gd.none rfl ?_
                      refine o_call [] (AV.lit (.bool true)) (Gd.yes rfl rfl (decide_eq_true (by decide))) Wq2_tC22 rfl c_l2Awake ?_
                      refine o_pickT (b := decide ((0) = (0))) (AV.lit (.bool true)) Gd.none rfl (decide_eq_true (by decide)) rfl ?_
                      refine o_assign (AV.lit (.bool true)) Gd.none rfl ?_
                      refine aops_end ⟨by kernel_rfl, ?_⟩
                      refine hK41 _ ?_
                      refine awp_ret ?_
                      refine post_ret ⟨[(AV.lit (.bool true))], And.intro (AV.le_refl _) (trivial), rfl, ?_⟩
                      first | rfl | simp [bp]

end Go.Proofs.YtkngglpnejdicaaDoor
