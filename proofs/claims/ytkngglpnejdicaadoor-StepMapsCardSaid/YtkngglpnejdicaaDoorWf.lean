import Derived.Test.YtkngglpnejdicaaDoorWe
set_option linter.unusedVariables false
set_option linter.unusedSimpArgs false
namespace Go.Proofs.YtkngglpnejdicaaDoor
open Go Go.Ab Go.Mth
theorem Wf_tF24_0 : tyField cx.P 24 0 = some (0, 3) := by kernel_rfl
theorem Wf_tS3 : tySc cx.P 3 = true := by kernel_rfl
theorem Wf_tF24_1 : tyField cx.P 24 1 = some (1, 22) := by kernel_rfl
theorem Wf_tS22 : tySc cx.P 22 = true := by kernel_rfl
theorem Wf_tU22 : cx.P.underlying 22 = some (.slice 3) := by kernel_rfl
theorem Wf_tF24_2 : tyField cx.P 24 2 = some (2, 22) := by kernel_rfl
theorem Wf_tE22 : tyElem cx.P 22 = some (3, 1, 8) := by kernel_rfl
theorem Wf_tA36 : tyAgg cx.P 36 = some 2 := by kernel_rfl
theorem Wf_tC33 : callable cx.P 33 = true := by kernel_rfl
theorem Wf_tO36 : tyZero cx.P 36 = some [(Go.Value.bool false), (Go.Value.slice none 0 0)] := by kernel_rfl
theorem Wf_tZ36 : tySize cx.P 36 = some 2 := by kernel_rfl
theorem Wf_tA24 : tyAgg cx.P 24 = some 3 := by kernel_rfl
theorem Wf_tC87 : callable cx.P 87 = true := by kernel_rfl
theorem Wf_tC31 : callable cx.P 31 = true := by kernel_rfl
theorem Wf_tC30 : callable cx.P 30 = true := by kernel_rfl
theorem Wf_tC32 : callable cx.P 32 = true := by kernel_rfl
theorem Wf_tC72 : callable cx.P 72 = true := by kernel_rfl
theorem Wf_tO24 : tyZero cx.P 24 = some [(Go.Value.int IntKind.i64 0), (Go.Value.slice none 0 0), (Go.Value.slice none 0 0)] := by kernel_rfl
theorem Wf_tO3 : tyZero cx.P 3 = some [(Go.Value.int IntKind.i64 0)] := by kernel_rfl
theorem Wf_tP24 : tyPlaces cx.P 24 = some (fun i => (#[(0, 1), (1, 1), (2, 1)] : Array (Nat × Nat))[i]?) := by kernel_rfl
theorem Wf_tZ24 : tySize cx.P 24 = some 3 := by kernel_rfl
theorem Wf_tC25 : callable cx.P 25 = true := by kernel_rfl
theorem Wf_tC47 : callable cx.P 47 = true := by kernel_rfl
theorem Wf_tE33 : tyElem cx.P 33 = some (36, 2, 32) := by kernel_rfl
theorem Wf_tP36 : tyPlaces cx.P 36 = some (fun i => (#[(0, 1), (1, 1)] : Array (Nat × Nat))[i]?) := by kernel_rfl
theorem Wf_tC34 : callable cx.P 34 = true := by kernel_rfl
theorem c_gValid (m : MapM) : ECalls cx 40 [(mapV m)] (.lit (.bool (okM m))) := by
  refine ecalls_of_awp Tryd.func40 (c := _) rfl (Nat.le_of_ble_eq_true rfl) ?_
  show awp cx 83 _ (postF cx Tryd.f40 _) ⟨[(0, (mapV m))], []⟩
  refine awp_seq fun K0 hK0 => ?_
  refine awp_region rfl ?_
  refine o_box 2 [(AV.lit (.int .i64 (m.mod))), (AV.sl 1 (is .i64 (m.mul))), (AV.sl 1 (is .i64 (m.add)))] Gd.none rfl rfl ?_
  refine o_assign (AV.lit (.bool false)) Gd.none rfl ?_
  refine aops_end ?_
  refine hK0 _ ?_
  refine awp_seq fun K1 hK1 => ?_
  refine awp_seq fun K2 hK2 => ?_
  refine awp_region rfl ?_
  refine o_fieldRef 0 Gd.none Wf_tF24_0 rfl rfl ?_
  refine o_loadS (AV.lit (.int .i64 (m.mod))) Gd.none Wf_tS3 rfl rfl rfl ?_
  refine o_lss (a := (m.mod)) (c := (((2 : Nat) : Int))) Gd.none rfl rfl ?_
  refine o_move (bp ((m.mod) < (((2 : Nat) : Int)))) Gd.none rfl ?_
  refine o_splitP (q := (m.mod) < (((2 : Nat) : Int))) 7 rfl (fun h1 => ?_) (fun h1 => ?_)
  · refine o_skip (b := decide ((m.mod) < (((2 : Nat) : Int)))) rfl rfl (decide_eq_true h1) ?_
    refine o_skip (b := decide ((m.mod) < (((2 : Nat) : Int)))) rfl rfl (decide_eq_true h1) ?_
    refine o_skip (b := decide ((m.mod) < (((2 : Nat) : Int)))) rfl rfl (decide_eq_true h1) ?_
    refine o_pickT (b := decide ((m.mod) < (((2 : Nat) : Int)))) (AV.lit (.bool true)) Gd.none rfl (decide_eq_true h1) rfl ?_
    refine o_move (AV.lit (.bool true)) Gd.none rfl ?_
    refine o_skip (b := true) rfl rfl rfl ?_
    refine o_skip (b := true) rfl rfl rfl ?_
    refine o_skip (b := true) rfl rfl rfl ?_
    refine o_skip (b := true) rfl rfl rfl ?_
    refine o_skip (b := true) rfl rfl rfl ?_
    refine o_skip (b := true) rfl rfl rfl ?_
    refine o_pickT (b := true) (AV.lit (.bool true)) Gd.none rfl rfl rfl ?_
    refine o_move (AV.lit (.bool true)) Gd.none rfl ?_
    refine o_skip (b := true) rfl rfl rfl ?_
    refine o_skip (b := true) rfl rfl rfl ?_
    refine o_skip (b := true) rfl rfl rfl ?_
    refine o_skip (b := true) rfl rfl rfl ?_
    refine o_skip (b := true) rfl rfl rfl ?_
    refine o_skip (b := true) rfl rfl rfl ?_
    refine o_pickT (b := true) (AV.lit (.bool true)) Gd.none rfl rfl rfl ?_
    refine aops_end ?_
    refine hK2 _ ?_
    refine awp_condB (b := true) rfl (fun _ => ?_) (fun hh => absurd (hh.symm.trans rfl) (by decide))
    refine awp_seq fun K3 hK3 => ?_
    refine awp_region rfl ?_
    refine o_assign (AV.lit (.bool false)) Gd.none rfl ?_
    refine aops_end ?_
    refine hK3 _ ?_
    refine awp_ret ?_
    refine post_ret ⟨[(AV.lit (.bool false))], And.intro (AV.le_refl _) (trivial), rfl, ?_⟩
    refine bl_eq (okM_no fun h => ?_)
    obtain ⟨o1, o2, o3, o4, o5⟩ := h
    first | omega | (have := o5 r (by omega); omega)
  · refine o_fieldRef 0 (Gd.yes rfl rfl (decide_eq_false h1)) Wf_tF24_0 rfl rfl ?_
    refine o_loadS (AV.lit (.int .i64 (m.mod))) (Gd.yes rfl rfl (decide_eq_false h1)) Wf_tS3 rfl rfl rfl ?_
    refine o_gtr (a := (m.mod)) (c := (((12 : Nat) : Int))) (Gd.yes rfl rfl (decide_eq_false h1)) rfl rfl ?_
    refine o_pickF (b := decide ((m.mod) < (((2 : Nat) : Int)))) (bp ((((12 : Nat) : Int)) < (m.mod))) Gd.none rfl (decide_eq_false h1) rfl ?_
    refine o_move (bp ((((12 : Nat) : Int)) < (m.mod))) Gd.none rfl ?_
    refine o_splitP (q := (((12 : Nat) : Int)) < (m.mod)) 12 rfl (fun h2 => ?_) (fun h2 => ?_)
    · refine o_skip (b := decide ((((12 : Nat) : Int)) < (m.mod))) rfl rfl (decide_eq_true h2) ?_
      refine o_skip (b := decide ((((12 : Nat) : Int)) < (m.mod))) rfl rfl (decide_eq_true h2) ?_
      refine o_skip (b := decide ((((12 : Nat) : Int)) < (m.mod))) rfl rfl (decide_eq_true h2) ?_
      refine o_skip (b := decide ((((12 : Nat) : Int)) < (m.mod))) rfl rfl (decide_eq_true h2) ?_
      refine o_skip (b := decide ((((12 : Nat) : Int)) < (m.mod))) rfl rfl (decide_eq_true h2) ?_
      refine o_skip (b := decide ((((12 : Nat) : Int)) < (m.mod))) rfl rfl (decide_eq_true h2) ?_
      refine o_pickT (b := decide ((((12 : Nat) : Int)) < (m.mod))) (AV.lit (.bool true)) Gd.none rfl (decide_eq_true h2) rfl ?_
      refine o_move (AV.lit (.bool true)) Gd.none rfl ?_
      refine o_skip (b := true) rfl rfl rfl ?_
      refine o_skip (b := true) rfl rfl rfl ?_
      refine o_skip (b := true) rfl rfl rfl ?_
      refine o_skip (b := true) rfl rfl rfl ?_
      refine o_skip (b := true) rfl rfl rfl ?_
      refine o_skip (b := true) rfl rfl rfl ?_
      refine o_pickT (b := true) (AV.lit (.bool true)) Gd.none rfl rfl rfl ?_
      refine aops_end ?_
      refine hK2 _ ?_
      refine awp_condB (b := true) rfl (fun _ => ?_) (fun hh => absurd (hh.symm.trans rfl) (by decide))
      refine awp_seq fun K4 hK4 => ?_
      refine awp_region rfl ?_
      refine o_assign (AV.lit (.bool false)) Gd.none rfl ?_
      refine aops_end ?_
      refine hK4 _ ?_
      refine awp_ret ?_
      refine post_ret ⟨[(AV.lit (.bool false))], And.intro (AV.le_refl _) (trivial), rfl, ?_⟩
      refine bl_eq (okM_no fun h => ?_)
      obtain ⟨o1, o2, o3, o4, o5⟩ := h
      first | omega | (have := o5 r (by omega); omega)
    · refine o_fieldRef 1 (Gd.yes rfl rfl (decide_eq_false h2)) Wf_tF24_1 rfl rfl ?_
      refine o_loadS (AV.sl 1 (is .i64 (m.mul))) (Gd.yes rfl rfl (decide_eq_false h2)) Wf_tS22 rfl rfl rfl ?_
      refine i_len (m.mul) (Gd.yes rfl rfl (decide_eq_false h2)) Wf_tU22 rfl ?_
      refine o_fieldRef 0 (Gd.yes rfl rfl (decide_eq_false h2)) Wf_tF24_0 rfl rfl ?_
      refine o_loadS (AV.lit (.int .i64 (m.mod))) (Gd.yes rfl rfl (decide_eq_false h2)) Wf_tS3 rfl rfl rfl ?_
      refine o_neq (a := ((((m.mul).length : Nat) : Int))) (c := (m.mod)) (Gd.yes rfl rfl (decide_eq_false h2)) rfl rfl ?_
      refine o_pickF (b := decide ((((12 : Nat) : Int)) < (m.mod))) (bp (((((m.mul).length : Nat) : Int)) ≠ (m.mod))) Gd.none rfl (decide_eq_false h2) rfl ?_
      refine o_move (bp (((((m.mul).length : Nat) : Int)) ≠ (m.mod))) Gd.none rfl ?_
      refine o_splitP (q := ((((m.mul).length : Nat) : Int)) ≠ (m.mod)) 20 rfl (fun h3 => ?_) (fun h3 => ?_)
      · refine o_skip (b := decide (((((m.mul).length : Nat) : Int)) ≠ (m.mod))) rfl rfl (decide_eq_true h3) ?_
        refine o_skip (b := decide (((((m.mul).length : Nat) : Int)) ≠ (m.mod))) rfl rfl (decide_eq_true h3) ?_
        refine o_skip (b := decide (((((m.mul).length : Nat) : Int)) ≠ (m.mod))) rfl rfl (decide_eq_true h3) ?_
        refine o_skip (b := decide (((((m.mul).length : Nat) : Int)) ≠ (m.mod))) rfl rfl (decide_eq_true h3) ?_
        refine o_skip (b := decide (((((m.mul).length : Nat) : Int)) ≠ (m.mod))) rfl rfl (decide_eq_true h3) ?_
        refine o_skip (b := decide (((((m.mul).length : Nat) : Int)) ≠ (m.mod))) rfl rfl (decide_eq_true h3) ?_
        refine o_pickT (b := decide (((((m.mul).length : Nat) : Int)) ≠ (m.mod))) (AV.lit (.bool true)) Gd.none rfl (decide_eq_true h3) rfl ?_
        refine aops_end ?_
        refine hK2 _ ?_
        refine awp_condB (b := true) rfl (fun _ => ?_) (fun hh => absurd (hh.symm.trans rfl) (by decide))
        refine awp_seq fun K5 hK5 => ?_
        refine awp_region rfl ?_
        refine o_assign (AV.lit (.bool false)) Gd.none rfl ?_
        refine aops_end ?_
        refine hK5 _ ?_
        refine awp_ret ?_
        refine post_ret ⟨[(AV.lit (.bool false))], And.intro (AV.le_refl _) (trivial), rfl, ?_⟩
        refine bl_eq (okM_no fun h => ?_)
        obtain ⟨o1, o2, o3, o4, o5⟩ := h
        first | omega | (have := o5 r (by omega); omega)
      · refine o_fieldRef 2 (Gd.yes rfl rfl (decide_eq_false h3)) Wf_tF24_2 rfl rfl ?_
        refine o_loadS (AV.sl 1 (is .i64 (m.add))) (Gd.yes rfl rfl (decide_eq_false h3)) Wf_tS22 rfl rfl rfl ?_
        refine i_len (m.add) (Gd.yes rfl rfl (decide_eq_false h3)) Wf_tU22 rfl ?_
        refine o_fieldRef 0 (Gd.yes rfl rfl (decide_eq_false h3)) Wf_tF24_0 rfl rfl ?_
        refine o_loadS (AV.lit (.int .i64 (m.mod))) (Gd.yes rfl rfl (decide_eq_false h3)) Wf_tS3 rfl rfl rfl ?_
        refine o_neq (a := ((((m.add).length : Nat) : Int))) (c := (m.mod)) (Gd.yes rfl rfl (decide_eq_false h3)) rfl rfl ?_
        refine o_pickF (b := decide (((((m.mul).length : Nat) : Int)) ≠ (m.mod))) (bp (((((m.add).length : Nat) : Int)) ≠ (m.mod))) Gd.none rfl (decide_eq_false h3) rfl ?_
        refine aops_end ?_
        refine hK2 _ ?_
        refine awp_condQ (q := ((((m.add).length : Nat) : Int)) ≠ (m.mod)) rfl (fun h4 => ?_) (fun h4 => ?_)
        · refine awp_seq fun K6 hK6 => ?_
          refine awp_region rfl ?_
          refine o_assign (AV.lit (.bool false)) Gd.none rfl ?_
          refine aops_end ?_
          refine hK6 _ ?_
          refine awp_ret ?_
          refine post_ret ⟨[(AV.lit (.bool false))], And.intro (AV.le_refl _) (trivial), rfl, ?_⟩
          refine bl_eq (okM_no fun h => ?_)
          obtain ⟨o1, o2, o3, o4, o5⟩ := h
          first | omega | (have := o5 r (by omega); omega)
        · refine awp_skip ?_
          refine hK1 _ ?_
          refine awp_seq fun K7 hK7 => ?_
          refine awp_seq fun K8 hK8 => ?_
          refine awp_region rfl ?_
          refine o_assign (nm .i64 (0)) Gd.none rfl ?_
          refine aops_end ?_
          refine hK8 _ ?_
          refine awp_block ?_
          refine awp_loopR (fun κ σ => ∃ (r : Nat), ((r : Int) ≤ m.mod) ∧ (∀ i : Nat, i < r → 1 ≤ m.mul.getD i 0 ∧ m.mul.getD i 0 ≤ 999 ∧ -999999 ≤ m.add.getD i 0 ∧ m.add.getD i 0 ≤ 999999 ∧ Int.tmod (m.mul.getD i 0 * i + m.add.getD i 0) m.mod = 0) ∧ (m.mod.toNat - r) = κ ∧ σ = ⟨[(1, (AV.ref 2 (0))), (3, (nm .i64 (r)))], [(2, (AO.var 24 [(AV.lit (.int .i64 (m.mod))), (AV.sl 1 (is .i64 (m.mul))), (AV.sl 1 (is .i64 (m.add)))]))]⟩) ⟨_, _, ⟨0, (by omega), (fun i hi => by omega), rfl, rfl⟩, ?wk0⟩ ?rd0
          case wk0 =>
            exact Wk.sub (And.intro (by exact rfl) (And.intro (by first | rfl | exact congrArg (nm _) (by omega) | exact nm_int (by omega) | exact nm_int (by simp [IntKind.wrap, IntKind.bits, IntKind.signed]; omega)) (trivial))) (And.intro (by first | rfl | exact row_ns (by simp) | exact congrArg (fun x => some (AO.blk (.stringIter _ x))) (by omega)) (trivial))
          rintro κ _ ⟨r, hr, hv, rfl, rfl⟩
          refine awp_seq fun K9 hK9 => ?_
          refine awp_seq fun K10 hK10 => ?_
          refine awp_region rfl ?_
          refine o_move (nm .i64 (r)) Gd.none rfl ?_
          refine o_fieldRef 0 Gd.none Wf_tF24_0 rfl rfl ?_
          refine o_loadS (AV.lit (.int .i64 (m.mod))) Gd.none Wf_tS3 rfl rfl rfl ?_
          refine o_lss (a := (((r : Nat) : Int))) (c := (m.mod)) Gd.none rfl rfl ?_
          refine aops_end ?_
          refine hK10 _ ?_
          refine awp_condQ (q := (((r : Nat) : Int)) < (m.mod)) rfl (fun h5 => ?_) (fun h5 => ?_)
          · refine awp_skip ?_
            refine hK9 _ ?_
            refine awp_seq fun K11 hK11 => ?_
            refine awp_block ?_
            refine awp_seq fun K12 hK12 => ?_
            refine awp_regionD rfl ?_
            refine o_fieldRef 1 Gd.none Wf_tF24_1 rfl rfl ?_
            refine o_loadS (AV.sl 1 (is .i64 (m.mul))) Gd.none Wf_tS22 rfl rfl rfl ?_
            refine o_move (nm .i64 (r)) Gd.none rfl ?_
            refine i_index (m.mul) (r) Gd.none Wf_tE22 rfl rfl (by omega) ?_
            refine i_loadI (m.mul) (r) Gd.none Wf_tS3 rfl (by omega) ?_
            refine o_lss (a := ((m.mul).getD (r) 0)) (c := (((1 : Nat) : Int))) Gd.none rfl rfl ?_
            refine o_move (bp (((m.mul).getD (r) 0) < (((1 : Nat) : Int)))) Gd.none rfl ?_
            refine o_splitP (q := ((m.mul).getD (r) 0) < (((1 : Nat) : Int))) 40 rfl (fun h6 => ?_) (fun h6 => ?_)
            · refine o_skip (b := decide (((m.mul).getD (r) 0) < (((1 : Nat) : Int)))) rfl rfl (decide_eq_true h6) ?_
              refine o_skip (b := decide (((m.mul).getD (r) 0) < (((1 : Nat) : Int)))) rfl rfl (decide_eq_true h6) ?_
              refine o_skip (b := decide (((m.mul).getD (r) 0) < (((1 : Nat) : Int)))) rfl rfl (decide_eq_true h6) ?_
              refine o_skip (b := decide (((m.mul).getD (r) 0) < (((1 : Nat) : Int)))) rfl rfl (decide_eq_true h6) ?_
              refine o_skip (b := decide (((m.mul).getD (r) 0) < (((1 : Nat) : Int)))) rfl rfl (decide_eq_true h6) ?_
              refine o_skip (b := decide (((m.mul).getD (r) 0) < (((1 : Nat) : Int)))) rfl rfl (decide_eq_true h6) ?_
              refine o_pickT (b := decide (((m.mul).getD (r) 0) < (((1 : Nat) : Int)))) (AV.lit (.bool true)) Gd.none rfl (decide_eq_true h6) rfl ?_
              refine o_move (AV.lit (.bool true)) Gd.none rfl ?_
              refine o_skip (b := true) rfl rfl rfl ?_
              refine o_skip (b := true) rfl rfl rfl ?_
              refine o_skip (b := true) rfl rfl rfl ?_
              refine o_skip (b := true) rfl rfl rfl ?_
              refine o_skip (b := true) rfl rfl rfl ?_
              refine o_skip (b := true) rfl rfl rfl ?_
              refine o_pickT (b := true) (AV.lit (.bool true)) Gd.none rfl rfl rfl ?_
              refine o_move (AV.lit (.bool true)) Gd.none rfl ?_
              refine o_skip (b := true) rfl rfl rfl ?_
              refine o_skip (b := true) rfl rfl rfl ?_
              refine o_skip (b := true) rfl rfl rfl ?_
              refine o_skip (b := true) rfl rfl rfl ?_
              refine o_skip (b := true) rfl rfl rfl ?_
              refine o_skip (b := true) rfl rfl rfl ?_
              refine o_pickT (b := true) (AV.lit (.bool true)) Gd.none rfl rfl rfl ?_
              refine o_move (AV.lit (.bool true)) Gd.none rfl ?_
              refine o_skip (b := true) rfl rfl rfl ?_
              refine o_skip (b := true) rfl rfl rfl ?_
              refine o_skip (b := true) rfl rfl rfl ?_
              refine o_skip (b := true) rfl rfl rfl ?_
              refine o_skip (b := true) rfl rfl rfl ?_
              refine o_skip (b := true) rfl rfl rfl ?_
              refine o_skip (b := true) rfl rfl rfl ?_
              refine o_skip (b := true) rfl rfl rfl ?_
              refine o_skip (b := true) rfl rfl rfl ?_
              refine o_skip (b := true) rfl rfl rfl ?_
              refine o_skip (b := true) rfl rfl rfl ?_
              refine o_skip (b := true) rfl rfl rfl ?_
              refine o_skip (b := true) rfl rfl rfl ?_
              refine o_skip (b := true) rfl rfl rfl ?_
              refine o_skip (b := true) rfl rfl rfl ?_
              refine o_skip (b := true) rfl rfl rfl ?_
              refine o_skip (b := true) rfl rfl rfl ?_
              refine o_pickT (b := true) (AV.lit (.bool true)) Gd.none rfl rfl rfl ?_
              refine aops_end ⟨by kernel_rfl, ?_⟩
              refine hK12 _ ?_
              refine awp_condB (b := true) rfl (fun _ => ?_) (fun hh => absurd (hh.symm.trans rfl) (by decide))
              refine awp_seq fun K13 hK13 => ?_
              refine awp_region rfl ?_
              refine o_assign (AV.lit (.bool false)) Gd.none rfl ?_
              refine aops_end ?_
              refine hK13 _ ?_
              refine awp_ret ?_
              refine post_ret ⟨[(AV.lit (.bool false))], And.intro (AV.le_refl _) (trivial), rfl, ?_⟩
              refine bl_eq (okM_no fun h => ?_)
              obtain ⟨o1, o2, o3, o4, o5⟩ := h
              first | omega | (have := o5 r (by omega); omega)
            · refine o_fieldRef 1 (Gd.yes rfl rfl (decide_eq_false h6)) Wf_tF24_1 rfl rfl ?_
              refine o_loadS (AV.sl 1 (is .i64 (m.mul))) (Gd.yes rfl rfl (decide_eq_false h6)) Wf_tS22 rfl rfl rfl ?_
              refine o_move (nm .i64 (r)) (Gd.yes rfl rfl (decide_eq_false h6)) rfl ?_
              refine i_index (m.mul) (r) (Gd.yes rfl rfl (decide_eq_false h6)) Wf_tE22 rfl rfl (by omega) ?_
              refine i_loadI (m.mul) (r) (Gd.yes rfl rfl (decide_eq_false h6)) Wf_tS3 rfl (by omega) ?_
              refine o_gtr (a := ((m.mul).getD (r) 0)) (c := (((999 : Nat) : Int))) (Gd.yes rfl rfl (decide_eq_false h6)) rfl rfl ?_
              refine o_pickF (b := decide (((m.mul).getD (r) 0) < (((1 : Nat) : Int)))) (bp ((((999 : Nat) : Int)) < ((m.mul).getD (r) 0))) Gd.none rfl (decide_eq_false h6) rfl ?_
              refine o_move (bp ((((999 : Nat) : Int)) < ((m.mul).getD (r) 0))) Gd.none rfl ?_
              refine o_splitP (q := (((999 : Nat) : Int)) < ((m.mul).getD (r) 0)) 48 rfl (fun h7 => ?_) (fun h7 => ?_)
              · refine o_skip (b := decide ((((999 : Nat) : Int)) < ((m.mul).getD (r) 0))) rfl rfl (decide_eq_true h7) ?_
                refine o_skip (b := decide ((((999 : Nat) : Int)) < ((m.mul).getD (r) 0))) rfl rfl (decide_eq_true h7) ?_
                refine o_skip (b := decide ((((999 : Nat) : Int)) < ((m.mul).getD (r) 0))) rfl rfl (decide_eq_true h7) ?_
                refine o_skip (b := decide ((((999 : Nat) : Int)) < ((m.mul).getD (r) 0))) rfl rfl (decide_eq_true h7) ?_
                refine o_skip (b := decide ((((999 : Nat) : Int)) < ((m.mul).getD (r) 0))) rfl rfl (decide_eq_true h7) ?_
                refine o_skip (b := decide ((((999 : Nat) : Int)) < ((m.mul).getD (r) 0))) rfl rfl (decide_eq_true h7) ?_
                refine o_pickT (b := decide ((((999 : Nat) : Int)) < ((m.mul).getD (r) 0))) (AV.lit (.bool true)) Gd.none rfl (decide_eq_true h7) rfl ?_
                refine o_move (AV.lit (.bool true)) Gd.none rfl ?_
                refine o_skip (b := true) rfl rfl rfl ?_
                refine o_skip (b := true) rfl rfl rfl ?_
                refine o_skip (b := true) rfl rfl rfl ?_
                refine o_skip (b := true) rfl rfl rfl ?_
                refine o_skip (b := true) rfl rfl rfl ?_
                refine o_skip (b := true) rfl rfl rfl ?_
                refine o_pickT (b := true) (AV.lit (.bool true)) Gd.none rfl rfl rfl ?_
                refine o_move (AV.lit (.bool true)) Gd.none rfl ?_
                refine o_skip (b := true) rfl rfl rfl ?_
                refine o_skip (b := true) rfl rfl rfl ?_
                refine o_skip (b := true) rfl rfl rfl ?_
                refine o_skip (b := true) rfl rfl rfl ?_
                refine o_skip (b := true) rfl rfl rfl ?_
                refine o_skip (b := true) rfl rfl rfl ?_
                refine o_skip (b := true) rfl rfl rfl ?_
                refine o_skip (b := true) rfl rfl rfl ?_
                refine o_skip (b := true) rfl rfl rfl ?_
                refine o_skip (b := true) rfl rfl rfl ?_
                refine o_skip (b := true) rfl rfl rfl ?_
                refine o_skip (b := true) rfl rfl rfl ?_
                refine o_skip (b := true) rfl rfl rfl ?_
                refine o_skip (b := true) rfl rfl rfl ?_
                refine o_skip (b := true) rfl rfl rfl ?_
                refine o_skip (b := true) rfl rfl rfl ?_
                refine o_skip (b := true) rfl rfl rfl ?_
                refine o_pickT (b := true) (AV.lit (.bool true)) Gd.none rfl rfl rfl ?_
                refine aops_end ⟨by kernel_rfl, ?_⟩
                refine hK12 _ ?_
                refine awp_condB (b := true) rfl (fun _ => ?_) (fun hh => absurd (hh.symm.trans rfl) (by decide))
                refine awp_seq fun K14 hK14 => ?_
                refine awp_region rfl ?_
                refine o_assign (AV.lit (.bool false)) Gd.none rfl ?_
                refine aops_end ?_
                refine hK14 _ ?_
                refine awp_ret ?_
                refine post_ret ⟨[(AV.lit (.bool false))], And.intro (AV.le_refl _) (trivial), rfl, ?_⟩
                refine bl_eq (okM_no fun h => ?_)
                obtain ⟨o1, o2, o3, o4, o5⟩ := h
                first | omega | (have := o5 r (by omega); omega)
              · refine o_fieldRef 2 (Gd.yes rfl rfl (decide_eq_false h7)) Wf_tF24_2 rfl rfl ?_
                refine o_loadS (AV.sl 1 (is .i64 (m.add))) (Gd.yes rfl rfl (decide_eq_false h7)) Wf_tS22 rfl rfl rfl ?_
                refine o_move (nm .i64 (r)) (Gd.yes rfl rfl (decide_eq_false h7)) rfl ?_
                refine i_index (m.add) (r) (Gd.yes rfl rfl (decide_eq_false h7)) Wf_tE22 rfl rfl (by omega) ?_
                refine i_loadI (m.add) (r) (Gd.yes rfl rfl (decide_eq_false h7)) Wf_tS3 rfl (by omega) ?_
                refine o_lss (a := ((m.add).getD (r) 0)) (c := ((-999999))) (Gd.yes rfl rfl (decide_eq_false h7)) rfl rfl ?_
                refine o_pickF (b := decide ((((999 : Nat) : Int)) < ((m.mul).getD (r) 0))) (bp (((m.add).getD (r) 0) < ((-999999)))) Gd.none rfl (decide_eq_false h7) rfl ?_
                refine o_move (bp (((m.add).getD (r) 0) < ((-999999)))) Gd.none rfl ?_
                refine o_splitP (q := ((m.add).getD (r) 0) < ((-999999))) 56 rfl (fun h8 => ?_) (fun h8 => ?_)
                · refine o_skip (b := decide (((m.add).getD (r) 0) < ((-999999)))) rfl rfl (decide_eq_true h8) ?_
                  refine o_skip (b := decide (((m.add).getD (r) 0) < ((-999999)))) rfl rfl (decide_eq_true h8) ?_
                  refine o_skip (b := decide (((m.add).getD (r) 0) < ((-999999)))) rfl rfl (decide_eq_true h8) ?_
                  refine o_skip (b := decide (((m.add).getD (r) 0) < ((-999999)))) rfl rfl (decide_eq_true h8) ?_
                  refine o_skip (b := decide (((m.add).getD (r) 0) < ((-999999)))) rfl rfl (decide_eq_true h8) ?_
                  refine o_skip (b := decide (((m.add).getD (r) 0) < ((-999999)))) rfl rfl (decide_eq_true h8) ?_
                  refine o_pickT (b := decide (((m.add).getD (r) 0) < ((-999999)))) (AV.lit (.bool true)) Gd.none rfl (decide_eq_true h8) rfl ?_
                  refine o_move (AV.lit (.bool true)) Gd.none rfl ?_
                  refine o_skip (b := true) rfl rfl rfl ?_
                  refine o_skip (b := true) rfl rfl rfl ?_
                  refine o_skip (b := true) rfl rfl rfl ?_
                  refine o_skip (b := true) rfl rfl rfl ?_
                  refine o_skip (b := true) rfl rfl rfl ?_
                  refine o_skip (b := true) rfl rfl rfl ?_
                  refine o_skip (b := true) rfl rfl rfl ?_
                  refine o_skip (b := true) rfl rfl rfl ?_
                  refine o_skip (b := true) rfl rfl rfl ?_
                  refine o_skip (b := true) rfl rfl rfl ?_
                  refine o_skip (b := true) rfl rfl rfl ?_
                  refine o_skip (b := true) rfl rfl rfl ?_
                  refine o_skip (b := true) rfl rfl rfl ?_
                  refine o_skip (b := true) rfl rfl rfl ?_
                  refine o_skip (b := true) rfl rfl rfl ?_
                  refine o_skip (b := true) rfl rfl rfl ?_
                  refine o_skip (b := true) rfl rfl rfl ?_
                  refine o_pickT (b := true) (AV.lit (.bool true)) Gd.none rfl rfl rfl ?_
                  refine aops_end ⟨by kernel_rfl, ?_⟩
                  refine hK12 _ ?_
                  refine awp_condB (b := true) rfl (fun _ => ?_) (fun hh => absurd (hh.symm.trans rfl) (by decide))
                  refine awp_seq fun K15 hK15 => ?_
                  refine awp_region rfl ?_
                  refine o_assign (AV.lit (.bool false)) Gd.none rfl ?_
                  refine aops_end ?_
                  refine hK15 _ ?_
                  refine awp_ret ?_
                  refine post_ret ⟨[(AV.lit (.bool false))], And.intro (AV.le_refl _) (trivial), rfl, ?_⟩
                  refine bl_eq (okM_no fun h => ?_)
                  obtain ⟨o1, o2, o3, o4, o5⟩ := h
                  first | omega | (have := o5 r (by omega); omega)
                · refine o_fieldRef 2 (Gd.yes rfl rfl (decide_eq_false h8)) Wf_tF24_2 rfl rfl ?_
                  refine o_loadS (AV.sl 1 (is .i64 (m.add))) (Gd.yes rfl rfl (decide_eq_false h8)) Wf_tS22 rfl rfl rfl ?_
                  refine o_move (nm .i64 (r)) (Gd.yes rfl rfl (decide_eq_false h8)) rfl ?_
                  refine i_index (m.add) (r) (Gd.yes rfl rfl (decide_eq_false h8)) Wf_tE22 rfl rfl (by omega) ?_
                  refine i_loadI (m.add) (r) (Gd.yes rfl rfl (decide_eq_false h8)) Wf_tS3 rfl (by omega) ?_
                  refine o_gtr (a := ((m.add).getD (r) 0)) (c := (((999999 : Nat) : Int))) (Gd.yes rfl rfl (decide_eq_false h8)) rfl rfl ?_
                  refine o_pickF (b := decide (((m.add).getD (r) 0) < ((-999999)))) (bp ((((999999 : Nat) : Int)) < ((m.add).getD (r) 0))) Gd.none rfl (decide_eq_false h8) rfl ?_
                  refine o_move (bp ((((999999 : Nat) : Int)) < ((m.add).getD (r) 0))) Gd.none rfl ?_
                  refine o_splitP (q := (((999999 : Nat) : Int)) < ((m.add).getD (r) 0)) 64 rfl (fun h9 => ?_) (fun h9 => ?_)
                  · refine o_skip (b := decide ((((999999 : Nat) : Int)) < ((m.add).getD (r) 0))) rfl rfl (decide_eq_true h9) ?_
                    refine o_skip (b := decide ((((999999 : Nat) : Int)) < ((m.add).getD (r) 0))) rfl rfl (decide_eq_true h9) ?_
                    refine o_skip (b := decide ((((999999 : Nat) : Int)) < ((m.add).getD (r) 0))) rfl rfl (decide_eq_true h9) ?_
                    refine o_skip (b := decide ((((999999 : Nat) : Int)) < ((m.add).getD (r) 0))) rfl rfl (decide_eq_true h9) ?_
                    refine o_skip (b := decide ((((999999 : Nat) : Int)) < ((m.add).getD (r) 0))) rfl rfl (decide_eq_true h9) ?_
                    refine o_skip (b := decide ((((999999 : Nat) : Int)) < ((m.add).getD (r) 0))) rfl rfl (decide_eq_true h9) ?_
                    refine o_skip (b := decide ((((999999 : Nat) : Int)) < ((m.add).getD (r) 0))) rfl rfl (decide_eq_true h9) ?_
                    refine o_skip (b := decide ((((999999 : Nat) : Int)) < ((m.add).getD (r) 0))) rfl rfl (decide_eq_true h9) ?_
                    refine o_skip (b := decide ((((999999 : Nat) : Int)) < ((m.add).getD (r) 0))) rfl rfl (decide_eq_true h9) ?_
                    refine o_skip (b := decide ((((999999 : Nat) : Int)) < ((m.add).getD (r) 0))) rfl rfl (decide_eq_true h9) ?_
                    refine o_skip (b := decide ((((999999 : Nat) : Int)) < ((m.add).getD (r) 0))) rfl rfl (decide_eq_true h9) ?_
                    refine o_skip (b := decide ((((999999 : Nat) : Int)) < ((m.add).getD (r) 0))) rfl rfl (decide_eq_true h9) ?_
                    refine o_skip (b := decide ((((999999 : Nat) : Int)) < ((m.add).getD (r) 0))) rfl rfl (decide_eq_true h9) ?_
                    refine o_skip (b := decide ((((999999 : Nat) : Int)) < ((m.add).getD (r) 0))) rfl rfl (decide_eq_true h9) ?_
                    refine o_skip (b := decide ((((999999 : Nat) : Int)) < ((m.add).getD (r) 0))) rfl rfl (decide_eq_true h9) ?_
                    refine o_skip (b := decide ((((999999 : Nat) : Int)) < ((m.add).getD (r) 0))) rfl rfl (decide_eq_true h9) ?_
                    refine o_skip (b := decide ((((999999 : Nat) : Int)) < ((m.add).getD (r) 0))) rfl rfl (decide_eq_true h9) ?_
                    refine o_pickT (b := decide ((((999999 : Nat) : Int)) < ((m.add).getD (r) 0))) (AV.lit (.bool true)) Gd.none rfl (decide_eq_true h9) rfl ?_
                    refine aops_end ⟨by kernel_rfl, ?_⟩
                    refine hK12 _ ?_
                    refine awp_condB (b := true) rfl (fun _ => ?_) (fun hh => absurd (hh.symm.trans rfl) (by decide))
                    refine awp_seq fun K16 hK16 => ?_
                    refine awp_region rfl ?_
                    refine o_assign (AV.lit (.bool false)) Gd.none rfl ?_
                    refine aops_end ?_
                    refine hK16 _ ?_
                    refine awp_ret ?_
                    refine post_ret ⟨[(AV.lit (.bool false))], And.intro (AV.le_refl _) (trivial), rfl, ?_⟩
                    refine bl_eq (okM_no fun h => ?_)
                    obtain ⟨o1, o2, o3, o4, o5⟩ := h
                    first | omega | (have := o5 r (by omega); omega)
                  · refine o_fieldRef 1 (Gd.yes rfl rfl (decide_eq_false h9)) Wf_tF24_1 rfl rfl ?_
                    refine o_loadS (AV.sl 1 (is .i64 (m.mul))) (Gd.yes rfl rfl (decide_eq_false h9)) Wf_tS22 rfl rfl rfl ?_
                    refine o_move (nm .i64 (r)) (Gd.yes rfl rfl (decide_eq_false h9)) rfl ?_
                    refine i_index (m.mul) (r) (Gd.yes rfl rfl (decide_eq_false h9)) Wf_tE22 rfl rfl (by omega) ?_
                    refine i_loadI (m.mul) (r) (Gd.yes rfl rfl (decide_eq_false h9)) Wf_tS3 rfl (by omega) ?_
                    refine o_move (nm .i64 (r)) (Gd.yes rfl rfl (decide_eq_false h9)) rfl ?_
                    refine o_mul (a := ((m.mul).getD (r) 0)) (c := (((r : Nat) : Int))) (Gd.yes rfl rfl (decide_eq_false h9)) rfl rfl (by have hm := mulb (a := (m.mul).getD (r) 0) (r := (r : Int)) (by omega) (by omega) (by omega) (by omega); exact wrap64 (by omega) (by omega)) ?_
                    refine o_fieldRef 2 (Gd.yes rfl rfl (decide_eq_false h9)) Wf_tF24_2 rfl rfl ?_
                    refine o_loadS (AV.sl 1 (is .i64 (m.add))) (Gd.yes rfl rfl (decide_eq_false h9)) Wf_tS22 rfl rfl rfl ?_
                    refine o_move (nm .i64 (r)) (Gd.yes rfl rfl (decide_eq_false h9)) rfl ?_
                    refine i_index (m.add) (r) (Gd.yes rfl rfl (decide_eq_false h9)) Wf_tE22 rfl rfl (by omega) ?_
                    refine i_loadI (m.add) (r) (Gd.yes rfl rfl (decide_eq_false h9)) Wf_tS3 rfl (by omega) ?_
                    refine o_add (a := (((m.mul).getD (r) 0) * (((r : Nat) : Int)))) (c := ((m.add).getD (r) 0)) (Gd.yes rfl rfl (decide_eq_false h9)) rfl rfl (by have hm := mulb (a := (m.mul).getD (r) 0) (r := (r : Int)) (by omega) (by omega) (by omega) (by omega); exact wrap64 (by omega) (by omega)) ?_
                    refine o_fieldRef 0 (Gd.yes rfl rfl (decide_eq_false h9)) Wf_tF24_0 rfl rfl ?_
                    refine o_loadS (AV.lit (.int .i64 (m.mod))) (Gd.yes rfl rfl (decide_eq_false h9)) Wf_tS3 rfl rfl rfl ?_
                    refine o_remT (a := ((((m.mul).getD (r) 0) * (((r : Nat) : Int))) + ((m.add).getD (r) 0))) (c := (m.mod)) (Gd.yes rfl rfl (decide_eq_false h9)) rfl rfl (by omega) ?_
                    refine o_neq (a := (Int.tmod ((((m.mul).getD (r) 0) * (((r : Nat) : Int))) + ((m.add).getD (r) 0)) (m.mod))) (c := (((0 : Nat) : Int))) (Gd.yes rfl rfl (decide_eq_false h9)) rfl rfl ?_
                    refine o_pickF (b := decide ((((999999 : Nat) : Int)) < ((m.add).getD (r) 0))) (bp ((Int.tmod ((((m.mul).getD (r) 0) * (((r : Nat) : Int))) + ((m.add).getD (r) 0)) (m.mod)) ≠ (((0 : Nat) : Int)))) Gd.none rfl (decide_eq_false h9) rfl ?_
                    refine aops_end ⟨by kernel_rfl, ?_⟩
                    refine hK12 _ ?_
                    refine awp_condQ (q := (Int.tmod ((((m.mul).getD (r) 0) * (((r : Nat) : Int))) + ((m.add).getD (r) 0)) (m.mod)) ≠ (((0 : Nat) : Int))) rfl (fun h10 => ?_) (fun h10 => ?_)
                    · refine awp_seq fun K17 hK17 => ?_
                      refine awp_region rfl ?_
                      refine o_assign (AV.lit (.bool false)) Gd.none rfl ?_
                      refine aops_end ?_
                      refine hK17 _ ?_
                      refine awp_ret ?_
                      refine post_ret ⟨[(AV.lit (.bool false))], And.intro (AV.le_refl _) (trivial), rfl, ?_⟩
                      refine bl_eq (okM_no fun h => ?_)
                      obtain ⟨o1, o2, o3, o4, o5⟩ := h
                      first | omega | (have := o5 r (by omega); omega)
                    · refine awp_skip ?_
                      refine hK11 _ ?_
                      refine awp_region rfl ?_
                      refine o_move (nm .i64 (r)) Gd.none rfl ?_
                      refine n_add (r) (1) Gd.none rfl rfl (by simp only [topOf]; omega) ?_
                      refine o_assign (nm .i64 ((r) + (1))) Gd.none rfl ?_
                      refine aops_end ?_
                      refine ⟨_, _, ?lt, ⟨r + 1, (by omega), (fun i hi => by by_cases e : i = r; subst e; exact ⟨by omega, by omega, by omega, by omega, by omega⟩; exact hv i (by omega)), rfl, rfl⟩, ?wk⟩
                      case lt => omega
                      case wk => exact Wk.sub (And.intro (by exact rfl) (And.intro (by first | rfl | exact congrArg (nm _) (by omega) | exact nm_int (by omega) | exact nm_int (by simp [IntKind.wrap, IntKind.bits, IntKind.signed]; omega)) (trivial))) (And.intro (by first | rfl | exact row_ns (by simp) | exact congrArg (fun x => some (AO.blk (.stringIter _ x))) (by omega)) (trivial))
          · refine awp_exit ?_
            refine hK7 _ ?_
            refine awp_seq fun K18 hK18 => ?_
            refine awp_region rfl ?_
            refine o_assign (AV.lit (.bool true)) Gd.none rfl ?_
            refine aops_end ?_
            refine hK18 _ ?_
            refine awp_ret ?_
            refine post_ret ⟨[(AV.lit (.bool true))], And.intro (AV.le_refl _) (trivial), rfl, ?_⟩
            refine bl_eq (okM_yes ⟨by omega, by omega, by omega, by omega, fun i hi => hv i (by omega)⟩)

theorem c_gRest (m : MapM) (z : Int) (hm : OkM m) (hz : (digs z.natAbs).length ≤ 1000000) : ECalls cx 87 [(mapV m), (intR (z))] (.lit (.int .i64 (z % m.mod))) := by
  refine ecalls_of_awp Tryd.func87 (c := _) rfl (Nat.le_of_ble_eq_true rfl) ?_
  show awp cx 15 _ (postF cx Tryd.f87 _) ⟨[(0, (mapV m)), (1, (intR (z)))], []⟩
  have hM := hm
  obtain ⟨o1, o2, o3, o4, o5⟩ := hm
  have hr0 := Int.emod_nonneg z (b := m.mod) (by omega)
  have hr1 := Int.emod_lt_of_pos z (b := m.mod) (by omega)
  have hr := o5 (z % m.mod).toNat (by omega)
  refine awp_seq fun K0 hK0 => ?_
  refine awp_region rfl ?_
  refine o_box 2 [(AV.lit (.int .i64 (m.mod))), (AV.sl 1 (is .i64 (m.mul))), (AV.sl 1 (is .i64 (m.add)))] Gd.none rfl rfl ?_
  refine o_box 3 [(bp (z < 0)), (AV.sl 1 (ns .i64 (digs (z).natAbs)))] Gd.none rfl rfl ?_
  refine o_assign (nm .i64 (0)) Gd.none rfl ?_
  refine aops_end ?_
  refine hK0 _ ?_
  refine awp_seq fun K1 hK1 => ?_
  refine awp_region rfl ?_
  refine o_loadA [(bp (z < 0)), (AV.sl 1 (ns .i64 (digs (z).natAbs)))] Gd.none Wf_tA36 rfl rfl rfl rfl rfl ?_
  refine o_fieldRef 0 Gd.none Wf_tF24_0 rfl rfl ?_
  refine o_loadS (AV.lit (.int .i64 (m.mod))) Gd.none Wf_tS3 rfl rfl rfl ?_
  refine n_as (v' := (nm .i64 (m.mod.toNat))) (nm_int (by omega)) ?_
  refine o_call [(AV.agg [(bp (z < 0)), (AV.sl 1 (ns .i64 (digs (z).natAbs)))]), (nm .i64 (m.mod.toNat))] (AV.tup [(intR ((z / ((m.mod.toNat : Nat) : Int)))), (AV.lit (.int .i64 (z % ((m.mod.toNat : Nat) : Int))))]) Gd.none Wf_tC33 rfl (c_rQR (z) (m.mod.toNat) (by omega) (by omega) (by first | assumption | omega | (simp only [Int.natAbs_neg]; omega))) ?_
  refine o_move (AV.tup [(intR ((z / ((m.mod.toNat : Nat) : Int)))), (AV.lit (.int .i64 (z % ((m.mod.toNat : Nat) : Int))))]) Gd.none rfl ?_
  refine o_extract (intR ((z / ((m.mod.toNat : Nat) : Int)))) Gd.none rfl rfl ?_
  refine o_extract (AV.lit (.int .i64 (z % ((m.mod.toNat : Nat) : Int)))) Gd.none rfl rfl ?_
  refine o_alloc 4 [(AV.lit (.bool false)), (AV.lit (.slice none 0 0))] Gd.none Wf_tO36 rfl rfl rfl ?_
  refine o_store [(4, (AO.var 36 [(bp ((z / ((m.mod.toNat : Nat) : Int)) < 0)), (AV.sl 1 (ns .i64 (digs ((z / ((m.mod.toNat : Nat) : Int))).natAbs)))])), (3, (AO.var 36 [(bp (z < 0)), (AV.sl 1 (ns .i64 (digs (z).natAbs)))])), (2, (AO.var 24 [(AV.lit (.int .i64 (m.mod))), (AV.sl 1 (is .i64 (m.mul))), (AV.sl 1 (is .i64 (m.add)))]))] Gd.none Wf_tZ36 rfl rfl rfl rfl rfl rfl ?_
  refine o_assign (AV.lit (.int .i64 (z % ((m.mod.toNat : Nat) : Int)))) Gd.none rfl ?_
  refine aops_end ?_
  refine hK1 _ ?_
  refine awp_seq fun K2 hK2 => ?_
  refine awp_region rfl ?_
  refine o_move (AV.lit (.int .i64 (z % ((m.mod.toNat : Nat) : Int)))) Gd.none rfl ?_
  refine o_assign (AV.lit (.int .i64 (z % ((m.mod.toNat : Nat) : Int)))) Gd.none rfl ?_
  refine aops_end ?_
  refine hK2 _ ?_
  refine awp_ret ?_
  refine post_ret ⟨[(AV.lit (.int .i64 (z % ((m.mod.toNat : Nat) : Int))))], And.intro (AV.le_refl _) (trivial), rfl, ?_⟩
  exact int_eq (by rw [Int.toNat_of_nonneg (by omega)])

theorem c_gStep (m : MapM) (z : Int) (hm : OkM m) (hz : (digs z.natAbs).length ≤ 1000000) : ECalls cx 47 [(mapV m), (intR (z))] (intR (stepZ m z)) := by
  refine ecalls_of_awp Tryd.func47 (c := _) rfl (Nat.le_of_ble_eq_true rfl) ?_
  show awp cx 33 _ (postF cx Tryd.f47 _) ⟨[(0, (mapV m)), (1, (intR (z)))], []⟩
  have hM := hm
  obtain ⟨o1, o2, o3, o4, o5⟩ := hm
  have hr0 := Int.emod_nonneg z (b := m.mod) (by omega)
  have hr1 := Int.emod_lt_of_pos z (b := m.mod) (by omega)
  have hr := o5 (z % m.mod).toNat (by omega)
  have hL1 := small_len (z := ((m.mul).getD ((z % m.mod).toNat) 0)) (by omega)
  have hL2 := small_len (z := ((m.add).getD ((z % m.mod).toNat) 0)) (by omega)
  have hL3 := len_mulZ ((m.mul).getD ((z % m.mod).toNat) 0) z
  have hL4 := len_addZ (((m.mul).getD ((z % m.mod).toNat) 0) * z) ((m.add).getD ((z % m.mod).toNat) 0)
  refine awp_seq fun K0 hK0 => ?_
  refine awp_region rfl ?_
  refine o_box 2 [(AV.lit (.int .i64 (m.mod))), (AV.sl 1 (is .i64 (m.mul))), (AV.sl 1 (is .i64 (m.add)))] Gd.none rfl rfl ?_
  refine o_box 3 [(bp (z < 0)), (AV.sl 1 (ns .i64 (digs (z).natAbs)))] Gd.none rfl rfl ?_
  refine o_alloc 4 [(AV.lit (.bool false)), (AV.lit (.slice none 0 0))] Gd.none Wf_tO36 rfl rfl rfl ?_
  refine aops_end ?_
  refine hK0 _ ?_
  refine awp_seq fun K1 hK1 => ?_
  refine awp_region rfl ?_
  refine o_loadA [(AV.lit (.int .i64 (m.mod))), (AV.sl 1 (is .i64 (m.mul))), (AV.sl 1 (is .i64 (m.add)))] Gd.none Wf_tA24 rfl rfl rfl rfl rfl ?_
  refine o_loadA [(bp (z < 0)), (AV.sl 1 (ns .i64 (digs (z).natAbs)))] Gd.none Wf_tA36 rfl rfl rfl rfl rfl ?_
  refine o_call [(AV.agg [(AV.lit (.int .i64 (m.mod))), (AV.sl 1 (is .i64 (m.mul))), (AV.sl 1 (is .i64 (m.add)))]), (AV.agg [(bp (z < 0)), (AV.sl 1 (ns .i64 (digs (z).natAbs)))])] (AV.lit (.int .i64 (z % m.mod))) Gd.none Wf_tC87 rfl (c_gRest m (z) (by first | assumption | exact okM_iff.1 (by assumption)) (by first | assumption | omega | (simp only [Int.natAbs_neg]; omega))) ?_
  refine o_assign (AV.lit (.int .i64 (z % m.mod))) Gd.none rfl ?_
  refine aops_end ?_
  refine hK1 _ ?_
  refine awp_seq fun K2 hK2 => ?_
  refine awp_regionD rfl ?_
  refine o_fieldRef 1 Gd.none Wf_tF24_1 rfl rfl ?_
  refine o_loadS (AV.sl 1 (is .i64 (m.mul))) Gd.none Wf_tS22 rfl rfl rfl ?_
  refine o_move (AV.lit (.int .i64 (z % m.mod))) Gd.none rfl ?_
  refine n_as (v' := (nm .i64 ((z % m.mod).toNat))) (nm_int (by omega)) ?_
  refine i_index (m.mul) ((z % m.mod).toNat) Gd.none Wf_tE22 rfl rfl (by omega) ?_
  refine i_loadI (m.mul) ((z % m.mod).toNat) Gd.none Wf_tS3 rfl (by omega) ?_
  refine o_call [(AV.lit (.int .i64 ((m.mul).getD ((z % m.mod).toNat) 0)))] (intR ((m.mul).getD ((z % m.mod).toNat) 0)) Gd.none Wf_tC31 rfl (c_rOf ((m.mul).getD ((z % m.mod).toNat) 0) (by first | decide | omega) (by first | decide | omega)) ?_
  refine o_loadA [(bp (z < 0)), (AV.sl 1 (ns .i64 (digs (z).natAbs)))] Gd.none Wf_tA36 rfl rfl rfl rfl rfl ?_
  refine o_call [(intR ((m.mul).getD ((z % m.mod).toNat) 0)), (AV.agg [(bp (z < 0)), (AV.sl 1 (ns .i64 (digs (z).natAbs)))])] (intR (((m.mul).getD ((z % m.mod).toNat) 0 * z))) Gd.none Wf_tC30 rfl (c_rMul ((m.mul).getD ((z % m.mod).toNat) 0) (z) (by first | assumption | omega | (simp only [Int.natAbs_neg]; omega)) (by first | assumption | omega | (simp only [Int.natAbs_neg]; omega))) ?_
  refine o_fieldRef 2 Gd.none Wf_tF24_2 rfl rfl ?_
  refine o_loadS (AV.sl 1 (is .i64 (m.add))) Gd.none Wf_tS22 rfl rfl rfl ?_
  refine o_move (AV.lit (.int .i64 (z % m.mod))) Gd.none rfl ?_
  refine n_as (v' := (nm .i64 ((z % m.mod).toNat))) (nm_int (by omega)) ?_
  refine i_index (m.add) ((z % m.mod).toNat) Gd.none Wf_tE22 rfl rfl (by omega) ?_
  refine i_loadI (m.add) ((z % m.mod).toNat) Gd.none Wf_tS3 rfl (by omega) ?_
  refine o_call [(AV.lit (.int .i64 ((m.add).getD ((z % m.mod).toNat) 0)))] (intR ((m.add).getD ((z % m.mod).toNat) 0)) Gd.none Wf_tC31 rfl (c_rOf ((m.add).getD ((z % m.mod).toNat) 0) (by first | decide | omega) (by first | decide | omega)) ?_
  refine o_call [(intR (((m.mul).getD ((z % m.mod).toNat) 0 * z))), (intR ((m.add).getD ((z % m.mod).toNat) 0))] (intR ((((m.mul).getD ((z % m.mod).toNat) 0 * z) + (m.add).getD ((z % m.mod).toNat) 0))) Gd.none Wf_tC32 rfl (c_rAdd (((m.mul).getD ((z % m.mod).toNat) 0 * z)) ((m.add).getD ((z % m.mod).toNat) 0) (by first | assumption | omega | (simp only [Int.natAbs_neg]; omega)) (by first | assumption | omega | (simp only [Int.natAbs_neg]; omega))) ?_
  refine o_fieldRef 0 Gd.none Wf_tF24_0 rfl rfl ?_
  refine o_loadS (AV.lit (.int .i64 (m.mod))) Gd.none Wf_tS3 rfl rfl rfl ?_
  refine n_as (v' := (nm .i64 (m.mod.toNat))) (nm_int (by omega)) ?_
  refine o_call [(intR ((((m.mul).getD ((z % m.mod).toNat) 0 * z) + (m.add).getD ((z % m.mod).toNat) 0))), (nm .i64 (m.mod.toNat))] (AV.tup [(intR (((((m.mul).getD ((z % m.mod).toNat) 0 * z) + (m.add).getD ((z % m.mod).toNat) 0) / ((m.mod.toNat : Nat) : Int)))), (AV.lit (.int .i64 ((((m.mul).getD ((z % m.mod).toNat) 0 * z) + (m.add).getD ((z % m.mod).toNat) 0) % ((m.mod.toNat : Nat) : Int))))]) Gd.none Wf_tC33 rfl (c_rQR ((((m.mul).getD ((z % m.mod).toNat) 0 * z) + (m.add).getD ((z % m.mod).toNat) 0)) (m.mod.toNat) (by omega) (by omega) (by first | assumption | omega | (simp only [Int.natAbs_neg]; omega))) ?_
  refine o_move (AV.tup [(intR (((((m.mul).getD ((z % m.mod).toNat) 0 * z) + (m.add).getD ((z % m.mod).toNat) 0) / ((m.mod.toNat : Nat) : Int)))), (AV.lit (.int .i64 ((((m.mul).getD ((z % m.mod).toNat) 0 * z) + (m.add).getD ((z % m.mod).toNat) 0) % ((m.mod.toNat : Nat) : Int))))]) Gd.none rfl ?_
  refine o_extract (intR (((((m.mul).getD ((z % m.mod).toNat) 0 * z) + (m.add).getD ((z % m.mod).toNat) 0) / ((m.mod.toNat : Nat) : Int)))) Gd.none rfl rfl ?_
  refine o_extract (AV.lit (.int .i64 ((((m.mul).getD ((z % m.mod).toNat) 0 * z) + (m.add).getD ((z % m.mod).toNat) 0) % ((m.mod.toNat : Nat) : Int)))) Gd.none rfl rfl ?_
  refine o_alloc 5 [(AV.lit (.bool false)), (AV.lit (.slice none 0 0))] Gd.none Wf_tO36 rfl rfl rfl ?_
  refine o_store [(5, (AO.var 36 [(bp (((((m.mul).getD ((z % m.mod).toNat) 0 * z) + (m.add).getD ((z % m.mod).toNat) 0) / ((m.mod.toNat : Nat) : Int)) < 0)), (AV.sl 1 (ns .i64 (digs (((((m.mul).getD ((z % m.mod).toNat) 0 * z) + (m.add).getD ((z % m.mod).toNat) 0) / ((m.mod.toNat : Nat) : Int))).natAbs)))])), (4, (AO.var 36 [(AV.lit (.bool false)), (AV.lit (.slice none 0 0))])), (3, (AO.var 36 [(bp (z < 0)), (AV.sl 1 (ns .i64 (digs (z).natAbs)))])), (2, (AO.var 24 [(AV.lit (.int .i64 (m.mod))), (AV.sl 1 (is .i64 (m.mul))), (AV.sl 1 (is .i64 (m.add)))]))] Gd.none Wf_tZ36 rfl rfl rfl rfl rfl rfl ?_
  refine o_assign (AV.lit (.int .i64 ((((m.mul).getD ((z % m.mod).toNat) 0 * z) + (m.add).getD ((z % m.mod).toNat) 0) % ((m.mod.toNat : Nat) : Int)))) Gd.none rfl ?_
  refine aops_end ⟨by kernel_rfl, ?_⟩
  refine hK2 _ ?_
  refine awp_seq fun K3 hK3 => ?_
  refine awp_region rfl ?_
  refine o_loadA [(bp (((((m.mul).getD ((z % m.mod).toNat) 0 * z) + (m.add).getD ((z % m.mod).toNat) 0) / ((m.mod.toNat : Nat) : Int)) < 0)), (AV.sl 1 (ns .i64 (digs (((((m.mul).getD ((z % m.mod).toNat) 0 * z) + (m.add).getD ((z % m.mod).toNat) 0) / ((m.mod.toNat : Nat) : Int))).natAbs)))] Gd.none Wf_tA36 rfl rfl rfl rfl rfl ?_
  refine o_store [(5, (AO.var 36 [(bp (((((m.mul).getD ((z % m.mod).toNat) 0 * z) + (m.add).getD ((z % m.mod).toNat) 0) / ((m.mod.toNat : Nat) : Int)) < 0)), (AV.sl 1 (ns .i64 (digs (((((m.mul).getD ((z % m.mod).toNat) 0 * z) + (m.add).getD ((z % m.mod).toNat) 0) / ((m.mod.toNat : Nat) : Int))).natAbs)))])), (4, (AO.var 36 [(bp (((((m.mul).getD ((z % m.mod).toNat) 0 * z) + (m.add).getD ((z % m.mod).toNat) 0) / ((m.mod.toNat : Nat) : Int)) < 0)), (AV.sl 1 (ns .i64 (digs (((((m.mul).getD ((z % m.mod).toNat) 0 * z) + (m.add).getD ((z % m.mod).toNat) 0) / ((m.mod.toNat : Nat) : Int))).natAbs)))])), (3, (AO.var 36 [(bp (z < 0)), (AV.sl 1 (ns .i64 (digs (z).natAbs)))])), (2, (AO.var 24 [(AV.lit (.int .i64 (m.mod))), (AV.sl 1 (is .i64 (m.mul))), (AV.sl 1 (is .i64 (m.add)))]))] Gd.none Wf_tZ36 rfl rfl rfl rfl rfl rfl ?_
  refine aops_end ?_
  refine hK3 _ ?_
  refine awp_ret ?_
  refine post_ret ⟨[(AV.agg [(bp (((((m.mul).getD ((z % m.mod).toNat) 0 * z) + (m.add).getD ((z % m.mod).toNat) 0) / ((m.mod.toNat : Nat) : Int)) < 0)), (AV.sl 1 (ns .i64 (digs (((((m.mul).getD ((z % m.mod).toNat) 0 * z) + (m.add).getD ((z % m.mod).toNat) 0) / ((m.mod.toNat : Nat) : Int))).natAbs)))])], And.intro ⟨4, (AO.var 36 [(bp (((((m.mul).getD ((z % m.mod).toNat) 0 * z) + (m.add).getD ((z % m.mod).toNat) 0) / ((m.mod.toNat : Nat) : Int)) < 0)), (AV.sl 1 (ns .i64 (digs (((((m.mul).getD ((z % m.mod).toNat) 0 * z) + (m.add).getD ((z % m.mod).toNat) 0) / ((m.mod.toNat : Nat) : Int))).natAbs)))]), rfl, rfl, rfl, Or.inl ⟨Wf_tA36, AV.le_refl _⟩⟩ (trivial), rfl, ?_⟩
  refine congrArg (intK .i64) ?_
  unfold stepZ
  rw [Int.toNat_of_nonneg (a := m.mod) (by omega)]

theorem c_gAlike (x y : List Int) : ECalls cx 72 [(AV.sl 1 (is .i64 (x))), (AV.sl 1 (is .i64 (y)))] (bp (x = y)) := by
  refine ecalls_of_awp Tryd.func72 (c := _) rfl (Nat.le_of_ble_eq_true rfl) ?_
  show awp cx 26 _ (postF cx Tryd.f72 _) ⟨[(0, (AV.sl 1 (is .i64 (x)))), (1, (AV.sl 1 (is .i64 (y))))], []⟩
  refine awp_bound (i := 0) rfl fun hb => ?_
  replace hb := is_bnd hb
  refine awp_bound (i := 1) rfl fun hb2 => ?_
  replace hb2 := is_bnd hb2
  refine awp_seq fun K0 hK0 => ?_
  refine awp_region rfl ?_
  refine o_assign (AV.lit (.bool false)) Gd.none rfl ?_
  refine aops_end ?_
  refine hK0 _ ?_
  refine awp_seq fun K1 hK1 => ?_
  refine awp_seq fun K2 hK2 => ?_
  refine awp_region rfl ?_
  refine o_move (AV.sl 1 (is .i64 (x))) Gd.none rfl ?_
  refine i_len (x) Gd.none Wf_tU22 rfl ?_
  refine o_move (AV.sl 1 (is .i64 (y))) Gd.none rfl ?_
  refine i_len (y) Gd.none Wf_tU22 rfl ?_
  refine n_neq ((x).length) ((y).length) Gd.none rfl rfl ?_
  refine aops_end ?_
  refine hK2 _ ?_
  refine awp_condQ (q := ((x).length) ≠ ((y).length)) rfl (fun h1 => ?_) (fun h1 => ?_)
  · refine awp_seq fun K3 hK3 => ?_
    refine awp_region rfl ?_
    refine o_assign (AV.lit (.bool false)) Gd.none rfl ?_
    refine aops_end ?_
    refine hK3 _ ?_
    refine awp_ret ?_
    refine post_ret ⟨[(AV.lit (.bool false))], And.intro (AV.le_refl _) (trivial), rfl, ?_⟩
    exact (bl_bp (b := false) (by constructor <;> intro h <;> first | (exfalso; subst h; exact h1 rfl) | cases h)).symm
  · refine awp_skip ?_
    refine hK1 _ ?_
    refine awp_seq fun K4 hK4 => ?_
    refine awp_seq fun K5 hK5 => ?_
    refine awp_region rfl ?_
    refine o_assign (nm .i64 (0)) Gd.none rfl ?_
    refine aops_end ?_
    refine hK5 _ ?_
    refine awp_block ?_
    refine awp_loopR (fun κ σ => ∃ (i : Nat), (i ≤ x.length) ∧ (∀ k, k < i → x.getD k 0 = y.getD k 0) ∧ (x.length - i) = κ ∧ σ = ⟨[(0, (AV.sl 1 (is .i64 (x)))), (1, (AV.sl 1 (is .i64 (y)))), (5, (nm .i64 (i)))], []⟩) ⟨_, _, ⟨0, (by omega), (fun k hk => by omega), rfl, rfl⟩, ?wk0⟩ ?rd0
    case wk0 =>
      exact Wk.sub (And.intro (by exact rfl) (And.intro (by exact rfl) (And.intro (by first | rfl | exact congrArg (nm _) (by omega) | exact nm_int (by omega) | exact nm_int (by simp [IntKind.wrap, IntKind.bits, IntKind.signed]; omega)) (trivial)))) (trivial)
    rintro κ _ ⟨i, hi, hv, rfl, rfl⟩
    refine awp_seq fun K6 hK6 => ?_
    refine awp_seq fun K7 hK7 => ?_
    refine awp_region rfl ?_
    refine o_move (nm .i64 (i)) Gd.none rfl ?_
    refine o_move (AV.sl 1 (is .i64 (x))) Gd.none rfl ?_
    refine i_len (x) Gd.none Wf_tU22 rfl ?_
    refine n_lss (i) ((x).length) Gd.none rfl rfl ?_
    refine aops_end ?_
    refine hK7 _ ?_
    refine awp_condQ (q := (i) < ((x).length)) rfl (fun h2 => ?_) (fun h2 => ?_)
    · refine awp_skip ?_
      refine hK6 _ ?_
      refine awp_seq fun K8 hK8 => ?_
      refine awp_block ?_
      refine awp_seq fun K9 hK9 => ?_
      refine awp_regionD rfl ?_
      refine o_move (AV.sl 1 (is .i64 (x))) Gd.none rfl ?_
      refine o_move (nm .i64 (i)) Gd.none rfl ?_
      refine i_index (x) (i) Gd.none Wf_tE22 rfl rfl (by omega) ?_
      refine i_loadI (x) (i) Gd.none Wf_tS3 rfl (by omega) ?_
      refine o_move (AV.sl 1 (is .i64 (y))) Gd.none rfl ?_
      refine o_move (nm .i64 (i)) Gd.none rfl ?_
      refine i_index (y) (i) Gd.none Wf_tE22 rfl rfl (by omega) ?_
      refine i_loadI (y) (i) Gd.none Wf_tS3 rfl (by omega) ?_
      refine o_neq (a := ((x).getD (i) 0)) (c := ((y).getD (i) 0)) Gd.none rfl rfl ?_
      refine aops_end ⟨by kernel_rfl, ?_⟩
      refine hK9 _ ?_
      refine awp_condQ (q := ((x).getD (i) 0) ≠ ((y).getD (i) 0)) rfl (fun h3 => ?_) (fun h3 => ?_)
      · refine awp_seq fun K10 hK10 => ?_
        refine awp_region rfl ?_
        refine o_assign (AV.lit (.bool false)) Gd.none rfl ?_
        refine aops_end ?_
        refine hK10 _ ?_
        refine awp_ret ?_
        refine post_ret ⟨[(AV.lit (.bool false))], And.intro (AV.le_refl _) (trivial), rfl, ?_⟩
        exact (bl_bp (b := false) (by constructor <;> intro h <;> first | (exfalso; subst h; exact h3 rfl) | cases h)).symm
      · refine awp_skip ?_
        refine hK8 _ ?_
        refine awp_region rfl ?_
        refine o_move (nm .i64 (i)) Gd.none rfl ?_
        refine n_add (i) (1) Gd.none rfl rfl (by simp only [topOf]; omega) ?_
        refine o_assign (nm .i64 ((i) + (1))) Gd.none rfl ?_
        refine aops_end ?_
        refine ⟨_, _, ?lt, ⟨i + 1, (by omega), (fun k hk => by by_cases e : k = i; subst e; omega; exact hv k (by omega)), rfl, rfl⟩, ?wk⟩
        case lt => omega
        case wk => exact Wk.sub (And.intro (by exact rfl) (And.intro (by exact rfl) (And.intro (by first | rfl | exact congrArg (nm _) (by omega) | exact nm_int (by omega) | exact nm_int (by simp [IntKind.wrap, IntKind.bits, IntKind.signed]; omega)) (trivial)))) (trivial)
    · refine awp_exit ?_
      refine hK4 _ ?_
      refine awp_seq fun K11 hK11 => ?_
      refine awp_region rfl ?_
      refine o_assign (AV.lit (.bool true)) Gd.none rfl ?_
      refine aops_end ?_
      refine hK11 _ ?_
      refine awp_ret ?_
      refine post_ret ⟨[(AV.lit (.bool true))], And.intro (AV.le_refl _) (trivial), rfl, ?_⟩
      exact (bl_bp (b := true) ⟨fun _ => list_ext (by omega) (fun k hk => hv k (by omega)), fun _ => rfl⟩).symm

theorem c_gSame (x y : MapM) : ECalls cx 20 [(mapV x), (mapV y)] (bp (x = y)) := by
  refine ecalls_of_awp Tryd.func20 (c := _) rfl (Nat.le_of_ble_eq_true rfl) ?_
  show awp cx 24 _ (postF cx Tryd.f20 _) ⟨[(0, (mapV x)), (1, (mapV y))], []⟩
  refine awp_seq fun K0 hK0 => ?_
  refine awp_region rfl ?_
  refine o_box 2 [(AV.lit (.int .i64 (x.mod))), (AV.sl 1 (is .i64 (x.mul))), (AV.sl 1 (is .i64 (x.add)))] Gd.none rfl rfl ?_
  refine o_box 3 [(AV.lit (.int .i64 (y.mod))), (AV.sl 1 (is .i64 (y.mul))), (AV.sl 1 (is .i64 (y.add)))] Gd.none rfl rfl ?_
  refine o_assign (AV.lit (.bool false)) Gd.none rfl ?_
  refine aops_end ?_
  refine hK0 _ ?_
  refine awp_seq fun K1 hK1 => ?_
  refine awp_region rfl ?_
  refine o_fieldRef 0 Gd.none Wf_tF24_0 rfl rfl ?_
  refine o_loadS (AV.lit (.int .i64 (x.mod))) Gd.none Wf_tS3 rfl rfl rfl ?_
  refine o_fieldRef 0 Gd.none Wf_tF24_0 rfl rfl ?_
  refine o_loadS (AV.lit (.int .i64 (y.mod))) Gd.none Wf_tS3 rfl rfl rfl ?_
  refine o_eql (a := (x.mod)) (c := (y.mod)) Gd.none rfl rfl ?_
  refine o_move (bp ((x.mod) = (y.mod))) Gd.none rfl ?_
  refine o_splitP (q := (x.mod) = (y.mod)) 10 rfl (fun h1 => ?_) (fun h1 => ?_)
  · refine o_fieldRef 1 (Gd.yes rfl rfl (decide_eq_true h1)) Wf_tF24_1 rfl rfl ?_
    refine o_loadS (AV.sl 1 (is .i64 (x.mul))) (Gd.yes rfl rfl (decide_eq_true h1)) Wf_tS22 rfl rfl rfl ?_
    refine o_fieldRef 1 (Gd.yes rfl rfl (decide_eq_true h1)) Wf_tF24_1 rfl rfl ?_
    refine o_loadS (AV.sl 1 (is .i64 (y.mul))) (Gd.yes rfl rfl (decide_eq_true h1)) Wf_tS22 rfl rfl rfl ?_
    refine o_call [(AV.sl 1 (is .i64 (x.mul))), (AV.sl 1 (is .i64 (y.mul)))] (bp (x.mul = y.mul)) (Gd.yes rfl rfl (decide_eq_true h1)) Wf_tC72 rfl (c_gAlike (x.mul) (y.mul)) ?_
    refine o_pickT (b := decide ((x.mod) = (y.mod))) (bp (x.mul = y.mul)) Gd.none rfl (decide_eq_true h1) rfl ?_
    refine o_move (bp (x.mul = y.mul)) Gd.none rfl ?_
    refine o_splitP (q := x.mul = y.mul) 17 rfl (fun h2 => ?_) (fun h2 => ?_)
    · refine o_fieldRef 2 (Gd.yes rfl rfl (decide_eq_true h2)) Wf_tF24_2 rfl rfl ?_
      refine o_loadS (AV.sl 1 (is .i64 (x.add))) (Gd.yes rfl rfl (decide_eq_true h2)) Wf_tS22 rfl rfl rfl ?_
      refine o_fieldRef 2 (Gd.yes rfl rfl (decide_eq_true h2)) Wf_tF24_2 rfl rfl ?_
      refine o_loadS (AV.sl 1 (is .i64 (y.add))) (Gd.yes rfl rfl (decide_eq_true h2)) Wf_tS22 rfl rfl rfl ?_
      refine o_call [(AV.sl 1 (is .i64 (x.add))), (AV.sl 1 (is .i64 (y.add)))] (bp (x.add = y.add)) (Gd.yes rfl rfl (decide_eq_true h2)) Wf_tC72 rfl (c_gAlike (x.add) (y.add)) ?_
      refine o_pickT (b := decide (x.mul = y.mul)) (bp (x.add = y.add)) Gd.none rfl (decide_eq_true h2) rfl ?_
      refine o_assign (bp (x.add = y.add)) Gd.none rfl ?_
      refine aops_end ?_
      refine hK1 _ ?_
      refine awp_ret ?_
      refine post_ret ⟨[(bp (x.add = y.add))], And.intro (AV.le_refl _) (trivial), rfl, ?_⟩
      first | (exact bp_congr (by rw [map_ext]; simp only [*, true_and]; first | done | (constructor <;> intro h <;> first | exact h | exact h.2 | exact h.2.2 | skip))) | (exact (bl_bp (b := false) (by rw [map_ext]; constructor <;> intro h; cases h; simp_all)).symm)
    · refine o_skip (b := decide (x.mul = y.mul)) rfl rfl (decide_eq_false h2) ?_
      refine o_skip (b := decide (x.mul = y.mul)) rfl rfl (decide_eq_false h2) ?_
      refine o_skip (b := decide (x.mul = y.mul)) rfl rfl (decide_eq_false h2) ?_
      refine o_skip (b := decide (x.mul = y.mul)) rfl rfl (decide_eq_false h2) ?_
      refine o_skip (b := decide (x.mul = y.mul)) rfl rfl (decide_eq_false h2) ?_
      refine o_pickF (b := decide (x.mul = y.mul)) (AV.lit (.bool false)) Gd.none rfl (decide_eq_false h2) rfl ?_
      refine o_assign (AV.lit (.bool false)) Gd.none rfl ?_
      refine aops_end ?_
      refine hK1 _ ?_
      refine awp_ret ?_
      refine post_ret ⟨[(AV.lit (.bool false))], And.intro (AV.le_refl _) (trivial), rfl, ?_⟩
      first | (exact bp_congr (by rw [map_ext]; simp only [*, true_and]; first | done | (constructor <;> intro h <;> first | exact h | exact h.2 | exact h.2.2 | skip))) | (exact (bl_bp (b := false) (by rw [map_ext]; constructor <;> intro h; cases h; simp_all)).symm)
  · refine o_skip (b := decide ((x.mod) = (y.mod))) rfl rfl (decide_eq_false h1) ?_
    refine o_skip (b := decide ((x.mod) = (y.mod))) rfl rfl (decide_eq_false h1) ?_
    refine o_skip (b := decide ((x.mod) = (y.mod))) rfl rfl (decide_eq_false h1) ?_
    refine o_skip (b := decide ((x.mod) = (y.mod))) rfl rfl (decide_eq_false h1) ?_
    refine o_skip (b := decide ((x.mod) = (y.mod))) rfl rfl (decide_eq_false h1) ?_
    refine o_pickF (b := decide ((x.mod) = (y.mod))) (AV.lit (.bool false)) Gd.none rfl (decide_eq_false h1) rfl ?_
    refine o_move (AV.lit (.bool false)) Gd.none rfl ?_
    refine o_skip (b := false) rfl rfl rfl ?_
    refine o_skip (b := false) rfl rfl rfl ?_
    refine o_skip (b := false) rfl rfl rfl ?_
    refine o_skip (b := false) rfl rfl rfl ?_
    refine o_skip (b := false) rfl rfl rfl ?_
    refine o_pickF (b := false) (AV.lit (.bool false)) Gd.none rfl rfl rfl ?_
    refine o_assign (AV.lit (.bool false)) Gd.none rfl ?_
    refine aops_end ?_
    refine hK1 _ ?_
    refine awp_ret ?_
    refine post_ret ⟨[(AV.lit (.bool false))], And.intro (AV.le_refl _) (trivial), rfl, ?_⟩
    first | (exact bp_congr (by rw [map_ext]; simp only [*, true_and]; first | done | (constructor <;> intro h <;> first | exact h | exact h.2 | exact h.2.2 | skip))) | (exact (bl_bp (b := false) (by rw [map_ext]; constructor <;> intro h; cases h; simp_all)).symm)

theorem c_gTwin (m : MapM) (h1 : m.mul.length ≤ 17592186044416) (h2 : m.add.length ≤ 17592186044416) : ECalls cx 18 [(mapV m)] (mapV m) := by
  refine ecalls_of_awp Tryd.func18 (c := _) rfl (Nat.le_of_ble_eq_true rfl) ?_
  show awp cx 14 _ (postF cx Tryd.f18 _) ⟨[(0, (mapV m))], []⟩
  refine awp_seq fun K0 hK0 => ?_
  refine awp_region rfl ?_
  refine o_box 2 [(AV.lit (.int .i64 (m.mod))), (AV.sl 1 (is .i64 (m.mul))), (AV.sl 1 (is .i64 (m.add)))] Gd.none rfl rfl ?_
  refine o_alloc 3 [(nm .i64 (0)), (AV.lit (.slice none 0 0)), (AV.lit (.slice none 0 0))] Gd.none Wf_tO24 rfl rfl rfl ?_
  refine aops_end ?_
  refine hK0 _ ?_
  refine awp_seq fun K1 hK1 => ?_
  refine awp_regionD rfl ?_
  refine o_fieldRef 0 Gd.none Wf_tF24_0 rfl rfl ?_
  refine o_loadS (AV.lit (.int .i64 (m.mod))) Gd.none Wf_tS3 rfl rfl rfl ?_
  refine o_buildSlice 4 (ns .i64 ([])) [] Gd.none Wf_tE22 rfl Wf_tO3 rfl rfl rfl rfl rfl rfl rfl ?_
  refine o_fieldRef 1 Gd.none Wf_tF24_1 rfl rfl ?_
  refine o_loadS (AV.sl 1 (is .i64 (m.mul))) Gd.none Wf_tS22 rfl rfl rfl ?_
  refine o_append 5 (is .i64 (m.mul)) (is .i64 (m.mul)) _ [(3, (AO.var 24 [(nm .i64 (0)), (AV.lit (.slice none 0 0)), (AV.lit (.slice none 0 0))])), (2, (AO.var 24 [(AV.lit (.int .i64 (m.mod))), (AV.sl 1 (is .i64 (m.mul))), (AV.sl 1 (is .i64 (m.add)))]))] Gd.none Wf_tE22 rfl Wf_tO3 rfl rfl rfl (.inl ⟨rfl, rfl⟩) (by simp [is, ns]; omega) (by simp [is, ns]; omega) rfl rfl rfl ?_
  refine o_buildSlice 6 (ns .i64 ([])) [] Gd.none Wf_tE22 rfl Wf_tO3 rfl rfl rfl rfl rfl rfl rfl ?_
  refine o_fieldRef 2 Gd.none Wf_tF24_2 rfl rfl ?_
  refine o_loadS (AV.sl 1 (is .i64 (m.add))) Gd.none Wf_tS22 rfl rfl rfl ?_
  refine o_append 7 (is .i64 (m.add)) (is .i64 (m.add)) _ [(5, (AO.row 3 1 (is .i64 (m.mul)))), (3, (AO.var 24 [(nm .i64 (0)), (AV.lit (.slice none 0 0)), (AV.lit (.slice none 0 0))])), (2, (AO.var 24 [(AV.lit (.int .i64 (m.mod))), (AV.sl 1 (is .i64 (m.mul))), (AV.sl 1 (is .i64 (m.add)))]))] Gd.none Wf_tE22 rfl Wf_tO3 rfl rfl rfl (.inl ⟨rfl, rfl⟩) (by simp [is, ns]; omega) (by simp [is, ns]; omega) rfl rfl rfl ?_
  refine o_build [(AV.lit (.int .i64 (m.mod))), (AV.row 5), (AV.row 7)] [(0, [(AV.lit (.int .i64 (m.mod)))]), (1, [(AV.row 5)]), (2, [(AV.row 7)])] Gd.none Wf_tP24 Wf_tO24 rfl rfl rfl ?_
  refine o_store [(7, (AO.row 3 1 (is .i64 (m.add)))), (5, (AO.row 3 1 (is .i64 (m.mul)))), (3, (AO.var 24 [(AV.lit (.int .i64 (m.mod))), (AV.row 5), (AV.row 7)])), (2, (AO.var 24 [(AV.lit (.int .i64 (m.mod))), (AV.sl 1 (is .i64 (m.mul))), (AV.sl 1 (is .i64 (m.add)))]))] Gd.none Wf_tZ24 rfl rfl rfl rfl rfl rfl ?_
  refine aops_end ⟨by kernel_rfl, ?_⟩
  refine hK1 _ ?_
  refine awp_wk (σ' := ⟨[(2, (AV.ref 3 (0)))], [(3, (AO.var 24 [(AV.lit (.int .i64 (m.mod))), (AV.row 5), (AV.row 7)])), (5, (AO.row 3 1 (is .i64 (m.mul)))), (7, (AO.row 3 1 (is .i64 (m.add))))]⟩) (Wk.sub (And.intro rfl (trivial)) (And.intro rfl (And.intro rfl (And.intro rfl (trivial))))) ?_
  refine awp_wk (σ' := ⟨[(2, (AV.ref 3 (0)))], [(3, (AO.var 24 [(AV.lit (.int .i64 (m.mod))), (AV.sl 1 (is .i64 (m.mul))), (AV.row 7)])), (7, (AO.row 3 1 (is .i64 (m.add))))]⟩) (Wk.freeze (id := 5) (e := 3) (sz := 1) (cs := (is .i64 (m.mul))) rfl) ?_
  refine awp_wk (σ' := ⟨[(2, (AV.ref 3 (0)))], [(3, (AO.var 24 [(AV.lit (.int .i64 (m.mod))), (AV.sl 1 (is .i64 (m.mul))), (AV.sl 1 (is .i64 (m.add)))]))]⟩) (Wk.freeze (id := 7) (e := 3) (sz := 1) (cs := (is .i64 (m.add))) rfl) ?_
  refine awp_ret ?_
  refine post_ret ⟨[(AV.agg [(AV.lit (.int .i64 (m.mod))), (AV.sl 1 (is .i64 (m.mul))), (AV.sl 1 (is .i64 (m.add)))])], And.intro ⟨3, (AO.var 24 [(AV.lit (.int .i64 (m.mod))), (AV.sl 1 (is .i64 (m.mul))), (AV.sl 1 (is .i64 (m.add)))]), rfl, rfl, rfl, Or.inl ⟨Wf_tA24, AV.le_refl _⟩⟩ (trivial), rfl, ?_⟩
  rfl

theorem c_gRun (m : MapM) (z : Int) (k : Nat) (hm : OkM m) (hz : (digs z.natAbs).length ≤ 1000000) (hk : k ≤ 1000000) : ECalls cx 48 [(mapV m), (intR (z)), (nm .i64 (k))] (.tup [intR (runZ m k z), bp (Fit (runZ m k z))]) := by
  refine ecalls_of_awp Tryd.func48 (c := _) rfl (Nat.le_of_ble_eq_true rfl) ?_
  show awp cx 24 _ (postF cx Tryd.f48 _) ⟨[(0, (mapV m)), (1, (intR (z))), (2, (nm .i64 (k)))], []⟩
  have hM := hm
  refine awp_seq fun K0 hK0 => ?_
  refine awp_region rfl ?_
  refine o_box 2 [(AV.lit (.int .i64 (m.mod))), (AV.sl 1 (is .i64 (m.mul))), (AV.sl 1 (is .i64 (m.add)))] Gd.none rfl rfl ?_
  refine o_box 3 [(bp (z < 0)), (AV.sl 1 (ns .i64 (digs (z).natAbs)))] Gd.none rfl rfl ?_
  refine o_alloc 4 [(AV.lit (.bool false)), (AV.lit (.slice none 0 0))] Gd.none Wf_tO36 rfl rfl rfl ?_
  refine o_assign (AV.lit (.bool false)) Gd.none rfl ?_
  refine aops_end ?_
  refine hK0 _ ?_
  refine awp_seq fun K1 hK1 => ?_
  refine awp_seq fun K2 hK2 => ?_
  refine awp_region rfl ?_
  refine o_assign (nm .i64 (0)) Gd.none rfl ?_
  refine aops_end ?_
  refine hK2 _ ?_
  refine awp_block ?_
  refine awp_loopR (fun κ σ => ∃ (i : Nat), ∃ (x : Int), (i ≤ k) ∧ ((digs x.natAbs).length ≤ 1000000) ∧ (runZ m (k - i) x = runZ m k z) ∧ (k - i) = κ ∧ σ = ⟨[(2, (nm .i64 (k))), (3, (AV.ref 2 (0))), (4, (AV.ref 3 (0))), (6, (AV.ref 4 (0))), (8, (nm .i64 (i)))], [(2, (AO.var 24 [(AV.lit (.int .i64 (m.mod))), (AV.sl 1 (is .i64 (m.mul))), (AV.sl 1 (is .i64 (m.add)))])), (3, (AO.var 36 [(bp (x < 0)), (AV.sl 1 (ns .i64 (digs (x).natAbs)))])), (4, (AO.var 36 [(AV.lit (.bool false)), (AV.lit (.slice none 0 0))]))]⟩) ⟨_, _, ⟨0, z, (by omega), hz, rfl, rfl, rfl⟩, ?wk0⟩ ?rd0
  case wk0 =>
    exact Wk.sub (And.intro (by exact rfl) (And.intro (by exact rfl) (And.intro (by exact rfl) (And.intro (by exact rfl) (And.intro (by first | rfl | exact congrArg (nm _) (by omega) | exact nm_int (by omega) | exact nm_int (by simp [IntKind.wrap, IntKind.bits, IntKind.signed]; omega)) (trivial)))))) (And.intro (by first | rfl | exact row_ns (by simp) | exact congrArg (fun x => some (AO.blk (.stringIter _ x))) (by omega)) (And.intro (by first | rfl | exact row_ns (by simp) | exact congrArg (fun x => some (AO.blk (.stringIter _ x))) (by omega)) (And.intro (by first | rfl | exact row_ns (by simp) | exact congrArg (fun x => some (AO.blk (.stringIter _ x))) (by omega)) (trivial))))
  rintro κ _ ⟨i, x, hi, hx, hv, rfl, rfl⟩
  refine awp_seq fun K3 hK3 => ?_
  refine awp_seq fun K4 hK4 => ?_
  refine awp_region rfl ?_
  refine o_move (nm .i64 (i)) Gd.none rfl ?_
  refine o_move (nm .i64 (k)) Gd.none rfl ?_
  refine n_lss (i) (k) Gd.none rfl rfl ?_
  refine o_move (bp ((i) < (k))) Gd.none rfl ?_
  refine o_splitP (q := (i) < (k)) 12 rfl (fun h1 => ?_) (fun h1 => ?_)
  · refine o_loadA [(bp (x < 0)), (AV.sl 1 (ns .i64 (digs (x).natAbs)))] (Gd.yes rfl rfl (decide_eq_true h1)) Wf_tA36 rfl rfl rfl rfl rfl ?_
    refine o_call [(AV.agg [(bp (x < 0)), (AV.sl 1 (ns .i64 (digs (x).natAbs)))])] (bp (Fit (x))) (Gd.yes rfl rfl (decide_eq_true h1)) Wf_tC25 rfl (c_rFits (x) (by first | assumption | omega | (simp only [Int.natAbs_neg]; omega))) ?_
    refine o_pickT (b := decide ((i) < (k))) (bp (Fit (x))) Gd.none rfl (decide_eq_true h1) rfl ?_
    refine aops_end ?_
    refine hK4 _ ?_
    refine awp_condQ (q := Fit (x)) rfl (fun h2 => ?_) (fun h2 => ?_)
    · refine awp_skip ?_
      refine hK3 _ ?_
      refine awp_seq fun K5 hK5 => ?_
      refine awp_block ?_
      refine awp_region rfl ?_
      refine o_loadA [(AV.lit (.int .i64 (m.mod))), (AV.sl 1 (is .i64 (m.mul))), (AV.sl 1 (is .i64 (m.add)))] Gd.none Wf_tA24 rfl rfl rfl rfl rfl ?_
      refine o_loadA [(bp (x < 0)), (AV.sl 1 (ns .i64 (digs (x).natAbs)))] Gd.none Wf_tA36 rfl rfl rfl rfl rfl ?_
      refine o_call [(AV.agg [(AV.lit (.int .i64 (m.mod))), (AV.sl 1 (is .i64 (m.mul))), (AV.sl 1 (is .i64 (m.add)))]), (AV.agg [(bp (x < 0)), (AV.sl 1 (ns .i64 (digs (x).natAbs)))])] (intR ((stepZ m x))) Gd.none Wf_tC47 rfl (c_gStep m (x) (by first | assumption | exact okM_iff.1 (by assumption)) (by first | assumption | omega | (simp only [Int.natAbs_neg]; omega))) ?_
      refine o_store [(2, (AO.var 24 [(AV.lit (.int .i64 (m.mod))), (AV.sl 1 (is .i64 (m.mul))), (AV.sl 1 (is .i64 (m.add)))])), (3, (AO.var 36 [(bp ((stepZ m x) < 0)), (AV.sl 1 (ns .i64 (digs ((stepZ m x)).natAbs)))])), (4, (AO.var 36 [(AV.lit (.bool false)), (AV.lit (.slice none 0 0))]))] Gd.none Wf_tZ36 rfl rfl rfl rfl rfl rfl ?_
      refine aops_end ?_
      refine hK5 _ ?_
      refine awp_region rfl ?_
      refine o_move (nm .i64 (i)) Gd.none rfl ?_
      refine n_add (i) (1) Gd.none rfl rfl (by simp only [topOf]; omega) ?_
      refine o_assign (nm .i64 ((i) + (1))) Gd.none rfl ?_
      refine aops_end ?_
      refine ⟨_, _, ?lt, ⟨i + 1, stepZ m x, (by omega), (by have := step_len hm (fit_len (by assumption)) (by decide); omega), (by rw [← hv, show k - i = (k - (i + 1)) + 1 by omega, runZ, if_pos (by assumption)]), rfl, rfl⟩, ?wk⟩
      case lt => omega
      case wk => exact Wk.sub (And.intro (by exact rfl) (And.intro (by exact rfl) (And.intro (by exact rfl) (And.intro (by exact rfl) (And.intro (by first | rfl | exact congrArg (nm _) (by omega) | exact nm_int (by omega) | exact nm_int (by simp [IntKind.wrap, IntKind.bits, IntKind.signed]; omega)) (trivial)))))) (And.intro (by first | rfl | exact row_ns (by simp) | exact congrArg (fun x => some (AO.blk (.stringIter _ x))) (by omega)) (And.intro (by first | rfl | exact row_ns (by simp) | exact congrArg (fun x => some (AO.blk (.stringIter _ x))) (by omega)) (And.intro (by first | rfl | exact row_ns (by simp) | exact congrArg (fun x => some (AO.blk (.stringIter _ x))) (by omega)) (trivial))))
    · refine awp_exit ?_
      refine hK1 _ ?_
      refine awp_seq fun K6 hK6 => ?_
      refine awp_regionD rfl ?_
      refine o_loadA [(bp (x < 0)), (AV.sl 1 (ns .i64 (digs (x).natAbs)))] Gd.none Wf_tA36 rfl rfl rfl rfl rfl ?_
      refine o_loadA [(bp (x < 0)), (AV.sl 1 (ns .i64 (digs (x).natAbs)))] Gd.none Wf_tA36 rfl rfl rfl rfl rfl ?_
      refine o_call [(AV.agg [(bp (x < 0)), (AV.sl 1 (ns .i64 (digs (x).natAbs)))])] (bp (Fit (x))) Gd.none Wf_tC25 rfl (c_rFits (x) (by first | assumption | omega | (simp only [Int.natAbs_neg]; omega))) ?_
      refine o_store [(2, (AO.var 24 [(AV.lit (.int .i64 (m.mod))), (AV.sl 1 (is .i64 (m.mul))), (AV.sl 1 (is .i64 (m.add)))])), (3, (AO.var 36 [(bp (x < 0)), (AV.sl 1 (ns .i64 (digs (x).natAbs)))])), (4, (AO.var 36 [(bp (x < 0)), (AV.sl 1 (ns .i64 (digs (x).natAbs)))]))] Gd.none Wf_tZ36 rfl rfl rfl rfl rfl rfl ?_
      refine o_assign (bp (Fit (x))) Gd.none rfl ?_
      refine aops_end ⟨by kernel_rfl, ?_⟩
      refine hK6 _ ?_
      refine awp_ret ?_
      refine post_ret ⟨[(AV.agg [(bp (x < 0)), (AV.sl 1 (ns .i64 (digs (x).natAbs)))]), (bp (Fit (x)))], And.intro ⟨4, (AO.var 36 [(bp (x < 0)), (AV.sl 1 (ns .i64 (digs (x).natAbs)))]), rfl, rfl, rfl, Or.inl ⟨Wf_tA36, AV.le_refl _⟩⟩ (And.intro (AV.le_refl _) (trivial)), rfl, ?_⟩
      have e : x = runZ m k z := by
        rw [← hv]
        rcases Nat.eq_zero_or_pos (k - i) with h0 | h0
        · rw [h0]; rfl
        · rw [show k - i = (k - i - 1) + 1 by omega, runZ, if_neg (by first | assumption | omega)]
      rw [← e]
      rfl
  · refine o_skip (b := decide ((i) < (k))) rfl rfl (decide_eq_false h1) ?_
    refine o_skip (b := decide ((i) < (k))) rfl rfl (decide_eq_false h1) ?_
    refine o_pickF (b := decide ((i) < (k))) (AV.lit (.bool false)) Gd.none rfl (decide_eq_false h1) rfl ?_
    refine aops_end ?_
    refine hK4 _ ?_
    refine awp_condB (b := false) rfl (fun hh => absurd (hh.symm.trans rfl) (by decide)) (fun _ => ?_)
    refine awp_exit ?_
    refine hK1 _ ?_
    refine awp_seq fun K7 hK7 => ?_
    refine awp_regionD rfl ?_
    refine o_loadA [(bp (x < 0)), (AV.sl 1 (ns .i64 (digs (x).natAbs)))] Gd.none Wf_tA36 rfl rfl rfl rfl rfl ?_
    refine o_loadA [(bp (x < 0)), (AV.sl 1 (ns .i64 (digs (x).natAbs)))] Gd.none Wf_tA36 rfl rfl rfl rfl rfl ?_
    refine o_call [(AV.agg [(bp (x < 0)), (AV.sl 1 (ns .i64 (digs (x).natAbs)))])] (bp (Fit (x))) Gd.none Wf_tC25 rfl (c_rFits (x) (by first | assumption | omega | (simp only [Int.natAbs_neg]; omega))) ?_
    refine o_store [(2, (AO.var 24 [(AV.lit (.int .i64 (m.mod))), (AV.sl 1 (is .i64 (m.mul))), (AV.sl 1 (is .i64 (m.add)))])), (3, (AO.var 36 [(bp (x < 0)), (AV.sl 1 (ns .i64 (digs (x).natAbs)))])), (4, (AO.var 36 [(bp (x < 0)), (AV.sl 1 (ns .i64 (digs (x).natAbs)))]))] Gd.none Wf_tZ36 rfl rfl rfl rfl rfl rfl ?_
    refine o_assign (bp (Fit (x))) Gd.none rfl ?_
    refine aops_end ⟨by kernel_rfl, ?_⟩
    refine hK7 _ ?_
    refine awp_ret ?_
    refine post_ret ⟨[(AV.agg [(bp (x < 0)), (AV.sl 1 (ns .i64 (digs (x).natAbs)))]), (bp (Fit (x)))], And.intro ⟨4, (AO.var 36 [(bp (x < 0)), (AV.sl 1 (ns .i64 (digs (x).natAbs)))]), rfl, rfl, rfl, Or.inl ⟨Wf_tA36, AV.le_refl _⟩⟩ (And.intro (AV.le_refl _) (trivial)), rfl, ?_⟩
    have e : x = runZ m k z := by
      rw [← hv]
      rcases Nat.eq_zero_or_pos (k - i) with h0 | h0
      · rw [h0]; rfl
      · rw [show k - i = (k - i - 1) + 1 by omega, runZ, if_neg (by first | assumption | omega)]
    rw [← e]
    rfl

theorem c_gOrbit (m : MapM) (z : Int) (k : Nat) (hm : OkM m) (hk : k ≤ 1000000) (hz : (digs z.natAbs).length ≤ 1000000) : ECalls cx 23 [(mapV m), (intR (z)), (nm .i64 (k))] (.sl 2 (rcells (orbZ m k z))) := by
  refine ecalls_of_awp Tryd.func23 (c := _) rfl (Nat.le_of_ble_eq_true rfl) ?_
  show awp cx 28 _ (postF cx Tryd.f23 _) ⟨[(0, (mapV m)), (1, (intR (z))), (2, (nm .i64 (k)))], []⟩
  have hM := hm
  refine awp_seq fun K0 hK0 => ?_
  refine awp_region rfl ?_
  refine o_box 2 [(AV.lit (.int .i64 (m.mod))), (AV.sl 1 (is .i64 (m.mul))), (AV.sl 1 (is .i64 (m.add)))] Gd.none rfl rfl ?_
  refine o_box 3 [(bp (z < 0)), (AV.sl 1 (ns .i64 (digs (z).natAbs)))] Gd.none rfl rfl ?_
  refine o_assign (AV.lit (.slice none 0 0)) Gd.none rfl ?_
  refine aops_end ?_
  refine hK0 _ ?_
  refine awp_seq fun K1 hK1 => ?_
  refine awp_region rfl ?_
  refine o_loadA [(bp (z < 0)), (AV.sl 1 (ns .i64 (digs (z).natAbs)))] Gd.none Wf_tA36 rfl rfl rfl rfl rfl ?_
  refine o_buildSlice 4 ([(bp (z < 0)), (AV.sl 1 (ns .i64 (digs (z).natAbs)))]) [(0, [(bp (z < 0)), (AV.sl 1 (ns .i64 (digs (z).natAbs)))])] Gd.none Wf_tE33 rfl Wf_tO36 rfl rfl rfl rfl rfl rfl rfl ?_
  refine o_assign (AV.row 4) Gd.none rfl ?_
  refine aops_end ?_
  refine hK1 _ ?_
  refine awp_seq fun K2 hK2 => ?_
  refine awp_seq fun K3 hK3 => ?_
  refine awp_region rfl ?_
  refine o_assign (nm .i64 (0)) Gd.none rfl ?_
  refine aops_end ?_
  refine hK3 _ ?_
  refine awp_block ?_
  refine awp_loopR (fun κ σ => ∃ (i : Nat), ∃ (x : Int), ∃ (zs : List Int), (i ≤ k) ∧ ((digs x.natAbs).length ≤ 1000000) ∧ (zs.length = i) ∧ (zs ++ orbZ m (k - i) x = orbZ m k z) ∧ (k - i) = κ ∧ σ = ⟨[(2, (nm .i64 (k))), (3, (AV.ref 2 (0))), (4, (AV.ref 3 (0))), (7, (AV.row 4)), (8, (nm .i64 (i)))], [(2, (AO.var 24 [(AV.lit (.int .i64 (m.mod))), (AV.sl 1 (is .i64 (m.mul))), (AV.sl 1 (is .i64 (m.add)))])), (3, (AO.var 36 [(bp (x < 0)), (AV.sl 1 (ns .i64 (digs (x).natAbs)))])), (4, (AO.row 36 2 (rcells (zs ++ [x]))))]⟩) ⟨_, _, ⟨0, z, [], (by omega), hz, rfl, rfl, rfl, rfl⟩, ?wk0⟩ ?rd0
  case wk0 =>
    exact Wk.sub (And.intro (by exact rfl) (And.intro (by exact rfl) (And.intro (by exact rfl) (And.intro (by exact rfl) (And.intro (by first | rfl | exact congrArg (nm _) (by omega) | exact nm_int (by omega) | exact nm_int (by simp [IntKind.wrap, IntKind.bits, IntKind.signed]; omega)) (trivial)))))) (And.intro (by first | rfl | exact row_ns (by simp) | exact congrArg (fun x => some (AO.blk (.stringIter _ x))) (by omega)) (And.intro (by first | rfl | exact row_ns (by simp) | exact congrArg (fun x => some (AO.blk (.stringIter _ x))) (by omega)) (And.intro (by first | rfl | exact row_ns (by simp) | exact congrArg (fun x => some (AO.blk (.stringIter _ x))) (by omega)) (trivial))))
  rintro κ _ ⟨i, x, zs, hi, hx, hl, hv, rfl, rfl⟩
  refine awp_seq fun K4 hK4 => ?_
  refine awp_seq fun K5 hK5 => ?_
  refine awp_region rfl ?_
  refine o_move (nm .i64 (i)) Gd.none rfl ?_
  refine o_move (nm .i64 (k)) Gd.none rfl ?_
  refine n_lss (i) (k) Gd.none rfl rfl ?_
  refine o_move (bp ((i) < (k))) Gd.none rfl ?_
  refine o_splitP (q := (i) < (k)) 14 rfl (fun h1 => ?_) (fun h1 => ?_)
  · refine o_loadA [(bp (x < 0)), (AV.sl 1 (ns .i64 (digs (x).natAbs)))] (Gd.yes rfl rfl (decide_eq_true h1)) Wf_tA36 rfl rfl rfl rfl rfl ?_
    refine o_call [(AV.agg [(bp (x < 0)), (AV.sl 1 (ns .i64 (digs (x).natAbs)))])] (bp (Fit (x))) (Gd.yes rfl rfl (decide_eq_true h1)) Wf_tC25 rfl (c_rFits (x) (by first | assumption | omega | (simp only [Int.natAbs_neg]; omega))) ?_
    refine o_pickT (b := decide ((i) < (k))) (bp (Fit (x))) Gd.none rfl (decide_eq_true h1) rfl ?_
    refine aops_end ?_
    refine hK5 _ ?_
    refine awp_condQ (q := Fit (x)) rfl (fun h2 => ?_) (fun h2 => ?_)
    · refine awp_skip ?_
      refine hK4 _ ?_
      refine awp_seq fun K6 hK6 => ?_
      refine awp_block ?_
      refine awp_seq fun K7 hK7 => ?_
      refine awp_region rfl ?_
      refine o_loadA [(AV.lit (.int .i64 (m.mod))), (AV.sl 1 (is .i64 (m.mul))), (AV.sl 1 (is .i64 (m.add)))] Gd.none Wf_tA24 rfl rfl rfl rfl rfl ?_
      refine o_loadA [(bp (x < 0)), (AV.sl 1 (ns .i64 (digs (x).natAbs)))] Gd.none Wf_tA36 rfl rfl rfl rfl rfl ?_
      refine o_call [(AV.agg [(AV.lit (.int .i64 (m.mod))), (AV.sl 1 (is .i64 (m.mul))), (AV.sl 1 (is .i64 (m.add)))]), (AV.agg [(bp (x < 0)), (AV.sl 1 (ns .i64 (digs (x).natAbs)))])] (intR ((stepZ m x))) Gd.none Wf_tC47 rfl (c_gStep m (x) (by first | assumption | exact okM_iff.1 (by assumption)) (by first | assumption | omega | (simp only [Int.natAbs_neg]; omega))) ?_
      refine o_store [(2, (AO.var 24 [(AV.lit (.int .i64 (m.mod))), (AV.sl 1 (is .i64 (m.mul))), (AV.sl 1 (is .i64 (m.add)))])), (3, (AO.var 36 [(bp ((stepZ m x) < 0)), (AV.sl 1 (ns .i64 (digs ((stepZ m x)).natAbs)))])), (4, (AO.row 36 2 (rcells (zs ++ [x]))))] Gd.none Wf_tZ36 rfl rfl rfl rfl rfl rfl ?_
      refine aops_end ?_
      refine hK7 _ ?_
      refine awp_region rfl ?_
      refine o_move (AV.row 4) Gd.none rfl ?_
      refine o_loadA [(bp ((stepZ m x) < 0)), (AV.sl 1 (ns .i64 (digs ((stepZ m x)).natAbs)))] Gd.none Wf_tA36 rfl rfl rfl rfl rfl ?_
      refine o_buildSlice 101 ([(bp ((stepZ m x) < 0)), (AV.sl 1 (ns .i64 (digs ((stepZ m x)).natAbs)))]) [(0, [(bp ((stepZ m x) < 0)), (AV.sl 1 (ns .i64 (digs ((stepZ m x)).natAbs)))])] Gd.none Wf_tE33 rfl Wf_tO36 rfl rfl rfl rfl rfl rfl rfl ?_
      refine o_append 102 ([(bp ((stepZ m x) < 0)), (AV.sl 1 (ns .i64 (digs ((stepZ m x)).natAbs)))]) (rcells (zs ++ [x] ++ [stepZ m x])) _ [(101, (AO.row 36 2 ([(bp ((stepZ m x) < 0)), (AV.sl 1 (ns .i64 (digs ((stepZ m x)).natAbs)))]))), (2, (AO.var 24 [(AV.lit (.int .i64 (m.mod))), (AV.sl 1 (is .i64 (m.mul))), (AV.sl 1 (is .i64 (m.add)))])), (3, (AO.var 36 [(bp ((stepZ m x) < 0)), (AV.sl 1 (ns .i64 (digs ((stepZ m x)).natAbs)))]))] Gd.none Wf_tE33 rfl Wf_tO36 rfl rfl rfl (.inr ⟨_, _, rfl, rfl, rfl⟩) (by simp only [rcells_len, List.length_append, List.length_cons, List.length_nil]; omega) (by simp only [rcells_len, List.length_append, List.length_cons, List.length_nil]; omega) (rcells_app _ _) rfl rfl ?_
      refine o_assign (AV.row 102) Gd.none rfl ?_
      refine aops_end ?_
      refine hK6 _ ?_
      refine awp_region rfl ?_
      refine o_move (nm .i64 (i)) Gd.none rfl ?_
      refine n_add (i) (1) Gd.none rfl rfl (by simp only [topOf]; omega) ?_
      refine o_assign (nm .i64 ((i) + (1))) Gd.none rfl ?_
      refine aops_end ?_
      refine ⟨_, _, ?lt, ⟨i + 1, stepZ m x, zs ++ [x], (by omega), (by have := step_len hm (fit_len (by assumption)) (by decide); omega), (by simp [hl]), (by rw [← hv, show k - i = (k - (i + 1)) + 1 by omega, orbZ, if_pos (by assumption)]; simp), rfl, rfl⟩, ?wk⟩
      case lt => omega
      case wk => exact Wk.trans (Wk.sub (σ' := ⟨[(2, (nm .i64 (k))), (3, (AV.ref 2 (0))), (4, (AV.ref 3 (0))), (7, (AV.row 102)), (8, (nm .i64 ((i) + (1))))], [(2, (AO.var 24 [(AV.lit (.int .i64 (m.mod))), (AV.sl 1 (is .i64 (m.mul))), (AV.sl 1 (is .i64 (m.add)))])), (3, (AO.var 36 [(bp ((stepZ m x) < 0)), (AV.sl 1 (ns .i64 (digs ((stepZ m x)).natAbs)))])), (102, (AO.row 36 2 (rcells (zs ++ [x] ++ [stepZ m x]))))]⟩) (And.intro rfl (And.intro rfl (And.intro rfl (And.intro rfl (And.intro rfl (trivial)))))) (And.intro rfl (And.intro rfl (And.intro rfl (trivial))))) (Wk.trans (Wk.ren (id := 102) (id' := 4) rfl) (Wk.sub (And.intro (by exact rfl) (And.intro (by exact rfl) (And.intro (by exact rfl) (And.intro (by first | rfl | (simp)) (And.intro (by first | rfl | exact congrArg (nm _) (by omega) | exact nm_int (by omega) | exact nm_int (by simp [IntKind.wrap, IntKind.bits, IntKind.signed]; omega)) (trivial)))))) (And.intro (by first | rfl | exact row_ns (by simp) | exact congrArg (fun x => some (AO.blk (.stringIter _ x))) (by omega)) (And.intro (by first | rfl | exact row_ns (by simp) | exact congrArg (fun x => some (AO.blk (.stringIter _ x))) (by omega)) (And.intro (by first | rfl | exact row_ns (by simp) | exact congrArg (fun x => some (AO.blk (.stringIter _ x))) (by omega)) (trivial))))))
    · refine awp_exit ?_
      refine hK2 _ ?_
      refine awp_seq fun K8 hK8 => ?_
      refine awp_region rfl ?_
      refine o_move (AV.row 4) Gd.none rfl ?_
      refine o_assign (AV.row 4) Gd.none rfl ?_
      refine aops_end ?_
      refine hK8 _ ?_
      refine awp_wk (σ' := ⟨[(6, (AV.row 4))], [(4, (AO.row 36 2 (rcells (zs ++ [x]))))]⟩) (Wk.sub (And.intro rfl (trivial)) (And.intro rfl (trivial))) ?_
      refine awp_wk (σ' := ⟨[(6, (AV.sl 2 (rcells (zs ++ [x]))))], []⟩) (Wk.freeze (id := 4) (e := 36) (sz := 2) (cs := (rcells (zs ++ [x]))) rfl) ?_
      refine awp_ret ?_
      refine post_ret ⟨[(AV.sl 2 (rcells (zs ++ [x])))], And.intro (AV.le_refl _) (trivial), rfl, ?_⟩
      have e : zs ++ [x] = orbZ m k z := by
        rw [← hv]
        rcases Nat.eq_zero_or_pos (k - i) with h0 | h0
        · rw [h0]; rfl
        · rw [show k - i = (k - i - 1) + 1 by omega, orbZ, if_neg (by first | assumption | omega)]
      rw [← e]
      rfl
  · refine o_skip (b := decide ((i) < (k))) rfl rfl (decide_eq_false h1) ?_
    refine o_skip (b := decide ((i) < (k))) rfl rfl (decide_eq_false h1) ?_
    refine o_pickF (b := decide ((i) < (k))) (AV.lit (.bool false)) Gd.none rfl (decide_eq_false h1) rfl ?_
    refine aops_end ?_
    refine hK5 _ ?_
    refine awp_condB (b := false) rfl (fun hh => absurd (hh.symm.trans rfl) (by decide)) (fun _ => ?_)
    refine awp_exit ?_
    refine hK2 _ ?_
    refine awp_seq fun K9 hK9 => ?_
    refine awp_region rfl ?_
    refine o_move (AV.row 4) Gd.none rfl ?_
    refine o_assign (AV.row 4) Gd.none rfl ?_
    refine aops_end ?_
    refine hK9 _ ?_
    refine awp_wk (σ' := ⟨[(6, (AV.row 4))], [(4, (AO.row 36 2 (rcells (zs ++ [x]))))]⟩) (Wk.sub (And.intro rfl (trivial)) (And.intro rfl (trivial))) ?_
    refine awp_wk (σ' := ⟨[(6, (AV.sl 2 (rcells (zs ++ [x]))))], []⟩) (Wk.freeze (id := 4) (e := 36) (sz := 2) (cs := (rcells (zs ++ [x]))) rfl) ?_
    refine awp_ret ?_
    refine post_ret ⟨[(AV.sl 2 (rcells (zs ++ [x])))], And.intro (AV.le_refl _) (trivial), rfl, ?_⟩
    have e : zs ++ [x] = orbZ m k z := by
      rw [← hv]
      rcases Nat.eq_zero_or_pos (k - i) with h0 | h0
      · rw [h0]; rfl
      · rw [show k - i = (k - i - 1) + 1 by omega, orbZ, if_neg (by first | assumption | omega)]
    rw [← e]
    rfl

theorem c_gFalls (m : MapM) (z : Int) (k : Nat) (hm : OkM m) (hk : k ≤ 1000000) (hz : (digs z.natAbs).length ≤ 1000000) : ECalls cx 28 [(mapV m), (intR (z)), (nm .i64 (k))] (.tup [nm .i64 (fallZ m z k z 1).1, intR (fallZ m z k z 1).2.1, nm .i64 (fallZ m z k z 1).2.2]) := by
  refine ecalls_of_awp Tryd.func28 (c := _) rfl (Nat.le_of_ble_eq_true rfl) ?_
  show awp cx 31 _ (postF cx Tryd.f28 _) ⟨[(0, (mapV m)), (1, (intR (z))), (2, (nm .i64 (k)))], []⟩
  have hM := hm
  refine awp_seq fun K0 hK0 => ?_
  refine awp_region rfl ?_
  refine o_box 2 [(AV.lit (.int .i64 (m.mod))), (AV.sl 1 (is .i64 (m.mul))), (AV.sl 1 (is .i64 (m.add)))] Gd.none rfl rfl ?_
  refine o_box 3 [(bp (z < 0)), (AV.sl 1 (ns .i64 (digs (z).natAbs)))] Gd.none rfl rfl ?_
  refine o_assign (nm .i64 (0)) Gd.none rfl ?_
  refine o_alloc 4 [(AV.lit (.bool false)), (AV.lit (.slice none 0 0))] Gd.none Wf_tO36 rfl rfl rfl ?_
  refine o_assign (nm .i64 (0)) Gd.none rfl ?_
  refine aops_end ?_
  refine hK0 _ ?_
  refine awp_seq fun K1 hK1 => ?_
  refine awp_region rfl ?_
  refine o_loadA [(bp (z < 0)), (AV.sl 1 (ns .i64 (digs (z).natAbs)))] Gd.none Wf_tA36 rfl rfl rfl rfl rfl ?_
  refine o_alloc 5 [(AV.lit (.bool false)), (AV.lit (.slice none 0 0))] Gd.none Wf_tO36 rfl rfl rfl ?_
  refine o_store [(5, (AO.var 36 [(bp (z < 0)), (AV.sl 1 (ns .i64 (digs (z).natAbs)))])), (4, (AO.var 36 [(AV.lit (.bool false)), (AV.lit (.slice none 0 0))])), (3, (AO.var 36 [(bp (z < 0)), (AV.sl 1 (ns .i64 (digs (z).natAbs)))])), (2, (AO.var 24 [(AV.lit (.int .i64 (m.mod))), (AV.sl 1 (is .i64 (m.mul))), (AV.sl 1 (is .i64 (m.add)))]))] Gd.none Wf_tZ36 rfl rfl rfl rfl rfl rfl ?_
  refine aops_end ?_
  refine hK1 _ ?_
  refine awp_seq fun K2 hK2 => ?_
  refine awp_seq fun K3 hK3 => ?_
  refine awp_region rfl ?_
  refine o_assign (nm .i64 (1)) Gd.none rfl ?_
  refine aops_end ?_
  refine hK3 _ ?_
  refine awp_block ?_
  refine awp_loopR (fun κ σ => ∃ (i : Nat), ∃ (x : Int), (i ≤ k + 1) ∧ (1 ≤ i) ∧ ((digs x.natAbs).length ≤ 1000000) ∧ (fallZ m z (k + 1 - i) x i = fallZ m z k z 1) ∧ (k + 1 - i) = κ ∧ σ = ⟨[(2, (nm .i64 (k))), (3, (AV.ref 2 (0))), (4, (AV.ref 3 (0))), (7, (AV.ref 4 (0))), (9, (AV.ref 5 (0))), (10, (nm .i64 (i)))], [(2, (AO.var 24 [(AV.lit (.int .i64 (m.mod))), (AV.sl 1 (is .i64 (m.mul))), (AV.sl 1 (is .i64 (m.add)))])), (3, (AO.var 36 [(bp (z < 0)), (AV.sl 1 (ns .i64 (digs (z).natAbs)))])), (4, (AO.var 36 [(AV.lit (.bool false)), (AV.lit (.slice none 0 0))])), (5, (AO.var 36 [(bp (x < 0)), (AV.sl 1 (ns .i64 (digs (x).natAbs)))]))]⟩) ⟨_, _, ⟨1, z, (by omega), (by omega), hz, rfl, rfl, rfl⟩, ?wk0⟩ ?rd0
  case wk0 =>
    exact Wk.sub (And.intro (by exact rfl) (And.intro (by exact rfl) (And.intro (by exact rfl) (And.intro (by exact rfl) (And.intro (by exact rfl) (And.intro (by first | rfl | exact congrArg (nm _) (by omega) | exact nm_int (by omega) | exact nm_int (by simp [IntKind.wrap, IntKind.bits, IntKind.signed]; omega)) (trivial))))))) (And.intro (by first | rfl | exact row_ns (by simp) | exact congrArg (fun x => some (AO.blk (.stringIter _ x))) (by omega)) (And.intro (by first | rfl | exact row_ns (by simp) | exact congrArg (fun x => some (AO.blk (.stringIter _ x))) (by omega)) (And.intro (by first | rfl | exact row_ns (by simp) | exact congrArg (fun x => some (AO.blk (.stringIter _ x))) (by omega)) (And.intro (by first | rfl | exact row_ns (by simp) | exact congrArg (fun x => some (AO.blk (.stringIter _ x))) (by omega)) (trivial)))))
  rintro κ _ ⟨i, x, hi, hi1, hx, hv, rfl, rfl⟩
  have hxs := step_len hm hx (by decide)
  refine awp_seq fun K4 hK4 => ?_
  refine awp_seq fun K5 hK5 => ?_
  refine awp_region rfl ?_
  refine o_move (nm .i64 (i)) Gd.none rfl ?_
  refine o_move (nm .i64 (k)) Gd.none rfl ?_
  refine n_leq (i) (k) Gd.none rfl rfl ?_
  refine aops_end ?_
  refine hK5 _ ?_
  refine awp_condQ (q := (i) ≤ (k)) rfl (fun h1 => ?_) (fun h1 => ?_)
  · refine awp_skip ?_
    refine hK4 _ ?_
    refine awp_seq fun K6 hK6 => ?_
    refine awp_block ?_
    refine awp_seq fun K7 hK7 => ?_
    refine awp_region rfl ?_
    refine o_loadA [(AV.lit (.int .i64 (m.mod))), (AV.sl 1 (is .i64 (m.mul))), (AV.sl 1 (is .i64 (m.add)))] Gd.none Wf_tA24 rfl rfl rfl rfl rfl ?_
    refine o_loadA [(bp (x < 0)), (AV.sl 1 (ns .i64 (digs (x).natAbs)))] Gd.none Wf_tA36 rfl rfl rfl rfl rfl ?_
    refine o_call [(AV.agg [(AV.lit (.int .i64 (m.mod))), (AV.sl 1 (is .i64 (m.mul))), (AV.sl 1 (is .i64 (m.add)))]), (AV.agg [(bp (x < 0)), (AV.sl 1 (ns .i64 (digs (x).natAbs)))])] (intR ((stepZ m x))) Gd.none Wf_tC47 rfl (c_gStep m (x) (by first | assumption | exact okM_iff.1 (by assumption)) (by first | assumption | omega | (simp only [Int.natAbs_neg]; omega))) ?_
    refine o_store [(2, (AO.var 24 [(AV.lit (.int .i64 (m.mod))), (AV.sl 1 (is .i64 (m.mul))), (AV.sl 1 (is .i64 (m.add)))])), (3, (AO.var 36 [(bp (z < 0)), (AV.sl 1 (ns .i64 (digs (z).natAbs)))])), (4, (AO.var 36 [(AV.lit (.bool false)), (AV.lit (.slice none 0 0))])), (5, (AO.var 36 [(bp ((stepZ m x) < 0)), (AV.sl 1 (ns .i64 (digs ((stepZ m x)).natAbs)))]))] Gd.none Wf_tZ36 rfl rfl rfl rfl rfl rfl ?_
    refine aops_end ?_
    refine hK7 _ ?_
    refine awp_seq fun K8 hK8 => ?_
    refine awp_seq fun K9 hK9 => ?_
    refine awp_region rfl ?_
    refine o_loadA [(bp ((stepZ m x) < 0)), (AV.sl 1 (ns .i64 (digs ((stepZ m x)).natAbs)))] Gd.none Wf_tA36 rfl rfl rfl rfl rfl ?_
    refine o_call [(AV.agg [(bp ((stepZ m x) < 0)), (AV.sl 1 (ns .i64 (digs ((stepZ m x)).natAbs)))])] (bp (Fit ((stepZ m x)))) Gd.none Wf_tC25 rfl (c_rFits ((stepZ m x)) (by first | assumption | omega | (simp only [Int.natAbs_neg]; omega))) ?_
    refine o_notP (q := Fit ((stepZ m x))) Gd.none rfl ?_
    refine aops_end ?_
    refine hK9 _ ?_
    refine awp_condQ (q := ¬ (Fit ((stepZ m x)))) rfl (fun h2 => ?_) (fun h2 => ?_)
    · refine awp_seq fun K10 hK10 => ?_
      refine awp_region rfl ?_
      refine o_build [(AV.lit (.bool false)), (AV.lit (.slice none 0 0))] [] Gd.none Wf_tP36 Wf_tO36 rfl rfl rfl ?_
      refine o_assign (nm .i64 (0)) Gd.none rfl ?_
      refine o_store [(2, (AO.var 24 [(AV.lit (.int .i64 (m.mod))), (AV.sl 1 (is .i64 (m.mul))), (AV.sl 1 (is .i64 (m.add)))])), (3, (AO.var 36 [(bp (z < 0)), (AV.sl 1 (ns .i64 (digs (z).natAbs)))])), (4, (AO.var 36 [(AV.lit (.bool false)), (AV.lit (.slice none 0 0))])), (5, (AO.var 36 [(bp ((stepZ m x) < 0)), (AV.sl 1 (ns .i64 (digs ((stepZ m x)).natAbs)))]))] Gd.none Wf_tZ36 rfl rfl rfl rfl rfl rfl ?_
      refine o_assign (nm .i64 (3)) Gd.none rfl ?_
      refine aops_end ?_
      refine hK10 _ ?_
      refine awp_ret ?_
      refine post_ret ⟨[(nm .i64 (0)), (intR ((0 : Int))), (nm .i64 (3))], And.intro (AV.le_refl _) (And.intro ⟨4, (AO.var 36 [(AV.lit (.bool false)), (AV.lit (.slice none 0 0))]), rfl, rfl, rfl, Or.inl ⟨Wf_tA36, AV.le_agg (LeL.cons (AV.le_refl _) (LeL.cons (AV.le_nil' (by decide) (by first | rfl | simp [digs_zero, ns, is])) (LeL.nil)))⟩⟩ (And.intro (AV.le_refl _) (trivial))), rfl, ?_⟩
      rw [← hv, show k + 1 - i = (k + 1 - (i + 1)) + 1 by omega, fallZ, if_neg h2]
      rfl
    · refine awp_skip ?_
      refine hK8 _ ?_
      refine awp_seq fun K11 hK11 => ?_
      refine awp_region rfl ?_
      refine o_loadA [(bp ((stepZ m x) < 0)), (AV.sl 1 (ns .i64 (digs ((stepZ m x)).natAbs)))] Gd.none Wf_tA36 rfl rfl rfl rfl rfl ?_
      refine o_loadA [(bp (z < 0)), (AV.sl 1 (ns .i64 (digs (z).natAbs)))] Gd.none Wf_tA36 rfl rfl rfl rfl rfl ?_
      refine o_call [(AV.agg [(bp ((stepZ m x) < 0)), (AV.sl 1 (ns .i64 (digs ((stepZ m x)).natAbs)))]), (AV.agg [(bp (z < 0)), (AV.sl 1 (ns .i64 (digs (z).natAbs)))])] (AV.lit (.int .i64 (cmpZ ((stepZ m x)) (z)))) Gd.none Wf_tC34 rfl (c_rCmp ((stepZ m x)) (z)) ?_
      refine o_lss (a := (cmpZ ((stepZ m x)) (z))) (c := (((0 : Nat) : Int))) Gd.none rfl rfl ?_
      refine aops_end ?_
      refine hK11 _ ?_
      refine awp_condQ (q := (cmpZ ((stepZ m x)) (z)) < (((0 : Nat) : Int))) rfl (fun h3 => ?_) (fun h3 => ?_)
      · refine awp_seq fun K12 hK12 => ?_
        refine awp_regionD rfl ?_
        refine o_move (nm .i64 (i)) Gd.none rfl ?_
        refine o_loadA [(bp ((stepZ m x) < 0)), (AV.sl 1 (ns .i64 (digs ((stepZ m x)).natAbs)))] Gd.none Wf_tA36 rfl rfl rfl rfl rfl ?_
        refine o_assign (nm .i64 (i)) Gd.none rfl ?_
        refine o_store [(2, (AO.var 24 [(AV.lit (.int .i64 (m.mod))), (AV.sl 1 (is .i64 (m.mul))), (AV.sl 1 (is .i64 (m.add)))])), (3, (AO.var 36 [(bp (z < 0)), (AV.sl 1 (ns .i64 (digs (z).natAbs)))])), (4, (AO.var 36 [(bp ((stepZ m x) < 0)), (AV.sl 1 (ns .i64 (digs ((stepZ m x)).natAbs)))])), (5, (AO.var 36 [(bp ((stepZ m x) < 0)), (AV.sl 1 (ns .i64 (digs ((stepZ m x)).natAbs)))]))] Gd.none Wf_tZ36 rfl rfl rfl rfl rfl rfl ?_
        refine o_assign (nm .i64 (0)) Gd.none rfl ?_
        refine aops_end ⟨by kernel_rfl, ?_⟩
        refine hK12 _ ?_
        refine awp_ret ?_
        refine post_ret ⟨[(nm .i64 (i)), (AV.agg [(bp ((stepZ m x) < 0)), (AV.sl 1 (ns .i64 (digs ((stepZ m x)).natAbs)))]), (nm .i64 (0))], And.intro (AV.le_refl _) (And.intro ⟨4, (AO.var 36 [(bp ((stepZ m x) < 0)), (AV.sl 1 (ns .i64 (digs ((stepZ m x)).natAbs)))]), rfl, rfl, rfl, Or.inl ⟨Wf_tA36, AV.le_refl _⟩⟩ (And.intro (AV.le_refl _) (trivial))), rfl, ?_⟩
        rw [← hv, show k + 1 - i = (k + 1 - (i + 1)) + 1 by omega, fallZ, if_pos (Decidable.not_not.1 h2), if_pos (cmpZ_lt.1 h3)]
        rfl
      · refine awp_skip ?_
        refine hK6 _ ?_
        refine awp_region rfl ?_
        refine o_move (nm .i64 (i)) Gd.none rfl ?_
        refine n_add (i) (1) Gd.none rfl rfl (by simp only [topOf]; omega) ?_
        refine o_assign (nm .i64 ((i) + (1))) Gd.none rfl ?_
        refine aops_end ?_
        refine ⟨_, _, ?lt, ⟨i + 1, stepZ m x, (by omega), (by omega), (by have := fit_len (Decidable.not_not.1 h2); omega), (by rw [← hv, show k + 1 - i = (k + 1 - (i + 1)) + 1 by omega, fallZ, if_pos (Decidable.not_not.1 h2), if_neg (fun h => h3 (cmpZ_lt.2 h))]), rfl, rfl⟩, ?wk⟩
        case lt => omega
        case wk => exact Wk.sub (And.intro (by exact rfl) (And.intro (by exact rfl) (And.intro (by exact rfl) (And.intro (by exact rfl) (And.intro (by exact rfl) (And.intro (by first | rfl | exact congrArg (nm _) (by omega) | exact nm_int (by omega) | exact nm_int (by simp [IntKind.wrap, IntKind.bits, IntKind.signed]; omega)) (trivial))))))) (And.intro (by first | rfl | exact row_ns (by simp) | exact congrArg (fun x => some (AO.blk (.stringIter _ x))) (by omega)) (And.intro (by first | rfl | exact row_ns (by simp) | exact congrArg (fun x => some (AO.blk (.stringIter _ x))) (by omega)) (And.intro (by first | rfl | exact row_ns (by simp) | exact congrArg (fun x => some (AO.blk (.stringIter _ x))) (by omega)) (And.intro (by first | rfl | exact row_ns (by simp) | exact congrArg (fun x => some (AO.blk (.stringIter _ x))) (by omega)) (trivial)))))
  · refine awp_exit ?_
    refine hK2 _ ?_
    refine awp_seq fun K13 hK13 => ?_
    refine awp_region rfl ?_
    refine o_build [(AV.lit (.bool false)), (AV.lit (.slice none 0 0))] [] Gd.none Wf_tP36 Wf_tO36 rfl rfl rfl ?_
    refine o_assign (nm .i64 (0)) Gd.none rfl ?_
    refine o_store [(2, (AO.var 24 [(AV.lit (.int .i64 (m.mod))), (AV.sl 1 (is .i64 (m.mul))), (AV.sl 1 (is .i64 (m.add)))])), (3, (AO.var 36 [(bp (z < 0)), (AV.sl 1 (ns .i64 (digs (z).natAbs)))])), (4, (AO.var 36 [(AV.lit (.bool false)), (AV.lit (.slice none 0 0))])), (5, (AO.var 36 [(bp (x < 0)), (AV.sl 1 (ns .i64 (digs (x).natAbs)))]))] Gd.none Wf_tZ36 rfl rfl rfl rfl rfl rfl ?_
    refine o_assign (nm .i64 (4)) Gd.none rfl ?_
    refine aops_end ?_
    refine hK13 _ ?_
    refine awp_ret ?_
    refine post_ret ⟨[(nm .i64 (0)), (intR ((0 : Int))), (nm .i64 (4))], And.intro (AV.le_refl _) (And.intro ⟨4, (AO.var 36 [(AV.lit (.bool false)), (AV.lit (.slice none 0 0))]), rfl, rfl, rfl, Or.inl ⟨Wf_tA36, AV.le_agg (LeL.cons (AV.le_refl _) (LeL.cons (AV.le_nil' (by decide) (by first | rfl | simp [digs_zero, ns, is])) (LeL.nil)))⟩⟩ (And.intro (AV.le_refl _) (trivial))), rfl, ?_⟩
    rw [← hv, show k + 1 - i = 0 by omega]
    rfl

end Go.Proofs.YtkngglpnejdicaaDoor
