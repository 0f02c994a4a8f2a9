import Derived.Test.YtkngglpnejdicaaDoorWh
import Derived.Test.YtkngglpnejdicaaDoorWf
set_option linter.unusedVariables false
set_option linter.unusedSimpArgs false
namespace Go.Proofs.YtkngglpnejdicaaDoor
open Go Go.Ab Go.Mth
theorem Wi_tF24_0 : tyField cx.P 24 0 = some (0, 3) := by kernel_rfl
theorem Wi_tS3 : tySc cx.P 3 = true := by kernel_rfl
theorem Wi_tF24_1 : tyField cx.P 24 1 = some (1, 22) := by kernel_rfl
theorem Wi_tS22 : tySc cx.P 22 = true := by kernel_rfl
theorem Wi_tU22 : cx.P.underlying 22 = some (.slice 3) := by kernel_rfl
theorem Wi_tF24_2 : tyField cx.P 24 2 = some (2, 22) := by kernel_rfl
theorem Wi_tE22 : tyElem cx.P 22 = some (3, 1, 8) := by kernel_rfl
theorem Wi_tO89 : tyZero cx.P 89 = some [(Go.Value.bool false), (Go.Value.slice none 0 0)] := by kernel_rfl
theorem Wi_tA89 : tyAgg cx.P 89 = some 2 := by kernel_rfl
theorem Wi_tC98 : callable cx.P 98 = true := by kernel_rfl
theorem Wi_tZ89 : tySize cx.P 89 = some 2 := by kernel_rfl
theorem Wi_tC105 : callable cx.P 105 = true := by kernel_rfl
theorem Wi_tC91 : callable cx.P 91 = true := by kernel_rfl
theorem Wi_tC92 : callable cx.P 92 = true := by kernel_rfl
theorem Wi_tC88 : callable cx.P 88 = true := by kernel_rfl
theorem c_sValid (m : MapM) : ECalls cx 39 [(mapV m)] (.lit (.bool (okM m))) := by
  refine ecalls_of_awp Tryd.func39 (c := _) rfl (Nat.le_of_ble_eq_true rfl) ?_
  show awp cx 83 _ (postF cx Tryd.f39 _) ⟨[(0, (mapV m))], []⟩
  refine awp_seq fun K0 hK0 => ?_
  refine awp_region rfl ?_
  refine o_box 2 [(AV.lit (.int .i64 (m.mod))), (AV.sl 1 (is .i64 (m.mul))), (AV.sl 1 (is .i64 (m.add)))] Gd.none rfl rfl ?_
  refine o_assign (AV.lit (.bool false)) Gd.none rfl ?_
  refine aops_end ?_
  refine hK0 _ ?_
  refine awp_seq fun K1 hK1 => ?_
  refine awp_seq fun K2 hK2 => ?_
  refine awp_region rfl ?_
  refine o_fieldRef 0 Gd.none Wi_tF24_0 rfl rfl ?_
  refine o_loadS (AV.lit (.int .i64 (m.mod))) Gd.none Wi_tS3 rfl rfl rfl ?_
  refine o_lss (a := (m.mod)) (c := (((2 : Nat) : Int))) Gd.none rfl rfl ?_
  refine o_move (bp ((m.mod) < (((2 : Nat) : Int)))) Gd.none rfl ?_
  refine o_splitP (q := (m.mod) < (((2 : Nat) : Int))) 7 rfl (fun h1 => ?_) (fun h1 => ?_)
  · refine o_skip (b := decide ((m.mod) < (((2 : Nat) : Int)))) rfl rfl (decide_eq_true h1) ?_
    refine o_skip (b := decide ((m.mod) < (((2 : Nat) : Int)))) rfl rfl (decide_eq_true h1) ?_
    refine o_skip (b := decide ((m.mod) < (((2 : Nat) : Int)))) rfl rfl (decide_eq_true h1) ?_
    refine o_pickT (b := decide ((m.mod) < (((2 : Nat) : Int)))) (AV.lit (.bool true)) Gd.none rfl (decide_eq_true h1) rfl ?_
    refine o_move (AV.lit (.bool true)) Gd.none rfl ?_
    refine o_skip (b := true) rfl rfl rfl ?_
    refine o_skip (b := true) rfl rfl rfl ?_
    refine o_skip (b := true) rfl rfl rfl ?_
    refine o_skip (b := true) rfl rfl rfl ?_
    refine o_skip (b := true) rfl rfl rfl ?_
    refine o_skip (b := true) rfl rfl rfl ?_
    refine o_pickT (b := true) (AV.lit (.bool true)) Gd.none rfl rfl rfl ?_
    refine o_move (AV.lit (.bool true)) Gd.none rfl ?_
    refine o_skip (b := true) rfl rfl rfl ?_
    refine o_skip (b := true) rfl rfl rfl ?_
    refine o_skip (b := true) rfl rfl rfl ?_
    refine o_skip (b := true) rfl rfl rfl ?_
    refine o_skip (b := true) rfl rfl rfl ?_
    refine o_skip (b := true) rfl rfl rfl ?_
    refine o_pickT (b := true) (AV.lit (.bool true)) Gd.none rfl rfl rfl ?_
    refine aops_end ?_
    refine hK2 _ ?_
    refine awp_condB (b := true) rfl (fun _ => ?_) (fun hh => absurd (hh.symm.trans rfl) (by decide))
    refine awp_seq fun K3 hK3 => ?_
    refine awp_region rfl ?_
    refine o_assign (AV.lit (.bool false)) Gd.none rfl ?_
    refine aops_end ?_
    refine hK3 _ ?_
    refine awp_ret ?_
    refine post_ret ⟨[(AV.lit (.bool false))], And.intro (AV.le_refl _) (trivial), rfl, ?_⟩
    refine bl_eq (okM_no fun h => ?_)
    obtain ⟨o1, o2, o3, o4, o5⟩ := h
    first | omega | (have := o5 r (by omega); omega)
  · refine o_fieldRef 0 (Gd.yes rfl rfl (decide_eq_false h1)) Wi_tF24_0 rfl rfl ?_
    refine o_loadS (AV.lit (.int .i64 (m.mod))) (Gd.yes rfl rfl (decide_eq_false h1)) Wi_tS3 rfl rfl rfl ?_
    refine o_gtr (a := (m.mod)) (c := (((12 : Nat) : Int))) (Gd.yes rfl rfl (decide_eq_false h1)) rfl rfl ?_
    refine o_pickF (b := decide ((m.mod) < (((2 : Nat) : Int)))) (bp ((((12 : Nat) : Int)) < (m.mod))) Gd.none rfl (decide_eq_false h1) rfl ?_
    refine o_move (bp ((((12 : Nat) : Int)) < (m.mod))) Gd.none rfl ?_
    refine o_splitP (q := (((12 : Nat) : Int)) < (m.mod)) 12 rfl (fun h2 => ?_) (fun h2 => ?_)
    · refine o_skip (b := decide ((((12 : Nat) : Int)) < (m.mod))) rfl rfl (decide_eq_true h2) ?_
      refine o_skip (b := decide ((((12 : Nat) : Int)) < (m.mod))) rfl rfl (decide_eq_true h2) ?_
      refine o_skip (b := decide ((((12 : Nat) : Int)) < (m.mod))) rfl rfl (decide_eq_true h2) ?_
      refine o_skip (b := decide ((((12 : Nat) : Int)) < (m.mod))) rfl rfl (decide_eq_true h2) ?_
      refine o_skip (b := decide ((((12 : Nat) : Int)) < (m.mod))) rfl rfl (decide_eq_true h2) ?_
      refine o_skip (b := decide ((((12 : Nat) : Int)) < (m.mod))) rfl rfl (decide_eq_true h2) ?_
      refine o_pickT (b := decide ((((12 : Nat) : Int)) < (m.mod))) (AV.lit (.bool true)) Gd.none rfl (decide_eq_true h2) rfl ?_
      refine o_move (AV.lit (.bool true)) Gd.none rfl ?_
      refine o_skip (b := true) rfl rfl rfl ?_
      refine o_skip (b := true) rfl rfl rfl ?_
      refine o_skip (b := true) rfl rfl rfl ?_
      refine o_skip (b := true) rfl rfl rfl ?_
      refine o_skip (b := true) rfl rfl rfl ?_
      refine o_skip (b := true) rfl rfl rfl ?_
      refine o_pickT (b := true) (AV.lit (.bool true)) Gd.none rfl rfl rfl ?_
      refine aops_end ?_
      refine hK2 _ ?_
      refine awp_condB (b := true) rfl (fun _ => ?_) (fun hh => absurd (hh.symm.trans rfl) (by decide))
      refine awp_seq fun K4 hK4 => ?_
      refine awp_region rfl ?_
      refine o_assign (AV.lit (.bool false)) Gd.none rfl ?_
      refine aops_end ?_
      refine hK4 _ ?_
      refine awp_ret ?_
      refine post_ret ⟨[(AV.lit (.bool false))], And.intro (AV.le_refl _) (trivial), rfl, ?_⟩
      refine bl_eq (okM_no fun h => ?_)
      obtain ⟨o1, o2, o3, o4, o5⟩ := h
      first | omega | (have := o5 r (by omega); omega)
    · refine o_fieldRef 1 (Gd.yes rfl rfl (decide_eq_false h2)) Wi_tF24_1 rfl rfl ?_
      refine o_loadS (AV.sl 1 (is .i64 (m.mul))) (Gd.yes rfl rfl (decide_eq_false h2)) Wi_tS22 rfl rfl rfl ?_
      refine i_len (m.mul) (Gd.yes rfl rfl (decide_eq_false h2)) Wi_tU22 rfl ?_
      refine o_fieldRef 0 (Gd.yes rfl rfl (decide_eq_false h2)) Wi_tF24_0 rfl rfl ?_
      refine o_loadS (AV.lit (.int .i64 (m.mod))) (Gd.yes rfl rfl (decide_eq_false h2)) Wi_tS3 rfl rfl rfl ?_
      refine o_neq (a := ((((m.mul).length : Nat) : Int))) (c := (m.mod)) (Gd.yes rfl rfl (decide_eq_false h2)) rfl rfl ?_
      refine o_pickF (b := decide ((((12 : Nat) : Int)) < (m.mod))) (bp (((((m.mul).length : Nat) : Int)) ≠ (m.mod))) Gd.none rfl (decide_eq_false h2) rfl ?_
      refine o_move (bp (((((m.mul).length : Nat) : Int)) ≠ (m.mod))) Gd.none rfl ?_
      refine o_splitP (q := ((((m.mul).length : Nat) : Int)) ≠ (m.mod)) 20 rfl (fun h3 => ?_) (fun h3 => ?_)
      · refine o_skip (b := decide (((((m.mul).length : Nat) : Int)) ≠ (m.mod))) rfl rfl (decide_eq_true h3) ?_
        refine o_skip (b := decide (((((m.mul).length : Nat) : Int)) ≠ (m.mod))) rfl rfl (decide_eq_true h3) ?_
        refine o_skip (b := decide (((((m.mul).length : Nat) : Int)) ≠ (m.mod))) rfl rfl (decide_eq_true h3) ?_
        refine o_skip (b := decide (((((m.mul).length : Nat) : Int)) ≠ (m.mod))) rfl rfl (decide_eq_true h3) ?_
        refine o_skip (b := decide (((((m.mul).length : Nat) : Int)) ≠ (m.mod))) rfl rfl (decide_eq_true h3) ?_
        refine o_skip (b := decide (((((m.mul).length : Nat) : Int)) ≠ (m.mod))) rfl rfl (decide_eq_true h3) ?_
        refine o_pickT (b := decide (((((m.mul).length : Nat) : Int)) ≠ (m.mod))) (AV.lit (.bool true)) Gd.none rfl (decide_eq_true h3) rfl ?_
        refine aops_end ?_
        refine hK2 _ ?_
        refine awp_condB (b := true) rfl (fun _ => ?_) (fun hh => absurd (hh.symm.trans rfl) (by decide))
        refine awp_seq fun K5 hK5 => ?_
        refine awp_region rfl ?_
        refine o_assign (AV.lit (.bool false)) Gd.none rfl ?_
        refine aops_end ?_
        refine hK5 _ ?_
        refine awp_ret ?_
        refine post_ret ⟨[(AV.lit (.bool false))], And.intro (AV.le_refl _) (trivial), rfl, ?_⟩
        refine bl_eq (okM_no fun h => ?_)
        obtain ⟨o1, o2, o3, o4, o5⟩ := h
        first | omega | (have := o5 r (by omega); omega)
      · refine o_fieldRef 2 (Gd.yes rfl rfl (decide_eq_false h3)) Wi_tF24_2 rfl rfl ?_
        refine o_loadS (AV.sl 1 (is .i64 (m.add))) (Gd.yes rfl rfl (decide_eq_false h3)) Wi_tS22 rfl rfl rfl ?_
        refine i_len (m.add) (Gd.yes rfl rfl (decide_eq_false h3)) Wi_tU22 rfl ?_
        refine o_fieldRef 0 (Gd.yes rfl rfl (decide_eq_false h3)) Wi_tF24_0 rfl rfl ?_
        refine o_loadS (AV.lit (.int .i64 (m.mod))) (Gd.yes rfl rfl (decide_eq_false h3)) Wi_tS3 rfl rfl rfl ?_
        refine o_neq (a := ((((m.add).length : Nat) : Int))) (c := (m.mod)) (Gd.yes rfl rfl (decide_eq_false h3)) rfl rfl ?_
        refine o_pickF (b := decide (((((m.mul).length : Nat) : Int)) ≠ (m.mod))) (bp (((((m.add).length : Nat) : Int)) ≠ (m.mod))) Gd.none rfl (decide_eq_false h3) rfl ?_
        refine aops_end ?_
        refine hK2 _ ?_
        refine awp_condQ (q := ((((m.add).length : Nat) : Int)) ≠ (m.mod)) rfl (fun h4 => ?_) (fun h4 => ?_)
        · refine awp_seq fun K6 hK6 => ?_
          refine awp_region rfl ?_
          refine o_assign (AV.lit (.bool false)) Gd.none rfl ?_
          refine aops_end ?_
          refine hK6 _ ?_
          refine awp_ret ?_
          refine post_ret ⟨[(AV.lit (.bool false))], And.intro (AV.le_refl _) (trivial), rfl, ?_⟩
          refine bl_eq (okM_no fun h => ?_)
          obtain ⟨o1, o2, o3, o4, o5⟩ := h
          first | omega | (have := o5 r (by omega); omega)
        · refine awp_skip ?_
          refine hK1 _ ?_
          refine awp_seq fun K7 hK7 => ?_
          refine awp_seq fun K8 hK8 => ?_
          refine awp_region rfl ?_
          refine o_fieldRef 0 Gd.none Wi_tF24_0 rfl rfl ?_
          refine o_loadS (AV.lit (.int .i64 (m.mod))) Gd.none Wi_tS3 rfl rfl rfl ?_
          refine o_move (nm .i64 (0)) Gd.none rfl ?_
          refine aops_end ?_
          refine hK8 _ ?_
          refine awp_block ?_
          refine awp_loopR (fun κ σ => ∃ (r : Nat), ((r : Int) ≤ m.mod) ∧ (∀ i : Nat, i < r → 1 ≤ m.mul.getD i 0 ∧ m.mul.getD i 0 ≤ 999 ∧ -999999 ≤ m.add.getD i 0 ∧ m.add.getD i 0 ≤ 999999 ∧ Int.tmod (m.mul.getD i 0 * i + m.add.getD i 0) m.mod = 0) ∧ (m.mod.toNat - r) = κ ∧ σ = ⟨[(1, (AV.ref 2 (0))), (29, (AV.lit (.int .i64 (m.mod)))), (30, (nm .i64 (r)))], [(2, (AO.var 24 [(AV.lit (.int .i64 (m.mod))), (AV.sl 1 (is .i64 (m.mul))), (AV.sl 1 (is .i64 (m.add)))]))]⟩) ⟨_, _, ⟨0, (by omega), (fun i hi => by omega), rfl, rfl⟩, ?wk0⟩ ?rd0
          case wk0 =>
            exact Wk.sub (And.intro (by exact rfl) (And.intro (by exact rfl) (And.intro (by first | rfl | exact congrArg (nm _) (by omega) | exact nm_int (by omega) | exact nm_int (by simp [IntKind.wrap, IntKind.bits, IntKind.signed]; omega)) (trivial)))) (And.intro (by first | rfl | exact row_ns (by simp) | exact congrArg (fun x => some (AO.blk (.stringIter _ x))) (by omega)) (trivial))
          rintro κ _ ⟨r, hr, hv, rfl, rfl⟩
          refine awp_seq fun K9 hK9 => ?_
          refine awp_region rfl ?_
          refine o_lss (a := (((r : Nat) : Int))) (c := (m.mod)) Gd.none rfl rfl ?_
          refine aops_end ?_
          refine hK9 _ ?_
          refine awp_seq fun K10 hK10 => ?_
          refine awp_condQ (q := (((r : Nat) : Int)) < (m.mod)) rfl (fun h5 => ?_) (fun h5 => ?_)
          · refine awp_skip ?_
            refine hK10 _ ?_
            refine awp_seq fun K11 hK11 => ?_
            refine awp_block ?_
            refine awp_seq fun K12 hK12 => ?_
            refine awp_region rfl ?_
            refine o_move (nm .i64 (r)) Gd.none rfl ?_
            refine o_assign (nm .i64 (r)) Gd.none rfl ?_
            refine aops_end ?_
            refine hK12 _ ?_
            refine awp_seq fun K13 hK13 => ?_
            refine awp_regionD rfl ?_
            refine o_fieldRef 1 Gd.none Wi_tF24_1 rfl rfl ?_
            refine o_loadS (AV.sl 1 (is .i64 (m.mul))) Gd.none Wi_tS22 rfl rfl rfl ?_
            refine o_move (nm .i64 (r)) Gd.none rfl ?_
            refine i_index (m.mul) (r) Gd.none Wi_tE22 rfl rfl (by omega) ?_
            refine i_loadI (m.mul) (r) Gd.none Wi_tS3 rfl (by omega) ?_
            refine o_lss (a := ((m.mul).getD (r) 0)) (c := (((1 : Nat) : Int))) Gd.none rfl rfl ?_
            refine o_move (bp (((m.mul).getD (r) 0) < (((1 : Nat) : Int)))) Gd.none rfl ?_
            refine o_splitP (q := ((m.mul).getD (r) 0) < (((1 : Nat) : Int))) 39 rfl (fun h6 => ?_) (fun h6 => ?_)
            · refine o_skip (b := decide (((m.mul).getD (r) 0) < (((1 : Nat) : Int)))) rfl rfl (decide_eq_true h6) ?_
              refine o_skip (b := decide (((m.mul).getD (r) 0) < (((1 : Nat) : Int)))) rfl rfl (decide_eq_true h6) ?_
              refine o_skip (b := decide (((m.mul).getD (r) 0) < (((1 : Nat) : Int)))) rfl rfl (decide_eq_true h6) ?_
              refine o_skip (b := decide (((m.mul).getD (r) 0) < (((1 : Nat) : Int)))) rfl rfl (decide_eq_true h6) ?_
              refine o_skip (b := decide (((m.mul).getD (r) 0) < (((1 : Nat) : Int)))) rfl rfl (decide_eq_true h6) ?_
              refine o_skip (b := decide (((m.mul).getD (r) 0) < (((1 : Nat) : Int)))) rfl rfl (decide_eq_true h6) ?_
              refine o_pickT (b := decide (((m.mul).getD (r) 0) < (((1 : Nat) : Int)))) (AV.lit (.bool true)) Gd.none rfl (decide_eq_true h6) rfl ?_
              refine o_move (AV.lit (.bool true)) Gd.none rfl ?_
              refine o_skip (b := true) rfl rfl rfl ?_
              refine o_skip (b := true) rfl rfl rfl ?_
              refine o_skip (b := true) rfl rfl rfl ?_
              refine o_skip (b := true) rfl rfl rfl ?_
              refine o_skip (b := true) rfl rfl rfl ?_
              refine o_skip (b := true) rfl rfl rfl ?_
              refine o_pickT (b := true) (AV.lit (.bool true)) Gd.none rfl rfl rfl ?_
              refine o_move (AV.lit (.bool true)) Gd.none rfl ?_
              refine o_skip (b := true) rfl rfl rfl ?_
              refine o_skip (b := true) rfl rfl rfl ?_
              refine o_skip (b := true) rfl rfl rfl ?_
              refine o_skip (b := true) rfl rfl rfl ?_
              refine o_skip (b := true) rfl rfl rfl ?_
              refine o_skip (b := true) rfl rfl rfl ?_
              refine o_pickT (b := true) (AV.lit (.bool true)) Gd.none rfl rfl rfl ?_
              refine o_move (AV.lit (.bool true)) Gd.none rfl ?_
              refine o_skip (b := true) rfl rfl rfl ?_
              refine o_skip (b := true) rfl rfl rfl ?_
              refine o_skip (b := true) rfl rfl rfl ?_
              refine o_skip (b := true) rfl rfl rfl ?_
              refine o_skip (b := true) rfl rfl rfl ?_
              refine o_skip (b := true) rfl rfl rfl ?_
              refine o_skip (b := true) rfl rfl rfl ?_
              refine o_skip (b := true) rfl rfl rfl ?_
              refine o_skip (b := true) rfl rfl rfl ?_
              refine o_skip (b := true) rfl rfl rfl ?_
              refine o_skip (b := true) rfl rfl rfl ?_
              refine o_skip (b := true) rfl rfl rfl ?_
              refine o_skip (b := true) rfl rfl rfl ?_
              refine o_skip (b := true) rfl rfl rfl ?_
              refine o_skip (b := true) rfl rfl rfl ?_
              refine o_skip (b := true) rfl rfl rfl ?_
              refine o_skip (b := true) rfl rfl rfl ?_
              refine o_pickT (b := true) (AV.lit (.bool true)) Gd.none rfl rfl rfl ?_
              refine aops_end ⟨by kernel_rfl, ?_⟩
              refine hK13 _ ?_
              refine awp_condB (b := true) rfl (fun _ => ?_) (fun hh => absurd (hh.symm.trans rfl) (by decide))
              refine awp_seq fun K14 hK14 => ?_
              refine awp_region rfl ?_
              refine o_assign (AV.lit (.bool false)) Gd.none rfl ?_
              refine aops_end ?_
              refine hK14 _ ?_
              refine awp_ret ?_
              refine post_ret ⟨[(AV.lit (.bool false))], And.intro (AV.le_refl _) (trivial), rfl, ?_⟩
              refine bl_eq (okM_no fun h => ?_)
              obtain ⟨o1, o2, o3, o4, o5⟩ := h
              first | omega | (have := o5 r (by omega); omega)
            · refine o_fieldRef 1 (Gd.yes rfl rfl (decide_eq_false h6)) Wi_tF24_1 rfl rfl ?_
              refine o_loadS (AV.sl 1 (is .i64 (m.mul))) (Gd.yes rfl rfl (decide_eq_false h6)) Wi_tS22 rfl rfl rfl ?_
              refine o_move (nm .i64 (r)) (Gd.yes rfl rfl (decide_eq_false h6)) rfl ?_
              refine i_index (m.mul) (r) (Gd.yes rfl rfl (decide_eq_false h6)) Wi_tE22 rfl rfl (by omega) ?_
              refine i_loadI (m.mul) (r) (Gd.yes rfl rfl (decide_eq_false h6)) Wi_tS3 rfl (by omega) ?_
              refine o_gtr (a := ((m.mul).getD (r) 0)) (c := (((999 : Nat) : Int))) (Gd.yes rfl rfl (decide_eq_false h6)) rfl rfl ?_
              refine o_pickF (b := decide (((m.mul).getD (r) 0) < (((1 : Nat) : Int)))) (bp ((((999 : Nat) : Int)) < ((m.mul).getD (r) 0))) Gd.none rfl (decide_eq_false h6) rfl ?_
              refine o_move (bp ((((999 : Nat) : Int)) < ((m.mul).getD (r) 0))) Gd.none rfl ?_
              refine o_splitP (q := (((999 : Nat) : Int)) < ((m.mul).getD (r) 0)) 47 rfl (fun h7 => ?_) (fun h7 => ?_)
              · refine o_skip (b := decide ((((999 : Nat) : Int)) < ((m.mul).getD (r) 0))) rfl rfl (decide_eq_true h7) ?_
                refine o_skip (b := decide ((((999 : Nat) : Int)) < ((m.mul).getD (r) 0))) rfl rfl (decide_eq_true h7) ?_
                refine o_skip (b := decide ((((999 : Nat) : Int)) < ((m.mul).getD (r) 0))) rfl rfl (decide_eq_true h7) ?_
                refine o_skip (b := decide ((((999 : Nat) : Int)) < ((m.mul).getD (r) 0))) rfl rfl (decide_eq_true h7) ?_
                refine o_skip (b := decide ((((999 : Nat) : Int)) < ((m.mul).getD (r) 0))) rfl rfl (decide_eq_true h7) ?_
                refine o_skip (b := decide ((((999 : Nat) : Int)) < ((m.mul).getD (r) 0))) rfl rfl (decide_eq_true h7) ?_
                refine o_pickT (b := decide ((((999 : Nat) : Int)) < ((m.mul).getD (r) 0))) (AV.lit (.bool true)) Gd.none rfl (decide_eq_true h7) rfl ?_
                refine o_move (AV.lit (.bool true)) Gd.none rfl ?_
                refine o_skip (b := true) rfl rfl rfl ?_
                refine o_skip (b := true) rfl rfl rfl ?_
                refine o_skip (b := true) rfl rfl rfl ?_
                refine o_skip (b := true) rfl rfl rfl ?_
                refine o_skip (b := true) rfl rfl rfl ?_
                refine o_skip (b := true) rfl rfl rfl ?_
                refine o_pickT (b := true) (AV.lit (.bool true)) Gd.none rfl rfl rfl ?_
                refine o_move (AV.lit (.bool true)) Gd.none rfl ?_
                refine o_skip (b := true) rfl rfl rfl ?_
                refine o_skip (b := true) rfl rfl rfl ?_
                refine o_skip (b := true) rfl rfl rfl ?_
                refine o_skip (b := true) rfl rfl rfl ?_
                refine o_skip (b := true) rfl rfl rfl ?_
                refine o_skip (b := true) rfl rfl rfl ?_
                refine o_skip (b := true) rfl rfl rfl ?_
                refine o_skip (b := true) rfl rfl rfl ?_
                refine o_skip (b := true) rfl rfl rfl ?_
                refine o_skip (b := true) rfl rfl rfl ?_
                refine o_skip (b := true) rfl rfl rfl ?_
                refine o_skip (b := true) rfl rfl rfl ?_
                refine o_skip (b := true) rfl rfl rfl ?_
                refine o_skip (b := true) rfl rfl rfl ?_
                refine o_skip (b := true) rfl rfl rfl ?_
                refine o_skip (b := true) rfl rfl rfl ?_
                refine o_skip (b := true) rfl rfl rfl ?_
                refine o_pickT (b := true) (AV.lit (.bool true)) Gd.none rfl rfl rfl ?_
                refine aops_end ⟨by kernel_rfl, ?_⟩
                refine hK13 _ ?_
                refine awp_condB (b := true) rfl (fun _ => ?_) (fun hh => absurd (hh.symm.trans rfl) (by decide))
                refine awp_seq fun K15 hK15 => ?_
                refine awp_region rfl ?_
                refine o_assign (AV.lit (.bool false)) Gd.none rfl ?_
                refine aops_end ?_
                refine hK15 _ ?_
                refine awp_ret ?_
                refine post_ret ⟨[(AV.lit (.bool false))], And.intro (AV.le_refl _) (trivial), rfl, ?_⟩
                refine bl_eq (okM_no fun h => ?_)
                obtain ⟨o1, o2, o3, o4, o5⟩ := h
                first | omega | (have := o5 r (by omega); omega)
              · refine o_fieldRef 2 (Gd.yes rfl rfl (decide_eq_false h7)) Wi_tF24_2 rfl rfl ?_
                refine o_loadS (AV.sl 1 (is .i64 (m.add))) (Gd.yes rfl rfl (decide_eq_false h7)) Wi_tS22 rfl rfl rfl ?_
                refine o_move (nm .i64 (r)) (Gd.yes rfl rfl (decide_eq_false h7)) rfl ?_
                refine i_index (m.add) (r) (Gd.yes rfl rfl (decide_eq_false h7)) Wi_tE22 rfl rfl (by omega) ?_
                refine i_loadI (m.add) (r) (Gd.yes rfl rfl (decide_eq_false h7)) Wi_tS3 rfl (by omega) ?_
                refine o_lss (a := ((m.add).getD (r) 0)) (c := ((-999999))) (Gd.yes rfl rfl (decide_eq_false h7)) rfl rfl ?_
                refine o_pickF (b := decide ((((999 : Nat) : Int)) < ((m.mul).getD (r) 0))) (bp (((m.add).getD (r) 0) < ((-999999)))) Gd.none rfl (decide_eq_false h7) rfl ?_
                refine o_move (bp (((m.add).getD (r) 0) < ((-999999)))) Gd.none rfl ?_
                refine o_splitP (q := ((m.add).getD (r) 0) < ((-999999))) 55 rfl (fun h8 => ?_) (fun h8 => ?_)
                · refine o_skip (b := decide (((m.add).getD (r) 0) < ((-999999)))) rfl rfl (decide_eq_true h8) ?_
                  refine o_skip (b := decide (((m.add).getD (r) 0) < ((-999999)))) rfl rfl (decide_eq_true h8) ?_
                  refine o_skip (b := decide (((m.add).getD (r) 0) < ((-999999)))) rfl rfl (decide_eq_true h8) ?_
                  refine o_skip (b := decide (((m.add).getD (r) 0) < ((-999999)))) rfl rfl (decide_eq_true h8) ?_
                  refine o_skip (b := decide (((m.add).getD (r) 0) < ((-999999)))) rfl rfl (decide_eq_true h8) ?_
                  refine o_skip (b := decide (((m.add).getD (r) 0) < ((-999999)))) rfl rfl (decide_eq_true h8) ?_
                  refine o_pickT (b := decide (((m.add).getD (r) 0) < ((-999999)))) (AV.lit (.bool true)) Gd.none rfl (decide_eq_true h8) rfl ?_
                  refine o_move (AV.lit (.bool true)) Gd.none rfl ?_
                  refine o_skip (b := true) rfl rfl rfl ?_
                  refine o_skip (b := true) rfl rfl rfl ?_
                  refine o_skip (b := true) rfl rfl rfl ?_
                  refine o_skip (b := true) rfl rfl rfl ?_
                  refine o_skip (b := true) rfl rfl rfl ?_
                  refine o_skip (b := true) rfl rfl rfl ?_
                  refine o_skip (b := true) rfl rfl rfl ?_
                  refine o_skip (b := true) rfl rfl rfl ?_
                  refine o_skip (b := true) rfl rfl rfl ?_
                  refine o_skip (b := true) rfl rfl rfl ?_
                  refine o_skip (b := true) rfl rfl rfl ?_
                  refine o_skip (b := true) rfl rfl rfl ?_
                  refine o_skip (b := true) rfl rfl rfl ?_
                  refine o_skip (b := true) rfl rfl rfl ?_
                  refine o_skip (b := true) rfl rfl rfl ?_
                  refine o_skip (b := true) rfl rfl rfl ?_
                  refine o_skip (b := true) rfl rfl rfl ?_
                  refine o_pickT (b := true) (AV.lit (.bool true)) Gd.none rfl rfl rfl ?_
                  refine aops_end ⟨by kernel_rfl, ?_⟩
                  refine hK13 _ ?_
                  refine awp_condB (b := true) rfl (fun _ => ?_) (fun hh => absurd (hh.symm.trans rfl) (by decide))
                  refine awp_seq fun K16 hK16 => ?_
                  refine awp_region rfl ?_
                  refine o_assign (AV.lit (.bool false)) Gd.none rfl ?_
                  refine aops_end ?_
                  refine hK16 _ ?_
                  refine awp_ret ?_
                  refine post_ret ⟨[(AV.lit (.bool false))], And.intro (AV.le_refl _) (trivial), rfl, ?_⟩
                  refine bl_eq (okM_no fun h => ?_)
                  obtain ⟨o1, o2, o3, o4, o5⟩ := h
                  first | omega | (have := o5 r (by omega); omega)
                · refine o_fieldRef 2 (Gd.yes rfl rfl (decide_eq_false h8)) Wi_tF24_2 rfl rfl ?_
                  refine o_loadS (AV.sl 1 (is .i64 (m.add))) (Gd.yes rfl rfl (decide_eq_false h8)) Wi_tS22 rfl rfl rfl ?_
                  refine o_move (nm .i64 (r)) (Gd.yes rfl rfl (decide_eq_false h8)) rfl ?_
                  refine i_index (m.add) (r) (Gd.yes rfl rfl (decide_eq_false h8)) Wi_tE22 rfl rfl (by omega) ?_
                  refine i_loadI (m.add) (r) (Gd.yes rfl rfl (decide_eq_false h8)) Wi_tS3 rfl (by omega) ?_
                  refine o_gtr (a := ((m.add).getD (r) 0)) (c := (((999999 : Nat) : Int))) (Gd.yes rfl rfl (decide_eq_false h8)) rfl rfl ?_
                  refine o_pickF (b := decide (((m.add).getD (r) 0) < ((-999999)))) (bp ((((999999 : Nat) : Int)) < ((m.add).getD (r) 0))) Gd.none rfl (decide_eq_false h8) rfl ?_
                  refine o_move (bp ((((999999 : Nat) : Int)) < ((m.add).getD (r) 0))) Gd.none rfl ?_
                  refine o_splitP (q := (((999999 : Nat) : Int)) < ((m.add).getD (r) 0)) 63 rfl (fun h9 => ?_) (fun h9 => ?_)
                  · refine o_skip (b := decide ((((999999 : Nat) : Int)) < ((m.add).getD (r) 0))) rfl rfl (decide_eq_true h9) ?_
                    refine o_skip (b := decide ((((999999 : Nat) : Int)) < ((m.add).getD (r) 0))) rfl rfl (decide_eq_true h9) ?_
                    refine o_skip (b := decide ((((999999 : Nat) : Int)) < ((m.add).getD (r) 0))) rfl rfl (decide_eq_true h9) ?_
                    refine o_skip (b := decide ((((999999 : Nat) : Int)) < ((m.add).getD (r) 0))) rfl rfl (decide_eq_true h9) ?_
                    refine o_skip (b := decide ((((999999 : Nat) : Int)) < ((m.add).getD (r) 0))) rfl rfl (decide_eq_true h9) ?_
                    refine o_skip (b := decide ((((999999 : Nat) : Int)) < ((m.add).getD (r) 0))) rfl rfl (decide_eq_true h9) ?_
                    refine o_skip (b := decide ((((999999 : Nat) : Int)) < ((m.add).getD (r) 0))) rfl rfl (decide_eq_true h9) ?_
                    refine o_skip (b := decide ((((999999 : Nat) : Int)) < ((m.add).getD (r) 0))) rfl rfl (decide_eq_true h9) ?_
                    refine o_skip (b := decide ((((999999 : Nat) : Int)) < ((m.add).getD (r) 0))) rfl rfl (decide_eq_true h9) ?_
                    refine o_skip (b := decide ((((999999 : Nat) : Int)) < ((m.add).getD (r) 0))) rfl rfl (decide_eq_true h9) ?_
                    refine o_skip (b := decide ((((999999 : Nat) : Int)) < ((m.add).getD (r) 0))) rfl rfl (decide_eq_true h9) ?_
                    refine o_skip (b := decide ((((999999 : Nat) : Int)) < ((m.add).getD (r) 0))) rfl rfl (decide_eq_true h9) ?_
                    refine o_skip (b := decide ((((999999 : Nat) : Int)) < ((m.add).getD (r) 0))) rfl rfl (decide_eq_true h9) ?_
                    refine o_skip (b := decide ((((999999 : Nat) : Int)) < ((m.add).getD (r) 0))) rfl rfl (decide_eq_true h9) ?_
                    refine o_skip (b := decide ((((999999 : Nat) : Int)) < ((m.add).getD (r) 0))) rfl rfl (decide_eq_true h9) ?_
                    refine o_skip (b := decide ((((999999 : Nat) : Int)) < ((m.add).getD (r) 0))) rfl rfl (decide_eq_true h9) ?_
                    refine o_skip (b := decide ((((999999 : Nat) : Int)) < ((m.add).getD (r) 0))) rfl rfl (decide_eq_true h9) ?_
                    refine o_pickT (b := decide ((((999999 : Nat) : Int)) < ((m.add).getD (r) 0))) (AV.lit (.bool true)) Gd.none rfl (decide_eq_true h9) rfl ?_
                    refine aops_end ⟨by kernel_rfl, ?_⟩
                    refine hK13 _ ?_
                    refine awp_condB (b := true) rfl (fun _ => ?_) (fun hh => absurd (hh.symm.trans rfl) (by decide))
                    refine awp_seq fun K17 hK17 => ?_
                    refine awp_region rfl ?_
                    refine o_assign (AV.lit (.bool false)) Gd.none rfl ?_
                    refine aops_end ?_
                    refine hK17 _ ?_
                    refine awp_ret ?_
                    refine post_ret ⟨[(AV.lit (.bool false))], And.intro (AV.le_refl _) (trivial), rfl, ?_⟩
                    refine bl_eq (okM_no fun h => ?_)
                    obtain ⟨o1, o2, o3, o4, o5⟩ := h
                    first | omega | (have := o5 r (by omega); omega)
                  · refine o_fieldRef 1 (Gd.yes rfl rfl (decide_eq_false h9)) Wi_tF24_1 rfl rfl ?_
                    refine o_loadS (AV.sl 1 (is .i64 (m.mul))) (Gd.yes rfl rfl (decide_eq_false h9)) Wi_tS22 rfl rfl rfl ?_
                    refine o_move (nm .i64 (r)) (Gd.yes rfl rfl (decide_eq_false h9)) rfl ?_
                    refine i_index (m.mul) (r) (Gd.yes rfl rfl (decide_eq_false h9)) Wi_tE22 rfl rfl (by omega) ?_
                    refine i_loadI (m.mul) (r) (Gd.yes rfl rfl (decide_eq_false h9)) Wi_tS3 rfl (by omega) ?_
                    refine o_move (nm .i64 (r)) (Gd.yes rfl rfl (decide_eq_false h9)) rfl ?_
                    refine o_mul (a := ((m.mul).getD (r) 0)) (c := (((r : Nat) : Int))) (Gd.yes rfl rfl (decide_eq_false h9)) rfl rfl (by have hm := mulb (a := (m.mul).getD (r) 0) (r := (r : Int)) (by omega) (by omega) (by omega) (by omega); exact wrap64 (by omega) (by omega)) ?_
                    refine o_fieldRef 2 (Gd.yes rfl rfl (decide_eq_false h9)) Wi_tF24_2 rfl rfl ?_
                    refine o_loadS (AV.sl 1 (is .i64 (m.add))) (Gd.yes rfl rfl (decide_eq_false h9)) Wi_tS22 rfl rfl rfl ?_
                    refine o_move (nm .i64 (r)) (Gd.yes rfl rfl (decide_eq_false h9)) rfl ?_
                    refine i_index (m.add) (r) (Gd.yes rfl rfl (decide_eq_false h9)) Wi_tE22 rfl rfl (by omega) ?_
                    refine i_loadI (m.add) (r) (Gd.yes rfl rfl (decide_eq_false h9)) Wi_tS3 rfl (by omega) ?_
                    refine o_add (a := (((m.mul).getD (r) 0) * (((r : Nat) : Int)))) (c := ((m.add).getD (r) 0)) (Gd.yes rfl rfl (decide_eq_false h9)) rfl rfl (by have hm := mulb (a := (m.mul).getD (r) 0) (r := (r : Int)) (by omega) (by omega) (by omega) (by omega); exact wrap64 (by omega) (by omega)) ?_
                    refine o_fieldRef 0 (Gd.yes rfl rfl (decide_eq_false h9)) Wi_tF24_0 rfl rfl ?_
                    refine o_loadS (AV.lit (.int .i64 (m.mod))) (Gd.yes rfl rfl (decide_eq_false h9)) Wi_tS3 rfl rfl rfl ?_
                    refine o_remT (a := ((((m.mul).getD (r) 0) * (((r : Nat) : Int))) + ((m.add).getD (r) 0))) (c := (m.mod)) (Gd.yes rfl rfl (decide_eq_false h9)) rfl rfl (by omega) ?_
                    refine o_neq (a := (Int.tmod ((((m.mul).getD (r) 0) * (((r : Nat) : Int))) + ((m.add).getD (r) 0)) (m.mod))) (c := (((0 : Nat) : Int))) (Gd.yes rfl rfl (decide_eq_false h9)) rfl rfl ?_
                    refine o_pickF (b := decide ((((999999 : Nat) : Int)) < ((m.add).getD (r) 0))) (bp ((Int.tmod ((((m.mul).getD (r) 0) * (((r : Nat) : Int))) + ((m.add).getD (r) 0)) (m.mod)) ≠ (((0 : Nat) : Int)))) Gd.none rfl (decide_eq_false h9) rfl ?_
                    refine aops_end ⟨by kernel_rfl, ?_⟩
                    refine hK13 _ ?_
                    refine awp_condQ (q := (Int.tmod ((((m.mul).getD (r) 0) * (((r : Nat) : Int))) + ((m.add).getD (r) 0)) (m.mod)) ≠ (((0 : Nat) : Int))) rfl (fun h10 => ?_) (fun h10 => ?_)
                    · refine awp_seq fun K18 hK18 => ?_
                      refine awp_region rfl ?_
                      refine o_assign (AV.lit (.bool false)) Gd.none rfl ?_
                      refine aops_end ?_
                      refine hK18 _ ?_
                      refine awp_ret ?_
                      refine post_ret ⟨[(AV.lit (.bool false))], And.intro (AV.le_refl _) (trivial), rfl, ?_⟩
                      refine bl_eq (okM_no fun h => ?_)
                      obtain ⟨o1, o2, o3, o4, o5⟩ := h
                      first | omega | (have := o5 r (by omega); omega)
                    · refine awp_skip ?_
                      refine hK11 _ ?_
                      refine awp_region rfl ?_
                      refine n_add (r) (1) Gd.none rfl rfl (by simp only [topOf]; omega) ?_
                      refine o_move (nm .i64 ((r) + (1))) Gd.none rfl ?_
                      refine aops_end ?_
                      refine ⟨_, _, ?lt, ⟨r + 1, (by omega), (fun i hi => by by_cases e : i = r; subst e; exact ⟨by omega, by omega, by omega, by omega, by omega⟩; exact hv i (by omega)), rfl, rfl⟩, ?wk⟩
                      case lt => omega
                      case wk => exact Wk.sub (And.intro (by exact rfl) (And.intro (by exact rfl) (And.intro (by first | rfl | exact congrArg (nm _) (by omega) | exact nm_int (by omega) | exact nm_int (by simp [IntKind.wrap, IntKind.bits, IntKind.signed]; omega)) (trivial)))) (And.intro (by first | rfl | exact row_ns (by simp) | exact congrArg (fun x => some (AO.blk (.stringIter _ x))) (by omega)) (trivial))
          · refine awp_exit ?_
            refine hK7 _ ?_
            refine awp_seq fun K19 hK19 => ?_
            refine awp_region rfl ?_
            refine o_assign (AV.lit (.bool true)) Gd.none rfl ?_
            refine aops_end ?_
            refine hK19 _ ?_
            refine awp_ret ?_
            refine post_ret ⟨[(AV.lit (.bool true))], And.intro (AV.le_refl _) (trivial), rfl, ?_⟩
            refine bl_eq (okM_yes ⟨by omega, by omega, by omega, by omega, fun i hi => hv i (by omega)⟩)

theorem c_sNext (m : MapM) (z : Int) (hm : OkM m) (hz : (digs z.natAbs).length ≤ 1000000) : ECalls cx 85 [(mapV m), (intW (z))] (.tup [intW (stepZ m z), .lit (.int .i64 (z % m.mod))]) := by
  refine ecalls_of_awp Tryd.func85 (c := _) rfl (Nat.le_of_ble_eq_true rfl) ?_
  show awp cx 40 _ (postF cx Tryd.f85 _) ⟨[(0, (mapV m)), (1, (intW (z)))], []⟩
  have hM := hm
  obtain ⟨o1, o2, o3, o4, o5⟩ := hm
  have hr0 := Int.emod_nonneg z (b := m.mod) (by omega)
  have hr1 := Int.emod_lt_of_pos z (b := m.mod) (by omega)
  have hr := o5 (z % m.mod).toNat (by omega)
  have hL1 := small_len (z := ((m.mul).getD ((z % m.mod).toNat) 0)) (by omega)
  have hL2 := small_len (z := ((m.add).getD ((z % m.mod).toNat) 0)) (by omega)
  have hL3 := len_mulZ z ((m.mul).getD ((z % m.mod).toNat) 0)
  have hL4 := len_addZ (z * ((m.mul).getD ((z % m.mod).toNat) 0)) ((m.add).getD ((z % m.mod).toNat) 0)
  have hmd : ((m.mod.toNat : Nat) : Int) = m.mod := Int.toNat_of_nonneg (by omega)
  refine awp_seq fun K0 hK0 => ?_
  refine awp_region rfl ?_
  refine o_box 2 [(AV.lit (.int .i64 (m.mod))), (AV.sl 1 (is .i64 (m.mul))), (AV.sl 1 (is .i64 (m.add)))] Gd.none rfl rfl ?_
  refine o_box 3 [(bp (z < 0)), (AV.sl 1 (ns .u32 (digs (z).natAbs)))] Gd.none rfl rfl ?_
  refine o_alloc 4 [(AV.lit (.bool false)), (AV.lit (.slice none 0 0))] Gd.none Wi_tO89 rfl rfl rfl ?_
  refine o_assign (nm .i64 (0)) Gd.none rfl ?_
  refine aops_end ?_
  refine hK0 _ ?_
  refine awp_seq fun K1 hK1 => ?_
  refine awp_region rfl ?_
  refine o_loadA [(bp (z < 0)), (AV.sl 1 (ns .u32 (digs (z).natAbs)))] Gd.none Wi_tA89 rfl rfl rfl rfl rfl ?_
  refine o_fieldRef 0 Gd.none Wi_tF24_0 rfl rfl ?_
  refine o_loadS (AV.lit (.int .i64 (m.mod))) Gd.none Wi_tS3 rfl rfl rfl ?_
  refine n_as (v' := (nm .i64 (m.mod.toNat))) (nm_int (by omega)) ?_
  refine o_call [(AV.agg [(bp (z < 0)), (AV.sl 1 (ns .u32 (digs (z).natAbs)))]), (nm .i64 (m.mod.toNat))] (AV.tup [(intW ((z / ((m.mod.toNat : Nat) : Int)))), (AV.lit (.int .i64 (z % ((m.mod.toNat : Nat) : Int))))]) Gd.none Wi_tC98 rfl (c_wQR (z) (m.mod.toNat) (by omega) (by omega) (by first | assumption | omega | (simp only [Int.natAbs_neg]; omega))) ?_
  refine o_move (AV.tup [(intW ((z / ((m.mod.toNat : Nat) : Int)))), (AV.lit (.int .i64 (z % ((m.mod.toNat : Nat) : Int))))]) Gd.none rfl ?_
  refine o_extract (intW ((z / ((m.mod.toNat : Nat) : Int)))) Gd.none rfl rfl ?_
  refine o_extract (AV.lit (.int .i64 (z % ((m.mod.toNat : Nat) : Int)))) Gd.none rfl rfl ?_
  refine n_as (v' := (nm .i64 ((z % m.mod).toNat))) (nm_int (by rw [hmd]; omega)) ?_
  refine o_alloc 5 [(AV.lit (.bool false)), (AV.lit (.slice none 0 0))] Gd.none Wi_tO89 rfl rfl rfl ?_
  refine o_store [(5, (AO.var 89 [(bp ((z / ((m.mod.toNat : Nat) : Int)) < 0)), (AV.sl 1 (ns .u32 (digs ((z / ((m.mod.toNat : Nat) : Int))).natAbs)))])), (4, (AO.var 89 [(AV.lit (.bool false)), (AV.lit (.slice none 0 0))])), (3, (AO.var 89 [(bp (z < 0)), (AV.sl 1 (ns .u32 (digs (z).natAbs)))])), (2, (AO.var 24 [(AV.lit (.int .i64 (m.mod))), (AV.sl 1 (is .i64 (m.mul))), (AV.sl 1 (is .i64 (m.add)))]))] Gd.none Wi_tZ89 rfl rfl rfl rfl rfl rfl ?_
  refine o_assign (nm .i64 ((z % m.mod).toNat)) Gd.none rfl ?_
  refine aops_end ?_
  refine hK1 _ ?_
  refine awp_seq fun K2 hK2 => ?_
  refine awp_regionD rfl ?_
  refine o_loadA [(bp (z < 0)), (AV.sl 1 (ns .u32 (digs (z).natAbs)))] Gd.none Wi_tA89 rfl rfl rfl rfl rfl ?_
  refine o_fieldRef 1 Gd.none Wi_tF24_1 rfl rfl ?_
  refine o_loadS (AV.sl 1 (is .i64 (m.mul))) Gd.none Wi_tS22 rfl rfl rfl ?_
  refine o_move (nm .i64 ((z % m.mod).toNat)) Gd.none rfl ?_
  refine n_as (v' := (nm .i64 ((z % m.mod).toNat))) (congrArg (nm _) (by omega)) ?_
  refine i_index (m.mul) ((z % m.mod).toNat) Gd.none Wi_tE22 rfl rfl (by omega) ?_
  refine i_loadI (m.mul) ((z % m.mod).toNat) Gd.none Wi_tS3 rfl (by omega) ?_
  refine o_call [(AV.lit (.int .i64 ((m.mul).getD ((z % m.mod).toNat) 0)))] (intW ((m.mul).getD ((z % m.mod).toNat) 0)) Gd.none Wi_tC105 rfl (c_wOf ((m.mul).getD ((z % m.mod).toNat) 0) (by first | decide | omega) (by first | decide | omega)) ?_
  refine o_call [(AV.agg [(bp (z < 0)), (AV.sl 1 (ns .u32 (digs (z).natAbs)))]), (intW ((m.mul).getD ((z % m.mod).toNat) 0))] (intW ((z * (m.mul).getD ((z % m.mod).toNat) 0))) Gd.none Wi_tC91 rfl (c_wMul (z) ((m.mul).getD ((z % m.mod).toNat) 0) (by first | assumption | omega | (simp only [Int.natAbs_neg]; omega)) (by first | assumption | omega | (simp only [Int.natAbs_neg]; omega))) ?_
  refine o_fieldRef 2 Gd.none Wi_tF24_2 rfl rfl ?_
  refine o_loadS (AV.sl 1 (is .i64 (m.add))) Gd.none Wi_tS22 rfl rfl rfl ?_
  refine o_move (nm .i64 ((z % m.mod).toNat)) Gd.none rfl ?_
  refine n_as (v' := (nm .i64 ((z % m.mod).toNat))) (congrArg (nm _) (by omega)) ?_
  refine i_index (m.add) ((z % m.mod).toNat) Gd.none Wi_tE22 rfl rfl (by omega) ?_
  refine i_loadI (m.add) ((z % m.mod).toNat) Gd.none Wi_tS3 rfl (by omega) ?_
  refine o_call [(AV.lit (.int .i64 ((m.add).getD ((z % m.mod).toNat) 0)))] (intW ((m.add).getD ((z % m.mod).toNat) 0)) Gd.none Wi_tC105 rfl (c_wOf ((m.add).getD ((z % m.mod).toNat) 0) (by first | decide | omega) (by first | decide | omega)) ?_
  refine o_call [(intW ((z * (m.mul).getD ((z % m.mod).toNat) 0))), (intW ((m.add).getD ((z % m.mod).toNat) 0))] (intW (((z * (m.mul).getD ((z % m.mod).toNat) 0) + (m.add).getD ((z % m.mod).toNat) 0))) Gd.none Wi_tC92 rfl (c_wAdd ((z * (m.mul).getD ((z % m.mod).toNat) 0)) ((m.add).getD ((z % m.mod).toNat) 0) (by first | assumption | omega | (simp only [Int.natAbs_neg]; omega)) (by first | assumption | omega | (simp only [Int.natAbs_neg]; omega))) ?_
  refine o_fieldRef 0 Gd.none Wi_tF24_0 rfl rfl ?_
  refine o_loadS (AV.lit (.int .i64 (m.mod))) Gd.none Wi_tS3 rfl rfl rfl ?_
  refine n_as (v' := (nm .i64 (m.mod.toNat))) (nm_int (by omega)) ?_
  refine o_call [(intW (((z * (m.mul).getD ((z % m.mod).toNat) 0) + (m.add).getD ((z % m.mod).toNat) 0))), (nm .i64 (m.mod.toNat))] (AV.tup [(intW ((((z * (m.mul).getD ((z % m.mod).toNat) 0) + (m.add).getD ((z % m.mod).toNat) 0) / ((m.mod.toNat : Nat) : Int)))), (AV.lit (.int .i64 (((z * (m.mul).getD ((z % m.mod).toNat) 0) + (m.add).getD ((z % m.mod).toNat) 0) % ((m.mod.toNat : Nat) : Int))))]) Gd.none Wi_tC98 rfl (c_wQR (((z * (m.mul).getD ((z % m.mod).toNat) 0) + (m.add).getD ((z % m.mod).toNat) 0)) (m.mod.toNat) (by omega) (by omega) (by first | assumption | omega | (simp only [Int.natAbs_neg]; omega))) ?_
  refine o_move (AV.tup [(intW ((((z * (m.mul).getD ((z % m.mod).toNat) 0) + (m.add).getD ((z % m.mod).toNat) 0) / ((m.mod.toNat : Nat) : Int)))), (AV.lit (.int .i64 (((z * (m.mul).getD ((z % m.mod).toNat) 0) + (m.add).getD ((z % m.mod).toNat) 0) % ((m.mod.toNat : Nat) : Int))))]) Gd.none rfl ?_
  refine o_extract (intW ((((z * (m.mul).getD ((z % m.mod).toNat) 0) + (m.add).getD ((z % m.mod).toNat) 0) / ((m.mod.toNat : Nat) : Int)))) Gd.none rfl rfl ?_
  refine o_extract (AV.lit (.int .i64 (((z * (m.mul).getD ((z % m.mod).toNat) 0) + (m.add).getD ((z % m.mod).toNat) 0) % ((m.mod.toNat : Nat) : Int)))) Gd.none rfl rfl ?_
  refine o_alloc 6 [(AV.lit (.bool false)), (AV.lit (.slice none 0 0))] Gd.none Wi_tO89 rfl rfl rfl ?_
  refine o_store [(6, (AO.var 89 [(bp ((((z * (m.mul).getD ((z % m.mod).toNat) 0) + (m.add).getD ((z % m.mod).toNat) 0) / ((m.mod.toNat : Nat) : Int)) < 0)), (AV.sl 1 (ns .u32 (digs ((((z * (m.mul).getD ((z % m.mod).toNat) 0) + (m.add).getD ((z % m.mod).toNat) 0) / ((m.mod.toNat : Nat) : Int))).natAbs)))])), (5, (AO.var 89 [(bp ((z / ((m.mod.toNat : Nat) : Int)) < 0)), (AV.sl 1 (ns .u32 (digs ((z / ((m.mod.toNat : Nat) : Int))).natAbs)))])), (4, (AO.var 89 [(AV.lit (.bool false)), (AV.lit (.slice none 0 0))])), (3, (AO.var 89 [(bp (z < 0)), (AV.sl 1 (ns .u32 (digs (z).natAbs)))])), (2, (AO.var 24 [(AV.lit (.int .i64 (m.mod))), (AV.sl 1 (is .i64 (m.mul))), (AV.sl 1 (is .i64 (m.add)))]))] Gd.none Wi_tZ89 rfl rfl rfl rfl rfl rfl ?_
  refine o_assign (AV.lit (.int .i64 (((z * (m.mul).getD ((z % m.mod).toNat) 0) + (m.add).getD ((z % m.mod).toNat) 0) % ((m.mod.toNat : Nat) : Int)))) Gd.none rfl ?_
  refine aops_end ⟨by kernel_rfl, ?_⟩
  refine hK2 _ ?_
  refine awp_seq fun K3 hK3 => ?_
  refine awp_region rfl ?_
  refine o_loadA [(bp ((((z * (m.mul).getD ((z % m.mod).toNat) 0) + (m.add).getD ((z % m.mod).toNat) 0) / ((m.mod.toNat : Nat) : Int)) < 0)), (AV.sl 1 (ns .u32 (digs ((((z * (m.mul).getD ((z % m.mod).toNat) 0) + (m.add).getD ((z % m.mod).toNat) 0) / ((m.mod.toNat : Nat) : Int))).natAbs)))] Gd.none Wi_tA89 rfl rfl rfl rfl rfl ?_
  refine o_move (nm .i64 ((z % m.mod).toNat)) Gd.none rfl ?_
  refine o_store [(6, (AO.var 89 [(bp ((((z * (m.mul).getD ((z % m.mod).toNat) 0) + (m.add).getD ((z % m.mod).toNat) 0) / ((m.mod.toNat : Nat) : Int)) < 0)), (AV.sl 1 (ns .u32 (digs ((((z * (m.mul).getD ((z % m.mod).toNat) 0) + (m.add).getD ((z % m.mod).toNat) 0) / ((m.mod.toNat : Nat) : Int))).natAbs)))])), (5, (AO.var 89 [(bp ((z / ((m.mod.toNat : Nat) : Int)) < 0)), (AV.sl 1 (ns .u32 (digs ((z / ((m.mod.toNat : Nat) : Int))).natAbs)))])), (4, (AO.var 89 [(bp ((((z * (m.mul).getD ((z % m.mod).toNat) 0) + (m.add).getD ((z % m.mod).toNat) 0) / ((m.mod.toNat : Nat) : Int)) < 0)), (AV.sl 1 (ns .u32 (digs ((((z * (m.mul).getD ((z % m.mod).toNat) 0) + (m.add).getD ((z % m.mod).toNat) 0) / ((m.mod.toNat : Nat) : Int))).natAbs)))])), (3, (AO.var 89 [(bp (z < 0)), (AV.sl 1 (ns .u32 (digs (z).natAbs)))])), (2, (AO.var 24 [(AV.lit (.int .i64 (m.mod))), (AV.sl 1 (is .i64 (m.mul))), (AV.sl 1 (is .i64 (m.add)))]))] Gd.none Wi_tZ89 rfl rfl rfl rfl rfl rfl ?_
  refine o_assign (nm .i64 ((z % m.mod).toNat)) Gd.none rfl ?_
  refine aops_end ?_
  refine hK3 _ ?_
  refine awp_ret ?_
  refine post_ret ⟨[(AV.agg [(bp ((((z * (m.mul).getD ((z % m.mod).toNat) 0) + (m.add).getD ((z % m.mod).toNat) 0) / ((m.mod.toNat : Nat) : Int)) < 0)), (AV.sl 1 (ns .u32 (digs ((((z * (m.mul).getD ((z % m.mod).toNat) 0) + (m.add).getD ((z % m.mod).toNat) 0) / ((m.mod.toNat : Nat) : Int))).natAbs)))]), (nm .i64 ((z % m.mod).toNat))], And.intro ⟨4, (AO.var 89 [(bp ((((z * (m.mul).getD ((z % m.mod).toNat) 0) + (m.add).getD ((z % m.mod).toNat) 0) / ((m.mod.toNat : Nat) : Int)) < 0)), (AV.sl 1 (ns .u32 (digs ((((z * (m.mul).getD ((z % m.mod).toNat) 0) + (m.add).getD ((z % m.mod).toNat) 0) / ((m.mod.toNat : Nat) : Int))).natAbs)))]), rfl, rfl, rfl, Or.inl ⟨Wi_tA89, AV.le_refl _⟩⟩ (And.intro (AV.le_refl _) (trivial)), rfl, ?_⟩
  exact tup_eq2 (congrArg (intK .u32) (by unfold stepZ; rw [hmd, Int.mul_comm z])) (int_nm (by omega)).symm

theorem c_sLong (z : Int) (hz : (digs z.natAbs).length ≤ 1000000000) : ECalls cx 70 [(intW (z))] (bp (¬ Fit z)) := by
  refine ecalls_of_awp Tryd.func70 (c := _) rfl (Nat.le_of_ble_eq_true rfl) ?_
  show awp cx 6 _ (postF cx Tryd.f70 _) ⟨[(0, (intW (z)))], []⟩
  refine awp_seq fun K0 hK0 => ?_
  refine awp_region rfl ?_
  refine o_box 2 [(bp (z < 0)), (AV.sl 1 (ns .u32 (digs (z).natAbs)))] Gd.none rfl rfl ?_
  refine o_assign (AV.lit (.bool false)) Gd.none rfl ?_
  refine aops_end ?_
  refine hK0 _ ?_
  refine awp_seq fun K1 hK1 => ?_
  refine awp_region rfl ?_
  refine o_loadA [(bp (z < 0)), (AV.sl 1 (ns .u32 (digs (z).natAbs)))] Gd.none Wi_tA89 rfl rfl rfl rfl rfl ?_
  refine o_call [(AV.agg [(bp (z < 0)), (AV.sl 1 (ns .u32 (digs (z).natAbs)))])] (nm .i64 (ndig (z).natAbs)) Gd.none Wi_tC88 rfl (c_wDigits (z) (by first | assumption | omega | (simp only [Int.natAbs_neg]; omega))) ?_
  refine n_gtr (ndig (z).natAbs) (2000) Gd.none rfl rfl ?_
  refine o_assign (bp ((2000) < (ndig (z).natAbs))) Gd.none rfl ?_
  refine aops_end ?_
  refine hK1 _ ?_
  refine awp_ret ?_
  refine post_ret ⟨[(bp ((2000) < (ndig (z).natAbs)))], And.intro (AV.le_refl _) (trivial), rfl, ?_⟩
  exact bp_congr (by unfold Fit; omega)

end Go.Proofs.YtkngglpnejdicaaDoor
