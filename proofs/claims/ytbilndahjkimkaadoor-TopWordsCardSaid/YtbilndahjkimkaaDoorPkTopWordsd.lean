/- What the proof of a row of this seat leans on (part 4 of 6): a library of abstract values, walks of functions, and plain laws. -/
import Derived.Shelf.Spec.SlicesInsertGrow
import Derived.Test.YtbilndahjkimkaaDoorPkTopWordsc
set_option linter.unusedVariables false
set_option linter.unusedSimpArgs false
namespace Go.Proofs.YtbilndahjkimkaaDoor
open Go Go.Ab Go.Mth
theorem We_tT9 : cx.P.underlying 9 = some .string := by kernel_rfl
theorem We_tO36 : tyZero cx.P 36 = some [(Go.Value.bool false), (Go.Value.slice none 0 0)] := by kernel_rfl
theorem We_tI5 : tyInt cx.P 5 = some .u8 := by kernel_rfl
theorem We_tI3 : tyInt cx.P 3 = some .i64 := by kernel_rfl
theorem We_tE22 : tyElem cx.P 22 = some (3, 1, 8) := by kernel_rfl
theorem We_tO3 : tyZero cx.P 3 = some [(Go.Value.int IntKind.i64 0)] := by kernel_rfl
theorem We_tC54 : callable cx.P 54 = true := by kernel_rfl
theorem We_tZ36 : tySize cx.P 36 = some 2 := by kernel_rfl
theorem We_tA36 : tyAgg cx.P 36 = some 2 := by kernel_rfl
theorem c_rValid (a : ByteArray) (hsz : a.size ≤ 9223372036854775807) : ECalls cx 15 [(AV.lit (.string (a)))] (.lit (.bool (okS a))) := by
  refine ecalls_of_awp Tryd.func15 (c := _) rfl (Nat.le_of_ble_eq_true rfl) ?_
  show awp cx 51 _ (postF cx Tryd.f15 _) ⟨[(0, (AV.lit (.string (a))))], []⟩
  refine awp_seq fun K0 hK0 => ?_
  refine awp_region rfl ?_
  refine o_assign (AV.lit (.bool false)) Gd.none rfl ?_
  refine aops_end ?_
  refine hK0 _ ?_
  refine awp_seq fun K1 hK1 => ?_
  refine awp_region rfl ?_
  refine o_move (AV.lit (.string (a))) Gd.none rfl ?_
  refine n_lenS (a) Gd.none rfl We_tT9 ?_
  refine o_assign (nm .i64 ((a).size)) Gd.none rfl ?_
  refine aops_end ?_
  refine hK1 _ ?_
  refine awp_seq fun K2 hK2 => ?_
  refine awp_region rfl ?_
  refine o_assign (nm .i64 (0)) Gd.none rfl ?_
  refine aops_end ?_
  refine hK2 _ ?_
  refine awp_seqJ (J := fun σ => True ∧ σ = ⟨[(0, (AV.lit (.string (a)))), (3, (nm .i64 (a.size - sgnAt a))), (4, (nm .i64 (sgnAt a)))], []⟩) ?ja0 ?jb0
  case ja0 =>
    refine awp_seq fun K3 hK3 => ?_
    refine awp_region rfl ?_
    refine o_move (AV.lit (.string (a))) Gd.none rfl ?_
    refine o_neqS (a := (a)) (c := (({data := #[]} : ByteArray))) Gd.none rfl rfl ?_
    refine o_move (bp ((a).toList ≠ (({data := #[]} : ByteArray)).toList)) Gd.none rfl ?_
    refine o_splitP (q := (a).toList ≠ (({data := #[]} : ByteArray)).toList) 10 rfl (fun h1 => ?_) (fun h1 => ?_)
    · refine o_move (AV.lit (.string (a))) (Gd.yes rfl rfl (decide_eq_true h1)) rfl ?_
      refine n_indexS (a) (0) (Gd.yes rfl rfl (decide_eq_true h1)) We_tT9 rfl rfl (by have := mt str_nil.2 h1; omega) ?_
      refine n_eql (byt (a) (0)) (45) (Gd.yes rfl rfl (decide_eq_true h1)) rfl rfl ?_
      refine o_pickT (b := decide ((a).toList ≠ (({data := #[]} : ByteArray)).toList)) (bp ((byt (a) (0)) = (45))) Gd.none rfl (decide_eq_true h1) rfl ?_
      refine aops_end ?_
      refine hK3 _ ?_
      refine awp_condQ (q := (byt (a) (0)) = (45)) rfl (fun h2 => ?_) (fun h2 => ?_)
      · refine awp_seq fun K4 hK4 => ?_
        refine awp_region rfl ?_
        refine o_move (nm .i64 ((a).size)) Gd.none rfl ?_
        refine n_sub ((a).size) (1) Gd.none rfl rfl (by have := mt str_nil.2 h1; omega) (by simp only [topOf]; omega) ?_
        refine o_assign (nm .i64 (((a).size) - (1))) Gd.none rfl ?_
        refine aops_end ?_
        refine hK4 _ ?_
        refine awp_region rfl ?_
        refine o_assign (nm .i64 (1)) Gd.none rfl ?_
        refine aops_end ?_
        have hs : sgnAt a = 1 := if_pos h2
        have hne := mt str_nil.2 h1
        exact ⟨_, ⟨trivial, rfl⟩, Wk.sub (And.intro rfl (And.intro (by first | rfl | exact congrArg (nm _) (by omega) | exact nm_int (by omega) | exact nm_int (by simp [IntKind.wrap, IntKind.bits, IntKind.signed]; omega)) (And.intro (by first | rfl | exact congrArg (nm _) (by omega) | exact nm_int (by omega) | exact nm_int (by simp [IntKind.wrap, IntKind.bits, IntKind.signed]; omega)) (trivial)))) (trivial)⟩
      · refine awp_skip ?_
        have hs : sgnAt a = 0 := if_neg h2
        exact ⟨_, ⟨trivial, rfl⟩, Wk.sub (And.intro rfl (And.intro (by first | rfl | exact congrArg (nm _) (by omega) | exact nm_int (by omega) | exact nm_int (by simp [IntKind.wrap, IntKind.bits, IntKind.signed]; omega)) (And.intro (by first | rfl | exact congrArg (nm _) (by omega) | exact nm_int (by omega) | exact nm_int (by simp [IntKind.wrap, IntKind.bits, IntKind.signed]; omega)) (trivial)))) (trivial)⟩
    · refine o_skip (b := decide ((a).toList ≠ (({data := #[]} : ByteArray)).toList)) rfl rfl (decide_eq_false h1) ?_
      refine o_skip (b := decide ((a).toList ≠ (({data := #[]} : ByteArray)).toList)) rfl rfl (decide_eq_false h1) ?_
      refine o_skip (b := decide ((a).toList ≠ (({data := #[]} : ByteArray)).toList)) rfl rfl (decide_eq_false h1) ?_
      refine o_pickF (b := decide ((a).toList ≠ (({data := #[]} : ByteArray)).toList)) (AV.lit (.bool false)) Gd.none rfl (decide_eq_false h1) rfl ?_
      refine aops_end ?_
      refine hK3 _ ?_
      refine awp_condB (b := false) rfl (fun hh => absurd (hh.symm.trans rfl) (by decide)) (fun _ => ?_)
      refine awp_skip ?_
      have hs : sgnAt a = 0 := if_neg (by rw [byt_nil (str_nil.1 (Decidable.not_not.1 h1))]; decide)
      exact ⟨_, ⟨trivial, rfl⟩, Wk.sub (And.intro rfl (And.intro (by first | rfl | exact congrArg (nm _) (by omega) | exact nm_int (by omega) | exact nm_int (by simp [IntKind.wrap, IntKind.bits, IntKind.signed]; omega)) (And.intro (by first | rfl | exact congrArg (nm _) (by omega) | exact nm_int (by omega) | exact nm_int (by simp [IntKind.wrap, IntKind.bits, IntKind.signed]; omega)) (trivial)))) (trivial)⟩
  rintro _ ⟨-, rfl⟩
  have hs1 : sgnAt a ≤ 1 := by unfold sgnAt; split <;> omega
  refine awp_seq fun K5 hK5 => ?_
  refine awp_seq fun K6 hK6 => ?_
  refine awp_region rfl ?_
  refine o_move (nm .i64 (a.size - sgnAt a)) Gd.none rfl ?_
  refine n_lss (a.size - sgnAt a) (1) Gd.none rfl rfl ?_
  refine o_move (bp ((a.size - sgnAt a) < (1))) Gd.none rfl ?_
  refine o_splitP (q := (a.size - sgnAt a) < (1)) 19 rfl (fun h3 => ?_) (fun h3 => ?_)
  · refine o_skip (b := decide ((a.size - sgnAt a) < (1))) rfl rfl (decide_eq_true h3) ?_
    refine o_skip (b := decide ((a.size - sgnAt a) < (1))) rfl rfl (decide_eq_true h3) ?_
    refine o_pickT (b := decide ((a.size - sgnAt a) < (1))) (AV.lit (.bool true)) Gd.none rfl (decide_eq_true h3) rfl ?_
    refine o_move (AV.lit (.bool true)) Gd.none rfl ?_
    refine o_skip (b := true) rfl rfl rfl ?_
    refine o_skip (b := true) rfl rfl rfl ?_
    refine o_skip (b := true) rfl rfl rfl ?_
    refine o_skip (b := true) rfl rfl rfl ?_
    refine o_skip (b := true) rfl rfl rfl ?_
    refine o_skipU rfl rfl ?_
    refine o_skipU rfl rfl ?_
    refine o_skipU rfl rfl ?_
    refine o_skip (b := true) rfl rfl rfl ?_
    refine o_pickT (b := true) (AV.lit (.bool true)) Gd.none rfl rfl rfl ?_
    refine aops_end ?_
    refine hK6 _ ?_
    refine awp_condB (b := true) rfl (fun _ => ?_) (fun hh => absurd (hh.symm.trans rfl) (by decide))
    refine awp_seq fun K7 hK7 => ?_
    refine awp_region rfl ?_
    refine o_assign (AV.lit (.bool false)) Gd.none rfl ?_
    refine aops_end ?_
    refine hK7 _ ?_
    refine awp_ret ?_
    refine post_ret ⟨[(AV.lit (.bool false))], And.intro (AV.le_refl _) (trivial), rfl, ?_⟩
    refine bl_eq (okS_no fun h => ?_)
    obtain ⟨o1, o2, o3, o4⟩ := h
    first | omega | (have := o4 i (by omega) (by omega); omega)
  · refine o_move (nm .i64 (a.size - sgnAt a)) (Gd.yes rfl rfl (decide_eq_false h3)) rfl ?_
    refine n_gtr (a.size - sgnAt a) (2000) (Gd.yes rfl rfl (decide_eq_false h3)) rfl rfl ?_
    refine o_pickF (b := decide ((a.size - sgnAt a) < (1))) (bp ((2000) < (a.size - sgnAt a))) Gd.none rfl (decide_eq_false h3) rfl ?_
    refine o_move (bp ((2000) < (a.size - sgnAt a))) Gd.none rfl ?_
    refine o_splitP (q := (2000) < (a.size - sgnAt a)) 23 rfl (fun h4 => ?_) (fun h4 => ?_)
    · refine o_skip (b := decide ((2000) < (a.size - sgnAt a))) rfl rfl (decide_eq_true h4) ?_
      refine o_skip (b := decide ((2000) < (a.size - sgnAt a))) rfl rfl (decide_eq_true h4) ?_
      refine o_skip (b := decide ((2000) < (a.size - sgnAt a))) rfl rfl (decide_eq_true h4) ?_
      refine o_skip (b := decide ((2000) < (a.size - sgnAt a))) rfl rfl (decide_eq_true h4) ?_
      refine o_skip (b := decide ((2000) < (a.size - sgnAt a))) rfl rfl (decide_eq_true h4) ?_
      refine o_skipU rfl rfl ?_
      refine o_skipU rfl rfl ?_
      refine o_skipU rfl rfl ?_
      refine o_skip (b := decide ((2000) < (a.size - sgnAt a))) rfl rfl (decide_eq_true h4) ?_
      refine o_pickT (b := decide ((2000) < (a.size - sgnAt a))) (AV.lit (.bool true)) Gd.none rfl (decide_eq_true h4) rfl ?_
      refine aops_end ?_
      refine hK6 _ ?_
      refine awp_condB (b := true) rfl (fun _ => ?_) (fun hh => absurd (hh.symm.trans rfl) (by decide))
      refine awp_seq fun K8 hK8 => ?_
      refine awp_region rfl ?_
      refine o_assign (AV.lit (.bool false)) Gd.none rfl ?_
      refine aops_end ?_
      refine hK8 _ ?_
      refine awp_ret ?_
      refine post_ret ⟨[(AV.lit (.bool false))], And.intro (AV.le_refl _) (trivial), rfl, ?_⟩
      refine bl_eq (okS_no fun h => ?_)
      obtain ⟨o1, o2, o3, o4⟩ := h
      first | omega | (have := o4 i (by omega) (by omega); omega)
    · refine o_move (AV.lit (.string (a))) (Gd.yes rfl rfl (decide_eq_false h4)) rfl ?_
      refine o_move (nm .i64 (sgnAt a)) (Gd.yes rfl rfl (decide_eq_false h4)) rfl ?_
      refine n_indexS (a) (sgnAt a) (Gd.yes rfl rfl (decide_eq_false h4)) We_tT9 rfl rfl (by omega) ?_
      refine n_eql (byt (a) (sgnAt a)) (48) (Gd.yes rfl rfl (decide_eq_false h4)) rfl rfl ?_
      refine o_move (bp ((byt (a) (sgnAt a)) = (48))) (Gd.yes rfl rfl (decide_eq_false h4)) rfl ?_
      refine o_splitP (q := (byt (a) (sgnAt a)) = (48)) 28 rfl (fun h5 => ?_) (fun h5 => ?_)
      · refine o_move (AV.lit (.string (a))) (Gd.yes rfl rfl (decide_eq_true h5)) rfl ?_
        refine n_lenS (a) (Gd.yes rfl rfl (decide_eq_true h5)) rfl We_tT9 ?_
        refine n_gtr ((a).size) (1) (Gd.yes rfl rfl (decide_eq_true h5)) rfl rfl ?_
        refine o_pickT (b := decide ((byt (a) (sgnAt a)) = (48))) (bp ((1) < ((a).size))) (Gd.yes rfl rfl (decide_eq_false h4)) rfl (decide_eq_true h5) rfl ?_
        refine o_pickF (b := decide ((2000) < (a.size - sgnAt a))) (bp ((1) < ((a).size))) Gd.none rfl (decide_eq_false h4) rfl ?_
        refine aops_end ?_
        refine hK6 _ ?_
        refine awp_condQ (q := (1) < ((a).size)) rfl (fun h6 => ?_) (fun h6 => ?_)
        · refine awp_seq fun K9 hK9 => ?_
          refine awp_region rfl ?_
          refine o_assign (AV.lit (.bool false)) Gd.none rfl ?_
          refine aops_end ?_
          refine hK9 _ ?_
          refine awp_ret ?_
          refine post_ret ⟨[(AV.lit (.bool false))], And.intro (AV.le_refl _) (trivial), rfl, ?_⟩
          refine bl_eq (okS_no fun h => ?_)
          obtain ⟨o1, o2, o3, o4⟩ := h
          first | omega | (have := o4 i (by omega) (by omega); omega)
        · refine awp_skip ?_
          refine hK5 _ ?_
          refine awp_seq fun K10 hK10 => ?_
          refine awp_seq fun K11 hK11 => ?_
          refine awp_region rfl ?_
          refine o_move (nm .i64 (sgnAt a)) Gd.none rfl ?_
          refine o_assign (nm .i64 (sgnAt a)) Gd.none rfl ?_
          refine aops_end ?_
          refine hK11 _ ?_
          refine awp_block ?_
          refine awp_loopR (fun κ σ => ∃ (i : Nat), (sgnAt a ≤ i) ∧ (i ≤ a.size) ∧ (∀ k, sgnAt a ≤ k → k < i → 48 ≤ byt a k ∧ byt a k ≤ 57) ∧ (a.size - i) = κ ∧ σ = ⟨[(0, (AV.lit (.string (a)))), (5, (nm .i64 (i)))], []⟩) ⟨_, _, ⟨sgnAt a, (by omega), (by omega), (fun k h1 h2 => by omega), rfl, rfl⟩, ?wk1⟩ ?rd1
          case wk1 =>
            exact Wk.sub (And.intro rfl (And.intro (by first | rfl | exact congrArg (nm _) (by omega) | exact nm_int (by omega) | exact nm_int (by simp [IntKind.wrap, IntKind.bits, IntKind.signed]; omega)) (trivial))) (trivial)
          rintro κ _ ⟨i, hi, hi2, hv, rfl, rfl⟩
          refine awp_seq fun K12 hK12 => ?_
          refine awp_seq fun K13 hK13 => ?_
          refine awp_region rfl ?_
          refine o_move (nm .i64 (i)) Gd.none rfl ?_
          refine o_move (AV.lit (.string (a))) Gd.none rfl ?_
          refine n_lenS (a) Gd.none rfl We_tT9 ?_
          refine n_lss (i) ((a).size) Gd.none rfl rfl ?_
          refine aops_end ?_
          refine hK13 _ ?_
          refine awp_condQ (q := (i) < ((a).size)) rfl (fun h7 => ?_) (fun h7 => ?_)
          · refine awp_skip ?_
            refine hK12 _ ?_
            refine awp_seq fun K14 hK14 => ?_
            refine awp_block ?_
            refine awp_seq fun K15 hK15 => ?_
            refine awp_region rfl ?_
            refine o_move (AV.lit (.string (a))) Gd.none rfl ?_
            refine o_move (nm .i64 (i)) Gd.none rfl ?_
            refine n_indexS (a) (i) Gd.none We_tT9 rfl rfl (by omega) ?_
            refine n_lss (byt (a) (i)) (48) Gd.none rfl rfl ?_
            refine o_move (bp ((byt (a) (i)) < (48))) Gd.none rfl ?_
            refine o_splitP (q := (byt (a) (i)) < (48)) 45 rfl (fun h8 => ?_) (fun h8 => ?_)
            · refine o_skip (b := decide ((byt (a) (i)) < (48))) rfl rfl (decide_eq_true h8) ?_
              refine o_skip (b := decide ((byt (a) (i)) < (48))) rfl rfl (decide_eq_true h8) ?_
              refine o_skip (b := decide ((byt (a) (i)) < (48))) rfl rfl (decide_eq_true h8) ?_
              refine o_skip (b := decide ((byt (a) (i)) < (48))) rfl rfl (decide_eq_true h8) ?_
              refine o_pickT (b := decide ((byt (a) (i)) < (48))) (AV.lit (.bool true)) Gd.none rfl (decide_eq_true h8) rfl ?_
              refine aops_end ?_
              refine hK15 _ ?_
              refine awp_condB (b := true) rfl (fun _ => ?_) (fun hh => absurd (hh.symm.trans rfl) (by decide))
              refine awp_seq fun K16 hK16 => ?_
              refine awp_region rfl ?_
              refine o_assign (AV.lit (.bool false)) Gd.none rfl ?_
              refine aops_end ?_
              refine hK16 _ ?_
              refine awp_ret ?_
              refine post_ret ⟨[(AV.lit (.bool false))], And.intro (AV.le_refl _) (trivial), rfl, ?_⟩
              refine bl_eq (okS_no fun h => ?_)
              obtain ⟨o1, o2, o3, o4⟩ := h
              first | omega | (have := o4 i (by omega) (by omega); omega)
            · refine o_move (AV.lit (.string (a))) (Gd.yes rfl rfl (decide_eq_false h8)) rfl ?_
              refine o_move (nm .i64 (i)) (Gd.yes rfl rfl (decide_eq_false h8)) rfl ?_
              refine n_indexS (a) (i) (Gd.yes rfl rfl (decide_eq_false h8)) We_tT9 rfl rfl (by omega) ?_
              refine n_gtr (byt (a) (i)) (57) (Gd.yes rfl rfl (decide_eq_false h8)) rfl rfl ?_
              refine o_pickF (b := decide ((byt (a) (i)) < (48))) (bp ((57) < (byt (a) (i)))) Gd.none rfl (decide_eq_false h8) rfl ?_
              refine aops_end ?_
              refine hK15 _ ?_
              refine awp_condQ (q := (57) < (byt (a) (i))) rfl (fun h9 => ?_) (fun h9 => ?_)
              · refine awp_seq fun K17 hK17 => ?_
                refine awp_region rfl ?_
                refine o_assign (AV.lit (.bool false)) Gd.none rfl ?_
                refine aops_end ?_
                refine hK17 _ ?_
                refine awp_ret ?_
                refine post_ret ⟨[(AV.lit (.bool false))], And.intro (AV.le_refl _) (trivial), rfl, ?_⟩
                refine bl_eq (okS_no fun h => ?_)
                obtain ⟨o1, o2, o3, o4⟩ := h
                first | omega | (have := o4 i (by omega) (by omega); omega)
              · refine awp_skip ?_
                refine hK14 _ ?_
                refine awp_region rfl ?_
                refine o_move (nm .i64 (i)) Gd.none rfl ?_
                refine n_add (i) (1) Gd.none rfl rfl (by simp only [topOf]; omega) ?_
                refine o_assign (nm .i64 ((i) + (1))) Gd.none rfl ?_
                refine aops_end ?_
                refine ⟨_, _, ?lt, ⟨i + 1, (by omega), (by omega), (fun k hk1 hk2 => by by_cases e : k = i; subst e; omega; exact hv k hk1 (by omega)), rfl, rfl⟩, ?wk⟩
                case lt => omega
                case wk => exact Wk.sub (And.intro rfl (And.intro (by first | rfl | exact congrArg (nm _) (by omega) | exact nm_int (by omega) | exact nm_int (by simp [IntKind.wrap, IntKind.bits, IntKind.signed]; omega)) (trivial))) (trivial)
          · refine awp_exit ?_
            refine hK10 _ ?_
            refine awp_seq fun K18 hK18 => ?_
            refine awp_region rfl ?_
            refine o_assign (AV.lit (.bool true)) Gd.none rfl ?_
            refine aops_end ?_
            refine hK18 _ ?_
            refine awp_ret ?_
            refine post_ret ⟨[(AV.lit (.bool true))], And.intro (AV.le_refl _) (trivial), rfl, ?_⟩
            refine bl_eq (okS_yes ⟨by omega, by omega, by omega, fun k hk1 hk2 => hv k hk1 (by omega)⟩)
      · refine o_skip (b := decide ((byt (a) (sgnAt a)) = (48))) rfl rfl (decide_eq_false h5) ?_
        refine o_skip (b := decide ((byt (a) (sgnAt a)) = (48))) rfl rfl (decide_eq_false h5) ?_
        refine o_skip (b := decide ((byt (a) (sgnAt a)) = (48))) rfl rfl (decide_eq_false h5) ?_
        refine o_pickF (b := decide ((byt (a) (sgnAt a)) = (48))) (AV.lit (.bool false)) (Gd.yes rfl rfl (decide_eq_false h4)) rfl (decide_eq_false h5) rfl ?_
        refine o_pickF (b := decide ((2000) < (a.size - sgnAt a))) (AV.lit (.bool false)) Gd.none rfl (decide_eq_false h4) rfl ?_
        refine aops_end ?_
        refine hK6 _ ?_
        refine awp_condB (b := false) rfl (fun hh => absurd (hh.symm.trans rfl) (by decide)) (fun _ => ?_)
        refine awp_skip ?_
        refine hK5 _ ?_
        refine awp_seq fun K19 hK19 => ?_
        refine awp_seq fun K20 hK20 => ?_
        refine awp_region rfl ?_
        refine o_move (nm .i64 (sgnAt a)) Gd.none rfl ?_
        refine o_assign (nm .i64 (sgnAt a)) Gd.none rfl ?_
        refine aops_end ?_
        refine hK20 _ ?_
        refine awp_block ?_
        refine awp_loopR (fun κ σ => ∃ (i : Nat), (sgnAt a ≤ i) ∧ (i ≤ a.size) ∧ (∀ k, sgnAt a ≤ k → k < i → 48 ≤ byt a k ∧ byt a k ≤ 57) ∧ (a.size - i) = κ ∧ σ = ⟨[(0, (AV.lit (.string (a)))), (5, (nm .i64 (i)))], []⟩) ⟨_, _, ⟨sgnAt a, (by omega), (by omega), (fun k h1 h2 => by omega), rfl, rfl⟩, ?wk2⟩ ?rd2
        case wk2 =>
          exact Wk.sub (And.intro rfl (And.intro (by first | rfl | exact congrArg (nm _) (by omega) | exact nm_int (by omega) | exact nm_int (by simp [IntKind.wrap, IntKind.bits, IntKind.signed]; omega)) (trivial))) (trivial)
        rintro κ _ ⟨i, hi, hi2, hv, rfl, rfl⟩
        refine awp_seq fun K21 hK21 => ?_
        refine awp_seq fun K22 hK22 => ?_
        refine awp_region rfl ?_
        refine o_move (nm .i64 (i)) Gd.none rfl ?_
        refine o_move (AV.lit (.string (a))) Gd.none rfl ?_
        refine n_lenS (a) Gd.none rfl We_tT9 ?_
        refine n_lss (i) ((a).size) Gd.none rfl rfl ?_
        refine aops_end ?_
        refine hK22 _ ?_
        refine awp_condQ (q := (i) < ((a).size)) rfl (fun h10 => ?_) (fun h10 => ?_)
        · refine awp_skip ?_
          refine hK21 _ ?_
          refine awp_seq fun K23 hK23 => ?_
          refine awp_block ?_
          refine awp_seq fun K24 hK24 => ?_
          refine awp_region rfl ?_
          refine o_move (AV.lit (.string (a))) Gd.none rfl ?_
          refine o_move (nm .i64 (i)) Gd.none rfl ?_
          refine n_indexS (a) (i) Gd.none We_tT9 rfl rfl (by omega) ?_
          refine n_lss (byt (a) (i)) (48) Gd.none rfl rfl ?_
          refine o_move (bp ((byt (a) (i)) < (48))) Gd.none rfl ?_
          refine o_splitP (q := (byt (a) (i)) < (48)) 45 rfl (fun h11 => ?_) (fun h11 => ?_)
          · refine o_skip (b := decide ((byt (a) (i)) < (48))) rfl rfl (decide_eq_true h11) ?_
            refine o_skip (b := decide ((byt (a) (i)) < (48))) rfl rfl (decide_eq_true h11) ?_
            refine o_skip (b := decide ((byt (a) (i)) < (48))) rfl rfl (decide_eq_true h11) ?_
            refine o_skip (b := decide ((byt (a) (i)) < (48))) rfl rfl (decide_eq_true h11) ?_
            refine o_pickT (b := decide ((byt (a) (i)) < (48))) (AV.lit (.bool true)) Gd.none rfl (decide_eq_true h11) rfl ?_
            refine aops_end ?_
            refine hK24 _ ?_
            refine awp_condB (b := true) rfl (fun _ => ?_) (fun hh => absurd (hh.symm.trans rfl) (by decide))
            refine awp_seq fun K25 hK25 => ?_
            refine awp_region rfl ?_
            refine o_assign (AV.lit (.bool false)) Gd.none rfl ?_
            refine aops_end ?_
            refine hK25 _ ?_
            refine awp_ret ?_
            refine post_ret ⟨[(AV.lit (.bool false))], And.intro (AV.le_refl _) (trivial), rfl, ?_⟩
            refine bl_eq (okS_no fun h => ?_)
            obtain ⟨o1, o2, o3, o4⟩ := h
            first | omega | (have := o4 i (by omega) (by omega); omega)
          · refine o_move (AV.lit (.string (a))) (Gd.yes rfl rfl (decide_eq_false h11)) rfl ?_
            refine o_move (nm .i64 (i)) (Gd.yes rfl rfl (decide_eq_false h11)) rfl ?_
            refine n_indexS (a) (i) (Gd.yes rfl rfl (decide_eq_false h11)) We_tT9 rfl rfl (by omega) ?_
            refine n_gtr (byt (a) (i)) (57) (Gd.yes rfl rfl (decide_eq_false h11)) rfl rfl ?_
            refine o_pickF (b := decide ((byt (a) (i)) < (48))) (bp ((57) < (byt (a) (i)))) Gd.none rfl (decide_eq_false h11) rfl ?_
            refine aops_end ?_
            refine hK24 _ ?_
            refine awp_condQ (q := (57) < (byt (a) (i))) rfl (fun h12 => ?_) (fun h12 => ?_)
            · refine awp_seq fun K26 hK26 => ?_
              refine awp_region rfl ?_
              refine o_assign (AV.lit (.bool false)) Gd.none rfl ?_
              refine aops_end ?_
              refine hK26 _ ?_
              refine awp_ret ?_
              refine post_ret ⟨[(AV.lit (.bool false))], And.intro (AV.le_refl _) (trivial), rfl, ?_⟩
              refine bl_eq (okS_no fun h => ?_)
              obtain ⟨o1, o2, o3, o4⟩ := h
              first | omega | (have := o4 i (by omega) (by omega); omega)
            · refine awp_skip ?_
              refine hK23 _ ?_
              refine awp_region rfl ?_
              refine o_move (nm .i64 (i)) Gd.none rfl ?_
              refine n_add (i) (1) Gd.none rfl rfl (by simp only [topOf]; omega) ?_
              refine o_assign (nm .i64 ((i) + (1))) Gd.none rfl ?_
              refine aops_end ?_
              refine ⟨_, _, ?lt, ⟨i + 1, (by omega), (by omega), (fun k hk1 hk2 => by by_cases e : k = i; subst e; omega; exact hv k hk1 (by omega)), rfl, rfl⟩, ?wk⟩
              case lt => omega
              case wk => exact Wk.sub (And.intro rfl (And.intro (by first | rfl | exact congrArg (nm _) (by omega) | exact nm_int (by omega) | exact nm_int (by simp [IntKind.wrap, IntKind.bits, IntKind.signed]; omega)) (trivial))) (trivial)
        · refine awp_exit ?_
          refine hK19 _ ?_
          refine awp_seq fun K27 hK27 => ?_
          refine awp_region rfl ?_
          refine o_assign (AV.lit (.bool true)) Gd.none rfl ?_
          refine aops_end ?_
          refine hK27 _ ?_
          refine awp_ret ?_
          refine post_ret ⟨[(AV.lit (.bool true))], And.intro (AV.le_refl _) (trivial), rfl, ?_⟩
          refine bl_eq (okS_yes ⟨by omega, by omega, by omega, fun k hk1 hk2 => hv k hk1 (by omega)⟩)

theorem c_rParse (a : ByteArray) (hok : OkS a) : ECalls cx 18 [(AV.lit (.string (a)))] (intR (numS a)) := by
  refine ecalls_of_awp Tryd.func18 (c := _) rfl (Nat.le_of_ble_eq_true rfl) ?_
  show awp cx 44 _ (postF cx Tryd.f18 _) ⟨[(0, (AV.lit (.string (a))))], []⟩
  obtain ⟨o1, o2, o3, o4⟩ := hok
  have hs1 : sgnAt a ≤ 1 := by unfold sgnAt; split <;> omega
  refine awp_seq fun K0 hK0 => ?_
  refine awp_region rfl ?_
  refine o_alloc 2 [(AV.lit (.bool false)), (AV.lit (.slice none 0 0))] Gd.none We_tO36 rfl rfl rfl ?_
  refine aops_end ?_
  refine hK0 _ ?_
  refine awp_seq fun K1 hK1 => ?_
  refine awp_region rfl ?_
  refine o_move (AV.lit (.string (a))) Gd.none rfl ?_
  refine n_indexS (a) (0) Gd.none We_tT9 rfl rfl (by omega) ?_
  refine n_eql (byt (a) (0)) (45) Gd.none rfl rfl ?_
  refine o_assign (bp ((byt (a) (0)) = (45))) Gd.none rfl ?_
  refine aops_end ?_
  refine hK1 _ ?_
  refine awp_seq fun K2 hK2 => ?_
  refine awp_region rfl ?_
  refine o_assign (nm .i64 (0)) Gd.none rfl ?_
  refine aops_end ?_
  refine hK2 _ ?_
  refine awp_seqJ (J := fun σ => True ∧ σ = ⟨[(0, (AV.lit (.string (a)))), (2, (AV.ref 2 (0))), (3, (bp (byt a 0 = 45))), (4, (nm .i64 (sgnAt a)))], [(2, (AO.var 36 [(AV.lit (.bool false)), (AV.lit (.slice none 0 0))]))]⟩) ?ja0 ?jb0
  case ja0 =>
    refine awp_seq fun K3 hK3 => ?_
    refine awp_region rfl ?_
    refine o_move (bp ((byt (a) (0)) = (45))) Gd.none rfl ?_
    refine aops_end ?_
    refine hK3 _ ?_
    refine awp_condQ (q := (byt (a) (0)) = (45)) rfl (fun h1 => ?_) (fun h1 => ?_)
    · refine awp_region rfl ?_
      refine o_assign (nm .i64 (1)) Gd.none rfl ?_
      refine aops_end ?_
      have hs : sgnAt a = 1 := if_pos h1
      exact ⟨_, ⟨trivial, rfl⟩, Wk.sub (And.intro rfl (And.intro rfl (And.intro (by first | rfl | exact bp_congr (by first | omega | simp) | exact bl_bp (by first | omega | simp)) (And.intro (by first | rfl | exact congrArg (nm _) (by omega) | exact nm_int (by omega) | exact nm_int (by simp [IntKind.wrap, IntKind.bits, IntKind.signed]; omega)) (trivial))))) (And.intro rfl (trivial))⟩
    · refine awp_skip ?_
      have hs : sgnAt a = 0 := if_neg h1
      exact ⟨_, ⟨trivial, rfl⟩, Wk.sub (And.intro rfl (And.intro rfl (And.intro (by first | rfl | exact bp_congr (by first | omega | simp) | exact bl_bp (by first | omega | simp)) (And.intro (by first | rfl | exact congrArg (nm _) (by omega) | exact nm_int (by omega) | exact nm_int (by simp [IntKind.wrap, IntKind.bits, IntKind.signed]; omega)) (trivial))))) (And.intro rfl (trivial))⟩
  rintro _ ⟨-, rfl⟩
  refine awp_seq fun K4 hK4 => ?_
  refine awp_region rfl ?_
  refine o_assign (AV.lit (.slice none 0 0)) Gd.none rfl ?_
  refine aops_end ?_
  refine hK4 _ ?_
  refine awp_seq fun K5 hK5 => ?_
  refine awp_seq fun K6 hK6 => ?_
  refine awp_region rfl ?_
  refine o_move (AV.lit (.string (a))) Gd.none rfl ?_
  refine n_lenS (a) Gd.none rfl We_tT9 ?_
  refine o_assign (nm .i64 ((a).size)) Gd.none rfl ?_
  refine aops_end ?_
  refine hK6 _ ?_
  refine awp_block ?_
  refine awp_loopR (fun κ σ => ∃ (E : Int), ∃ (L : List Nat), (E ≤ a.size) ∧ (Dig L) ∧ ((sgnAt a : Int) < E → L.length * 9 = a.size - E.toNat) ∧ (L.length ≤ 2000) ∧ (val L = dvk a (max (sgnAt a) E.toNat) (a.size - max (sgnAt a) E.toNat)) ∧ (E.toNat) = κ ∧ σ = ⟨[(0, (AV.lit (.string (a)))), (2, (AV.ref 2 (0))), (3, (bp (byt a 0 = 45))), (4, (nm .i64 (sgnAt a))), (5, (AV.row 3)), (6, (AV.lit (.int .i64 (E))))], [(2, (AO.var 36 [(AV.lit (.bool false)), (AV.lit (.slice none 0 0))])), (3, (AO.row 3 1 (ns .i64 (L))))]⟩) ⟨_, _, ⟨(a.size : Int), [], (by omega), Dig.nil, (by intro _; simp), (by simp), (by rw [show max (sgnAt a) (a.size : Int).toNat = a.size by omega]; simp [val, dvk]), rfl, rfl⟩, ?wk1⟩ ?rd1
  case wk1 =>
    exact Wk.trans (Wk.newNil (i := 5) (id := 601) (e := 3) (sz := 1) rfl rfl (by decide)) (Wk.trans (Wk.sub (σ' := ⟨[(0, (AV.lit (.string (a)))), (2, (AV.ref 2 (0))), (3, (bp (byt a 0 = 45))), (4, (nm .i64 (sgnAt a))), (5, (AV.row 601)), (6, (nm .i64 ((a).size)))], [(2, (AO.var 36 [(AV.lit (.bool false)), (AV.lit (.slice none 0 0))])), (601, (AO.row 3 1 (ns .i64 ([]))))]⟩) (And.intro rfl (And.intro rfl (And.intro rfl (And.intro rfl (And.intro rfl (And.intro rfl (trivial))))))) (And.intro rfl (And.intro rfl (trivial)))) (Wk.trans (Wk.ren (id := 601) (id' := 3) rfl) (Wk.sub (And.intro rfl (And.intro rfl (And.intro rfl (And.intro rfl (And.intro (by first | rfl | (simp)) (And.intro (by first | rfl | exact int_eq (by omega) | exact int_nm (by omega)) (trivial))))))) (And.intro rfl (And.intro (by first | rfl | exact row_ns (by simp)) (trivial))))))
  rintro κ _ ⟨E, L, hE, hd, hl, hl2, hv, rfl, rfl⟩
  refine awp_seq fun K7 hK7 => ?_
  refine awp_seq fun K8 hK8 => ?_
  refine awp_region rfl ?_
  refine o_move (AV.lit (.int .i64 (E))) Gd.none rfl ?_
  refine o_move (nm .i64 (sgnAt a)) Gd.none rfl ?_
  refine o_gtr (a := (E)) (c := (((sgnAt a : Nat) : Int))) Gd.none rfl rfl ?_
  refine aops_end ?_
  refine hK8 _ ?_
  refine awp_condQ (q := (((sgnAt a : Nat) : Int)) < (E)) rfl (fun h2 => ?_) (fun h2 => ?_)
  · refine awp_wk (Wk.slot (i := 6) (y := (nm .i64 (E.toNat))) (AV.le_eq (by exact nm_int (by omega)))) ?_
    refine awp_skip ?_
    refine hK7 _ ?_
    refine awp_seq fun K9 hK9 => ?_
    refine awp_block ?_
    refine awp_seq fun K10 hK10 => ?_
    refine awp_region rfl ?_
    refine o_assign (nm .i64 (0)) Gd.none rfl ?_
    refine aops_end ?_
    refine hK10 _ ?_
    refine awp_seq fun K11 hK11 => ?_
    refine awp_seq fun K12 hK12 => ?_
    refine awp_region rfl ?_
    refine o_move (nm .i64 (sgnAt a)) Gd.none rfl ?_
    refine o_move (nm .i64 (E.toNat)) Gd.none rfl ?_
    refine o_sub (a := (((E.toNat : Nat) : Int))) (c := (((9 : Nat) : Int))) Gd.none rfl rfl (by exact wrap64 (by omega) (by omega)) ?_
    refine o_max (a := ((sgnAt a : Nat) : Int)) (c := (((E.toNat : Nat) : Int)) - (((9 : Nat) : Int))) Gd.none rfl rfl (fun w => run_max _ _ w) ?_
    refine n_as (v' := (nm .i64 (max (sgnAt a) (E.toNat - 9)))) (nm_int (by omega)) ?_
    refine o_assign (nm .i64 (max (sgnAt a) (E.toNat - 9))) Gd.none rfl ?_
    refine aops_end ?_
    refine hK12 _ ?_
    refine awp_block ?_
    refine awp_loopR (fun κ σ => ∃ (i : Nat), ∃ (q : Nat), (max (sgnAt a) (E.toNat - 9) ≤ i) ∧ (i ≤ E.toNat) ∧ (q = dvk a (max (sgnAt a) (E.toNat - 9)) (i - (max (sgnAt a) (E.toNat - 9)))) ∧ (E.toNat - i) = κ ∧ σ = ⟨[(0, (AV.lit (.string (a)))), (2, (AV.ref 2 (0))), (3, (bp (byt a 0 = 45))), (4, (nm .i64 (sgnAt a))), (5, (AV.row 3)), (6, (nm .i64 (E.toNat))), (7, (nm .i64 (q))), (8, (nm .i64 (i)))], [(2, (AO.var 36 [(AV.lit (.bool false)), (AV.lit (.slice none 0 0))])), (3, (AO.row 3 1 (ns .i64 (L))))]⟩) ⟨_, _, ⟨max (sgnAt a) (E.toNat - 9), 0, (by omega), (by omega), (by simp [dvk]), rfl, rfl⟩, ?wk2⟩ ?rd2
    case wk2 =>
      exact Wk.sub (And.intro rfl (And.intro rfl (And.intro rfl (And.intro rfl (And.intro rfl (And.intro rfl (And.intro (by first | rfl | exact congrArg (nm _) (by omega) | exact nm_int (by omega) | exact nm_int (by simp [IntKind.wrap, IntKind.bits, IntKind.signed]; omega)) (And.intro (by first | rfl | exact congrArg (nm _) (by omega) | exact nm_int (by omega) | exact nm_int (by simp [IntKind.wrap, IntKind.bits, IntKind.signed]; omega)) (trivial))))))))) (And.intro rfl (And.intro rfl (trivial)))
    rintro κ _ ⟨i, q, hi, hi2, hq0, rfl, rfl⟩
    have hdl := dvk_lt (a := a) (s := max (sgnAt a) (E.toNat - 9)) (k := i - (max (sgnAt a) (E.toNat - 9))) fun j h1 h2 => o4 j (by omega) (by omega)
    rw [← hq0] at hdl
    have hq2 : q < 1000000000 := Nat.lt_of_lt_of_le hdl (by have := Nat.pow_le_pow_right (n := 10) (by decide) (show i - (max (sgnAt a) (E.toNat - 9)) ≤ 9 by omega); simpa using this)
    have hb := fun h => o4 i (by omega) h
    refine awp_seq fun K13 hK13 => ?_
    refine awp_seq fun K14 hK14 => ?_
    refine awp_region rfl ?_
    refine o_move (nm .i64 (i)) Gd.none rfl ?_
    refine o_move (nm .i64 (E.toNat)) Gd.none rfl ?_
    refine n_lss (i) (E.toNat) Gd.none rfl rfl ?_
    refine aops_end ?_
    refine hK14 _ ?_
    refine awp_condQ (q := (i) < (E.toNat)) rfl (fun h3 => ?_) (fun h3 => ?_)
    · refine awp_skip ?_
      refine hK13 _ ?_
      refine awp_seq fun K15 hK15 => ?_
      refine awp_block ?_
      refine awp_region rfl ?_
      refine o_move (nm .i64 (q)) Gd.none rfl ?_
      refine n_mul (10) (q) Gd.none rfl rfl (by simp only [topOf]; omega) ?_
      refine o_move (AV.lit (.string (a))) Gd.none rfl ?_
      refine o_move (nm .i64 (i)) Gd.none rfl ?_
      refine n_indexS (a) (i) Gd.none We_tT9 rfl rfl (by omega) ?_
      refine n_sub (byt (a) (i)) (48) Gd.none rfl rfl (by have := hb (by omega); omega) (by have := byt_lt a i; simp only [topOf]; omega) ?_
      refine n_conv ((byt (a) (i)) - (48)) Gd.none rfl We_tI5 We_tI3 (by have := byt_lt a i; simp only [topOf]; omega) ?_
      refine n_add ((10) * (q)) ((byt (a) (i)) - (48)) Gd.none rfl rfl (by have := byt_lt a i; simp only [topOf]; omega) ?_
      refine o_assign (nm .i64 (((10) * (q)) + ((byt (a) (i)) - (48)))) Gd.none rfl ?_
      refine aops_end ?_
      refine hK15 _ ?_
      refine awp_region rfl ?_
      refine o_move (nm .i64 (i)) Gd.none rfl ?_
      refine n_add (i) (1) Gd.none rfl rfl (by simp only [topOf]; omega) ?_
      refine o_assign (nm .i64 ((i) + (1))) Gd.none rfl ?_
      refine aops_end ?_
      refine ⟨_, _, ?lt, ⟨i + 1, ((10) * (q)) + ((byt (a) (i)) - (48)), (by omega), (by omega), (by rw [show i + 1 - (max (sgnAt a) (E.toNat - 9)) = (i - (max (sgnAt a) (E.toNat - 9))) + 1 by omega, dvk, ← hq0, show max (sgnAt a) (E.toNat - 9) + (i - (max (sgnAt a) (E.toNat - 9))) = i by omega]), rfl, rfl⟩, ?wk⟩
      case lt => omega
      case wk => exact Wk.sub (And.intro rfl (And.intro rfl (And.intro rfl (And.intro rfl (And.intro rfl (And.intro rfl (And.intro (by first | rfl | exact congrArg (nm _) (by omega) | exact nm_int (by omega) | exact nm_int (by simp [IntKind.wrap, IntKind.bits, IntKind.signed]; omega)) (And.intro (by first | rfl | exact congrArg (nm _) (by omega) | exact nm_int (by omega) | exact nm_int (by simp [IntKind.wrap, IntKind.bits, IntKind.signed]; omega)) (trivial))))))))) (And.intro rfl (And.intro rfl (trivial)))
    · have hq : q = dvk a (max (sgnAt a) (E.toNat - 9)) (E.toNat - (max (sgnAt a) (E.toNat - 9))) := by rw [hq0, show i = E.toNat by omega]
      refine awp_exit ?_
      refine hK11 _ ?_
      refine awp_region rfl ?_
      refine o_move (AV.row 3) Gd.none rfl ?_
      refine o_move (nm .i64 (q)) Gd.none rfl ?_
      refine o_buildSlice 301 (ns .i64 ([q])) [(0, [(nm .i64 (q))])] Gd.none We_tE22 rfl We_tO3 rfl rfl rfl rfl rfl rfl rfl ?_
      refine n_append 302 (L) ([q]) [(301, (AO.row 3 1 (ns .i64 ([q])))), (2, (AO.var 36 [(AV.lit (.bool false)), (AV.lit (.slice none 0 0))]))] Gd.none We_tE22 We_tO3 rfl rfl rfl rfl rfl (by simp only [List.length_append, List.length_cons, List.length_nil]; omega) (by decide) rfl rfl ?_
      refine o_assign (AV.row 302) Gd.none rfl ?_
      refine aops_end ?_
      refine hK9 _ ?_
      refine awp_region rfl ?_
      refine o_move (nm .i64 (E.toNat)) Gd.none rfl ?_
      refine o_sub (a := (((E.toNat : Nat) : Int))) (c := (((9 : Nat) : Int))) Gd.none rfl rfl (by exact wrap64 (by omega) (by omega)) ?_
      refine o_assign (AV.lit (.int .i64 ((((E.toNat : Nat) : Int)) - (((9 : Nat) : Int))))) Gd.none rfl ?_
      refine aops_end ?_
      refine ⟨_, _, ?lt, ⟨(E.toNat : Int) - 9, (L) ++ ([q]), (by omega), (hd.snoc hq2), (by intro h; have := hl (by omega); simp only [List.length_append, List.length_cons, List.length_nil]; omega), (by have := hl (by omega); simp only [List.length_append, List.length_cons, List.length_nil]; omega), (by rw [hq]; rw [show max (sgnAt a) E.toNat = E.toNat by omega] at hv; have hh := parse_step (s := max (sgnAt a) (E.toNat - 9)) (by omega) (by omega) (hl (by omega)) hv; rw [show max (sgnAt a) ((E.toNat : Int) - 9).toNat = max (sgnAt a) (E.toNat - 9) by omega]; exact hh), rfl, rfl⟩, ?wk⟩
      case lt => omega
      case wk => exact Wk.trans (Wk.sub (σ' := ⟨[(0, (AV.lit (.string (a)))), (2, (AV.ref 2 (0))), (3, (bp (byt a 0 = 45))), (4, (nm .i64 (sgnAt a))), (5, (AV.row 302)), (6, (AV.lit (.int .i64 ((((E.toNat : Nat) : Int)) - (((9 : Nat) : Int))))))], [(2, (AO.var 36 [(AV.lit (.bool false)), (AV.lit (.slice none 0 0))])), (302, (AO.row 3 1 (ns .i64 ((L) ++ ([q])))))]⟩) (And.intro rfl (And.intro rfl (And.intro rfl (And.intro rfl (And.intro rfl (And.intro rfl (trivial))))))) (And.intro rfl (And.intro rfl (trivial)))) (Wk.trans (Wk.ren (id := 302) (id' := 3) rfl) (Wk.sub (And.intro rfl (And.intro rfl (And.intro rfl (And.intro rfl (And.intro (by first | rfl | (simp)) (And.intro (by first | rfl | exact int_eq (by omega) | exact int_nm (by omega)) (trivial))))))) (And.intro rfl (And.intro (by first | rfl | exact row_ns (by simp)) (trivial)))))
  · refine awp_exit ?_
    refine hK5 _ ?_
    refine awp_seq fun K16 hK16 => ?_
    refine awp_region rfl ?_
    refine o_move (bp (byt a 0 = 45)) Gd.none rfl ?_
    refine o_move (AV.row 3) Gd.none rfl ?_
    refine o_callG [(3, 1, (ns .i64 (L)))] [(bp (byt a 0 = 45)), (AV.sl 1 (ns .i64 (L)))] _ (intR ((sg (decide (byt a 0 = 45)) (val (L))))) [(2, (AO.var 36 [(AV.lit (.bool false)), (AV.lit (.slice none 0 0))]))] Gd.none We_tC54 rfl (And.intro ⟨_, rfl⟩ (trivial)) rfl rfl (LeL.cons (AV.le_refl _) (LeL.cons (AV.le_refl _) (LeL.nil))) (c_rTrim (decide (byt a 0 = 45)) (L) (by first | assumption | exact dgn_dig _ _ | exact digs_dig _ | exact Dig.snoc (by assumption) (by assumption) | exact Dig.cons (by omega) (digs_dig _))) rfl ?_
    refine o_store [(2, (oZ 36 .i64 ((sg (decide (byt a 0 = 45)) (val (L))))))] Gd.none We_tZ36 rfl rfl rfl rfl rfl rfl ?_
    refine aops_end ?_
    refine hK16 _ ?_
    refine awp_ret ?_
    refine post_ret ⟨[(intR ((sg (decide (byt a 0 = 45)) (val (L)))))], And.intro ⟨2, (oZ 36 .i64 ((sg (decide (byt a 0 = 45)) (val (L))))), rfl, rfl, rfl, Or.inl ⟨We_tA36, AV.le_refl _⟩⟩ (trivial), rfl, ?_⟩
    refine congrArg (intK .i64) ?_
    rw [hv, show max (sgnAt a) E.toNat = sgnAt a by omega]
    rfl

end Go.Proofs.YtbilndahjkimkaaDoor

set_option linter.unusedVariables false
set_option linter.unusedSimpArgs false
namespace Go.Mth
open Go.Ab
theorem decDigits_decs (u : Nat) : Lib.decDigits u = (if u = 0 then [48] else (decs u).reverse).map UInt8.ofNat := by
  induction u using Nat.strongRecOn with
  | _ u ih =>
    rw [Lib.decDigits]
    split
    · rename_i h
      by_cases h0 : u = 0
      · subst h0; simp
      · rw [if_neg h0, decs_pos (by omega), show u / 10 = 0 by omega, decs_zero, show u % 10 = u by omega]; simp
    · rename_i h
      rw [ih (u / 10) (by omega), if_neg (by omega), if_neg (by omega), decs_pos (n := u) (by omega)]
      simp
theorem itoa_txt (x : Nat) : (⟨(Lib.itoa (x : Int)).toArray⟩ : ByteArray) = txt x := by
  unfold Lib.itoa txt txtL strN strOfNums
  rw [if_neg (by omega), Int.toNat_natCast, decDigits_decs]
  by_cases h : x = 0
  · subst h; rfl
  · rw [if_neg h, if_neg (by omega), if_neg (by omega)]
    simp
theorem parse_ok (a : ByteArray) (h : ∀ i, i < a.size → 48 ≤ byt a i ∧ byt a i ≤ 57) (h9 : a.size ≤ 9) : ∀ (l : List UInt8) (s : Nat), a.data.toList.drop s = l → s + l.length = a.size → Lib.parseUintM 4294967295 (dvk a 0 s) l = .ok (dvk a 0 a.size) := by
  intro l
  induction l with
  | nil =>
    intro s hd hs
    rw [Lib.parseUintM, show s = a.size by simpa using hs]
  | cons c r ih =>
    intro s hd hs
    simp only [List.length_cons] at hs
    have hc : byt a s = c.toNat := by
      unfold byt
      have := congrArg (·[0]?) hd
      simp only [List.getElem?_drop, Nat.add_zero, List.getElem?_cons_zero] at this
      rw [List.getD_eq_getElem?_getD, this]; rfl
    have hb := h s (by omega)
    rw [hc] at hb
    have hlt := dvk_lt (a := a) (s := 0) (k := s + 1) fun i _ hi => h i (by omega)
    have hp : 10 ^ (s + 1) ≤ 10 ^ 9 := Nat.pow_le_pow_right (by decide) (by omega)
    have e : dvk a 0 (s + 1) = dvk a 0 s * 10 + (c.toNat - 48) := by rw [dvk, Nat.zero_add, hc]; omega
    rw [Lib.parseUintM, if_pos hb, if_neg (by omega), if_neg (by omega), ← e]
    refine ih (s + 1) ?_ (by omega)
    have := congrArg (List.drop 1) hd
    simpa using this
end Go.Mth
namespace Go.Proofs.YtbilndahjkimkaaDoor
open Go Go.Ab Go.Mth
theorem c_itoa (x : Nat) (hx : x ≤ 9223372036854775807) : ECalls cx 82 [nm .i64 x] (.lit (.string (txt x))) := by
  intro H L vals w hG hH hr
  simp only [RepL, RepV, nm] at hr
  obtain ⟨v, r, rfl, rfl, rfl⟩ := hr
  refine (Tryd.strconv_Itoa (x : Int) (by omega) (by omega) w (tabIs hG hH)).mono ?_
  rintro e w' ⟨rfl, k, os, rfl⟩
  have hold : ∀ b, b < w.heap.size → (Sort.grow (w.drewN k) os).heap[b]? = w.heap[b]? := fun b hb => by
    simp only [Sort.grow, World.drewN]
    rw [Array.getElem?_append_left hb]
  refine ⟨H, _, rfl, by simp only [RepV]; rw [itoa_txt], Ext.refl _ _, fun b o hb => ?_, ⟨rfl, rfl, rfl, by simp [Sort.grow, World.drewN], hold⟩⟩
  rw [hold b (Array.getElem?_eq_some_iff.1 (hH b o hb)).1]
  exact hH b o hb
theorem c_iparse (a : ByteArray) (h0 : 0 < a.size) (h9 : a.size ≤ 9) (h : ∀ i, i < a.size → 48 ≤ byt a i ∧ byt a i ≤ 57) : ECalls cx 93 [.lit (.string a), nm .i64 10, nm .i64 32] (.tup [nm .u64 (dvk a 0 a.size), .lit .nilIface]) := by
  intro H L vals w hG hH hr
  simp only [RepL, RepV, nm] at hr
  obtain ⟨_, _, rfl, rfl, _, _, rfl, rfl, _, _, rfl, rfl, rfl⟩ := hr
  refine (Tryd.internal_strconv_ParseUint_10_b32 a (by omega) (by omega) w).mono ?_
  rintro e w' ⟨rfl, rfl⟩
  have hbl := Lib.bytesWorld_below w 5 a
  refine ⟨H, _, rfl, ?_, Ext.refl _ _, fun b o hb => ?_, hbl⟩
  · have := parse_ok a h h9 a.data.toList 0 rfl (by simp)
    rw [dvk] at this
    rw [this]
    simp only [RepV, RepL, nm, Lib.uintTupleM]
    exact ⟨[_, _], rfl, _, _, rfl, rfl, _, _, rfl, rfl, rfl⟩
  · rw [hbl.block b (Array.getElem?_eq_some_iff.1 (hH b o hb)).1]
    exact hH b o hb
end Go.Proofs.YtbilndahjkimkaaDoor

set_option linter.unusedVariables false
set_option linter.unusedSimpArgs false
namespace Go.Proofs.YtbilndahjkimkaaDoor
open Go Go.Ab Go.Mth
theorem Wg_tC93 : callable cx.P 93 = true := by kernel_rfl
theorem Wg_tN112 : cx.P.underlying 112 = some (.interface #[("Error", 97)]) := by kernel_rfl
theorem Wg_tO79 : tyZero cx.P 79 = some [(Go.Value.bool false), (Go.Value.slice none 0 0)] := by kernel_rfl
theorem Wg_tT9 : cx.P.underlying 9 = some .string := by kernel_rfl
theorem Wg_tC80 : callable cx.P 80 = true := by kernel_rfl
theorem Wg_tI110 : tyInt cx.P 110 = some .u64 := by kernel_rfl
theorem Wg_tI115 : tyInt cx.P 115 = some .u32 := by kernel_rfl
theorem Wg_tE77 : tyElem cx.P 77 = some (115, 1, 4) := by kernel_rfl
theorem Wg_tO115 : tyZero cx.P 115 = some [(Go.Value.int IntKind.u32 0)] := by kernel_rfl
theorem Wg_tC81 : callable cx.P 81 = true := by kernel_rfl
theorem Wg_tZ79 : tySize cx.P 79 = some 2 := by kernel_rfl
theorem Wg_tA79 : tyAgg cx.P 79 = some 2 := by kernel_rfl
theorem Wg_tF79_1 : tyField cx.P 79 1 = some (1, 77) := by kernel_rfl
theorem Wg_tS77 : tySc cx.P 77 = true := by kernel_rfl
theorem Wg_tU77 : cx.P.underlying 77 = some (.slice 115) := by kernel_rfl
theorem Wg_tS115 : tySc cx.P 115 = true := by kernel_rfl
theorem Wg_tI3 : tyInt cx.P 3 = some .i64 := by kernel_rfl
theorem Wg_tC82 : callable cx.P 82 = true := by kernel_rfl
theorem Wg_tE101 : tyElem cx.P 101 = some (5, 1, 1) := by kernel_rfl
theorem Wg_tO5 : tyZero cx.P 5 = some [(Go.Value.int IntKind.u8 0)] := by kernel_rfl
theorem Wg_tF79_0 : tyField cx.P 79 0 = some (0, 4) := by kernel_rfl
theorem Wg_tS4 : tySc cx.P 4 = true := by kernel_rfl
theorem Wg_tW5 : tyZ1 cx.P 5 = some (.int .u8 0) := by kernel_rfl
theorem Wg_tU101 : cx.P.underlying 101 = some (.slice 5) := by kernel_rfl
theorem Wg_tQ5 : cx.P.underlying 5 = some (.int .u8) := by kernel_rfl
theorem c_parse (a : ByteArray) (h0 : 0 < a.size) (h9 : a.size ≤ 9) (h : ∀ i, i < a.size → 48 ≤ byt a i ∧ byt a i ≤ 57) : ECalls cx 80 [(AV.lit (.string (a))), (nm .i64 (10)), (nm .i64 (32))] (.tup [nm .u64 (dvk a 0 a.size), .lit .nilIface]) := by
  refine ecalls_of_awp Tryd.func80 (c := _) rfl (Nat.le_of_ble_eq_true rfl) ?_
  show awp cx 26 _ (postF cx Tryd.f80 _) ⟨[(0, (AV.lit (.string (a)))), (1, (nm .i64 (10))), (2, (nm .i64 (32)))], []⟩
  refine awp_seq fun K0 hK0 => ?_
  refine awp_region rfl ?_
  refine o_assign (nm .u64 (0)) Gd.none rfl ?_
  refine o_assign (AV.lit .nilIface) Gd.none rfl ?_
  refine aops_end ?_
  refine hK0 _ ?_
  refine awp_seq fun K1 hK1 => ?_
  refine awp_region rfl ?_
  refine o_move (AV.lit (.string (a))) Gd.none rfl ?_
  refine o_move (nm .i64 (10)) Gd.none rfl ?_
  refine o_move (nm .i64 (32)) Gd.none rfl ?_
  refine o_call [(AV.lit (.string (a))), (nm .i64 (10)), (nm .i64 (32))] (AV.tup [(nm .u64 (dvk (a) 0 (a).size)), (AV.lit .nilIface)]) Gd.none Wg_tC93 rfl (c_iparse (a) (by omega) (by omega) (by assumption)) ?_
  refine o_move (AV.tup [(nm .u64 (dvk (a) 0 (a).size)), (AV.lit .nilIface)]) Gd.none rfl ?_
  refine o_extract (nm .u64 (dvk (a) 0 (a).size)) Gd.none rfl rfl ?_
  refine o_extract (AV.lit .nilIface) Gd.none rfl rfl ?_
  refine o_assign (nm .u64 (dvk (a) 0 (a).size)) Gd.none rfl ?_
  refine o_assign (AV.lit .nilIface) Gd.none rfl ?_
  refine aops_end ?_
  refine hK1 _ ?_
  refine awp_seq fun K2 hK2 => ?_
  refine awp_seq fun K3 hK3 => ?_
  refine awp_region rfl ?_
  refine o_move (AV.lit .nilIface) Gd.none rfl ?_
  refine o_neqNil Gd.none rfl Wg_tN112 ?_
  refine aops_end ?_
  refine hK3 _ ?_
  refine awp_condB (b := false) rfl (fun hh => absurd (hh.symm.trans rfl) (by decide)) (fun _ => ?_)
  refine awp_skip ?_
  refine hK2 _ ?_
  refine awp_seq fun K4 hK4 => ?_
  refine awp_region rfl ?_
  refine o_move (nm .u64 (dvk (a) 0 (a).size)) Gd.none rfl ?_
  refine o_assign (nm .u64 (dvk (a) 0 (a).size)) Gd.none rfl ?_
  refine o_assign (AV.lit .nilIface) Gd.none rfl ?_
  refine aops_end ?_
  refine hK4 _ ?_
  refine awp_ret ?_
  refine post_ret ⟨[(nm .u64 (dvk (a) 0 (a).size)), (AV.lit .nilIface)], And.intro (AV.le_refl _) (And.intro (AV.le_refl _) (trivial)), rfl, ?_⟩
  rfl

theorem c_wParse (a : ByteArray) (hok : OkS a) : ECalls cx 48 [(AV.lit (.string (a)))] (intW (numS a)) := by
  refine ecalls_of_awp Tryd.func48 (c := _) rfl (Nat.le_of_ble_eq_true rfl) ?_
  show awp cx 38 _ (postF cx Tryd.f48 _) ⟨[(0, (AV.lit (.string (a))))], []⟩
  obtain ⟨o1, o2, o3, o4⟩ := hok
  have hs1 : sgnAt a ≤ 1 := by unfold sgnAt; split <;> omega
  refine awp_seq fun K0 hK0 => ?_
  refine awp_region rfl ?_
  refine o_alloc 2 [(AV.lit (.bool false)), (AV.lit (.slice none 0 0))] Gd.none Wg_tO79 rfl rfl rfl ?_
  refine aops_end ?_
  refine hK0 _ ?_
  refine awp_seq fun K1 hK1 => ?_
  refine awp_region rfl ?_
  refine o_move (AV.lit (.string (a))) Gd.none rfl ?_
  refine n_indexS (a) (0) Gd.none Wg_tT9 rfl rfl (by omega) ?_
  refine n_eql (byt (a) (0)) (45) Gd.none rfl rfl ?_
  refine o_assign (bp ((byt (a) (0)) = (45))) Gd.none rfl ?_
  refine aops_end ?_
  refine hK1 _ ?_
  refine awp_seqJ (J := fun σ => ∃ (b : ByteArray), (b.size = a.size - sgnAt a) ∧ (∀ i, i < b.size → byt b i = byt a (sgnAt a + i)) ∧ True ∧ σ = ⟨[(0, (AV.lit (.string (b)))), (2, (AV.ref 2 (0))), (3, (bp (byt a 0 = 45)))], [(2, (AO.var 79 [(AV.lit (.bool false)), (AV.lit (.slice none 0 0))]))]⟩) ?ja0 ?jb0
  case ja0 =>
    refine awp_seq fun K2 hK2 => ?_
    refine awp_region rfl ?_
    refine o_move (bp ((byt (a) (0)) = (45))) Gd.none rfl ?_
    refine aops_end ?_
    refine hK2 _ ?_
    refine awp_condQ (q := (byt (a) (0)) = (45)) rfl (fun h1 => ?_) (fun h1 => ?_)
    · refine awp_region rfl ?_
      refine o_move (AV.lit (.string (a))) Gd.none rfl ?_
      refine n_sliceSL (a) (1) ((a).size) Gd.none Wg_tT9 rfl rfl (by omega) (by omega) ?_
      refine o_assign (AV.lit (.string ((a).extract (1) ((a).size)))) Gd.none rfl ?_
      refine aops_end ?_
      have hs : sgnAt a = 1 := if_pos h1
      exact ⟨_, ⟨(a).extract (1) ((a).size), (by rw [extract_size a (by omega) (by omega)]; omega), (fun i hi => by rw [extract_size a (by omega) (by omega)] at hi; rw [byt_extract a (by omega) (by omega), hs]), trivial, rfl⟩, Wk.sub (And.intro (by first | rfl | (simp)) (And.intro rfl (And.intro (by first | rfl | exact bp_congr (by first | omega | simp) | exact bl_bp (by first | omega | simp)) (trivial)))) (And.intro rfl (trivial))⟩
    · refine awp_skip ?_
      have hs : sgnAt a = 0 := if_neg h1
      exact ⟨_, ⟨a, (by omega), (fun i hi => by rw [hs, Nat.zero_add]), trivial, rfl⟩, Wk.sub (And.intro (by first | rfl | (simp)) (And.intro rfl (And.intro (by first | rfl | exact bp_congr (by first | omega | simp) | exact bl_bp (by first | omega | simp)) (trivial)))) (And.intro rfl (trivial))⟩
  rintro _ ⟨b, hbs, hb, -, rfl⟩
  have hbd : ∀ i, i < b.size → 48 ≤ byt b i ∧ byt b i ≤ 57 := fun i hi => by rw [hb i hi]; exact o4 _ (by omega) (by omega)
  refine awp_seq fun K3 hK3 => ?_
  refine awp_region rfl ?_
  refine o_assign (AV.lit (.slice none 0 0)) Gd.none rfl ?_
  refine aops_end ?_
  refine hK3 _ ?_
  refine awp_seq fun K4 hK4 => ?_
  refine awp_seq fun K5 hK5 => ?_
  refine awp_region rfl ?_
  refine o_move (AV.lit (.string (b))) Gd.none rfl ?_
  refine n_lenS (b) Gd.none rfl Wg_tT9 ?_
  refine o_assign (nm .i64 ((b).size)) Gd.none rfl ?_
  refine aops_end ?_
  refine hK5 _ ?_
  refine awp_block ?_
  refine awp_loopR (fun κ σ => ∃ (E : Int), ∃ (L : List Nat), (E ≤ b.size) ∧ (Dig L) ∧ (0 < E → L.length * 9 = b.size - E.toNat) ∧ (L.length ≤ 2000) ∧ (val L = dvk b E.toNat (b.size - E.toNat)) ∧ (E.toNat) = κ ∧ σ = ⟨[(0, (AV.lit (.string (b)))), (2, (AV.ref 2 (0))), (3, (bp (byt a 0 = 45))), (4, (AV.row 3)), (5, (AV.lit (.int .i64 (E))))], [(2, (AO.var 79 [(AV.lit (.bool false)), (AV.lit (.slice none 0 0))])), (3, (AO.row 115 1 (ns .u32 (L))))]⟩) ⟨_, _, ⟨(b.size : Int), [], (by omega), Dig.nil, (by intro _; simp), (by simp), (by simp [val, dvk]), rfl, rfl⟩, ?wk1⟩ ?rd1
  case wk1 =>
    exact Wk.trans (Wk.newNil (i := 4) (id := 601) (e := 115) (sz := 1) rfl rfl (by decide)) (Wk.trans (Wk.sub (σ' := ⟨[(0, (AV.lit (.string (b)))), (2, (AV.ref 2 (0))), (3, (bp (byt a 0 = 45))), (4, (AV.row 601)), (5, (nm .i64 ((b).size)))], [(2, (AO.var 79 [(AV.lit (.bool false)), (AV.lit (.slice none 0 0))])), (601, (AO.row 115 1 (ns .u32 ([]))))]⟩) (And.intro rfl (And.intro rfl (And.intro rfl (And.intro rfl (And.intro rfl (trivial)))))) (And.intro rfl (And.intro rfl (trivial)))) (Wk.trans (Wk.ren (id := 601) (id' := 3) rfl) (Wk.sub (And.intro rfl (And.intro rfl (And.intro rfl (And.intro (by first | rfl | (simp)) (And.intro (by first | rfl | exact int_eq (by omega) | exact int_nm (by omega)) (trivial)))))) (And.intro rfl (And.intro (by first | rfl | exact row_ns (by simp)) (trivial))))))
  rintro κ _ ⟨E, L, hE, hd, hl, hl2, hv, rfl, rfl⟩
  refine awp_seq fun K6 hK6 => ?_
  refine awp_seq fun K7 hK7 => ?_
  refine awp_region rfl ?_
  refine o_move (AV.lit (.int .i64 (E))) Gd.none rfl ?_
  refine o_gtr (a := (E)) (c := (((0 : Nat) : Int))) Gd.none rfl rfl ?_
  refine aops_end ?_
  refine hK7 _ ?_
  refine awp_condQ (q := (((0 : Nat) : Int)) < (E)) rfl (fun h2 => ?_) (fun h2 => ?_)
  · have hps : (b.extract (E.toNat - 9) E.toNat).size = E.toNat - (E.toNat - 9) := extract_size b (by omega) (by omega)
    have hpb : ∀ i, i < (b.extract (E.toNat - 9) E.toNat).size → byt (b.extract (E.toNat - 9) E.toNat) i = byt b (E.toNat - 9 + i) := fun i hi => byt_extract b (by omega) (by omega)
    have hpd : ∀ i, i < (b.extract (E.toNat - 9) E.toNat).size → 48 ≤ byt (b.extract (E.toNat - 9) E.toNat) i ∧ byt (b.extract (E.toNat - 9) E.toNat) i ≤ 57 := fun i hi => by rw [hpb i hi]; exact hbd _ (by omega)
    have hq : dvk (b.extract (E.toNat - 9) E.toNat) 0 (b.extract (E.toNat - 9) E.toNat).size = dvk b (E.toNat - 9) (E.toNat - (E.toNat - 9)) := by rw [dvk_congr (t := E.toNat - 9) (b := b) (fun i hi => by rw [Nat.zero_add]; exact hpb i hi), hps]
    have hql := dvk_lt (a := b) (s := E.toNat - 9) (k := E.toNat - (E.toNat - 9)) fun j h1 h2 => hbd j (by omega)
    have hq9 : dvk b (E.toNat - 9) (E.toNat - (E.toNat - 9)) < 1000000000 := Nat.lt_of_lt_of_le hql (by have := Nat.pow_le_pow_right (n := 10) (by decide) (show E.toNat - (E.toNat - 9) ≤ 9 by omega); simpa using this)
    refine awp_wk (Wk.slot (i := 5) (y := (nm .i64 (E.toNat))) (AV.le_eq (by exact nm_int (by omega)))) ?_
    refine awp_skip ?_
    refine hK6 _ ?_
    refine awp_seq fun K8 hK8 => ?_
    refine awp_block ?_
    refine awp_seq fun K9 hK9 => ?_
    refine awp_region rfl ?_
    refine o_move (AV.lit (.string (b))) Gd.none rfl ?_
    refine o_move (nm .i64 (E.toNat)) Gd.none rfl ?_
    refine o_sub (a := (((E.toNat : Nat) : Int))) (c := (((9 : Nat) : Int))) Gd.none rfl rfl (by exact wrap64 (by omega) (by omega)) ?_
    refine o_max (a := ((0 : Nat) : Int)) (c := (((E.toNat : Nat) : Int)) - (((9 : Nat) : Int))) Gd.none rfl rfl (fun w => run_max _ _ w) ?_
    refine n_as (v' := (nm .i64 (E.toNat - 9))) (nm_int (by omega)) ?_
    refine o_move (nm .i64 (E.toNat)) Gd.none rfl ?_
    refine n_sliceSLH (b) (E.toNat - 9) (E.toNat) Gd.none Wg_tT9 rfl rfl rfl (by omega) (by omega) ?_
    refine o_call [(AV.lit (.string ((b).extract (E.toNat - 9) (E.toNat)))), (nm .i64 (10)), (nm .i64 (32))] (AV.tup [(nm .u64 (dvk ((b).extract (E.toNat - 9) (E.toNat)) 0 ((b).extract (E.toNat - 9) (E.toNat)).size)), (AV.lit .nilIface)]) Gd.none Wg_tC80 rfl (c_parse ((b).extract (E.toNat - 9) (E.toNat)) (by omega) (by omega) (by assumption)) ?_
    refine o_move (AV.tup [(nm .u64 (dvk ((b).extract (E.toNat - 9) (E.toNat)) 0 ((b).extract (E.toNat - 9) (E.toNat)).size)), (AV.lit .nilIface)]) Gd.none rfl ?_
    refine o_extract (nm .u64 (dvk ((b).extract (E.toNat - 9) (E.toNat)) 0 ((b).extract (E.toNat - 9) (E.toNat)).size)) Gd.none rfl rfl ?_
    refine n_as (v' := (nm .u64 (dvk b (E.toNat - 9) (E.toNat - (E.toNat - 9))))) (congrArg (nm _) (by exact hq)) ?_
    refine o_extract (AV.lit .nilIface) Gd.none rfl rfl ?_
    refine o_assign (nm .u64 (dvk b (E.toNat - 9) (E.toNat - (E.toNat - 9)))) Gd.none rfl ?_
    refine o_assign (AV.lit .nilIface) Gd.none rfl ?_
    refine aops_end ?_
    refine hK9 _ ?_
    refine awp_region rfl ?_
    refine o_move (AV.row 3) Gd.none rfl ?_
    refine o_move (nm .u64 (dvk b (E.toNat - 9) (E.toNat - (E.toNat - 9)))) Gd.none rfl ?_
    refine n_conv (dvk b (E.toNat - 9) (E.toNat - (E.toNat - 9))) Gd.none rfl Wg_tI110 Wg_tI115 (by simp only [topOf]; omega) ?_
    refine o_buildSlice 201 (ns .u32 ([dvk b (E.toNat - 9) (E.toNat - (E.toNat - 9))])) [(0, [(nm .u32 (dvk b (E.toNat - 9) (E.toNat - (E.toNat - 9))))])] Gd.none Wg_tE77 rfl Wg_tO115 rfl rfl rfl rfl rfl rfl rfl ?_
    refine n_append 202 (L) ([dvk b (E.toNat - 9) (E.toNat - (E.toNat - 9))]) [(201, (AO.row 115 1 (ns .u32 ([dvk b (E.toNat - 9) (E.toNat - (E.toNat - 9))])))), (2, (AO.var 79 [(AV.lit (.bool false)), (AV.lit (.slice none 0 0))]))] Gd.none Wg_tE77 Wg_tO115 rfl rfl rfl rfl rfl (by simp only [List.length_append, List.length_cons, List.length_nil]; omega) (by decide) rfl rfl ?_
    refine o_assign (AV.row 202) Gd.none rfl ?_
    refine aops_end ?_
    refine hK8 _ ?_
    refine awp_region rfl ?_
    refine o_move (nm .i64 (E.toNat)) Gd.none rfl ?_
    refine o_sub (a := (((E.toNat : Nat) : Int))) (c := (((9 : Nat) : Int))) Gd.none rfl rfl (by exact wrap64 (by omega) (by omega)) ?_
    refine o_assign (AV.lit (.int .i64 ((((E.toNat : Nat) : Int)) - (((9 : Nat) : Int))))) Gd.none rfl ?_
    refine aops_end ?_
    refine ⟨_, _, ?lt, ⟨(E.toNat : Int) - 9, (L) ++ ([dvk b (E.toNat - 9) (E.toNat - (E.toNat - 9))]), (by omega), (hd.snoc hq9), (by intro h; have := hl (by omega); simp only [List.length_append, List.length_cons, List.length_nil]; omega), (by have := hl (by omega); simp only [List.length_append, List.length_cons, List.length_nil]; omega), (by have hh := parse_step (s := E.toNat - 9) (by omega) (by omega) (hl (by omega)) hv; rw [show ((E.toNat : Int) - 9).toNat = E.toNat - 9 by omega]; exact hh), rfl, rfl⟩, ?wk⟩
    case lt => omega
    case wk => exact Wk.trans (Wk.sub (σ' := ⟨[(0, (AV.lit (.string (b)))), (2, (AV.ref 2 (0))), (3, (bp (byt a 0 = 45))), (4, (AV.row 202)), (5, (AV.lit (.int .i64 ((((E.toNat : Nat) : Int)) - (((9 : Nat) : Int))))))], [(2, (AO.var 79 [(AV.lit (.bool false)), (AV.lit (.slice none 0 0))])), (202, (AO.row 115 1 (ns .u32 ((L) ++ ([dvk b (E.toNat - 9) (E.toNat - (E.toNat - 9))])))))]⟩) (And.intro rfl (And.intro rfl (And.intro rfl (And.intro rfl (And.intro rfl (trivial)))))) (And.intro rfl (And.intro rfl (trivial)))) (Wk.trans (Wk.ren (id := 202) (id' := 3) rfl) (Wk.sub (And.intro rfl (And.intro rfl (And.intro rfl (And.intro (by first | rfl | (simp)) (And.intro (by first | rfl | exact int_eq (by omega) | exact int_nm (by omega)) (trivial)))))) (And.intro rfl (And.intro (by first | rfl | exact row_ns (by simp)) (trivial)))))
  · refine awp_exit ?_
    refine hK4 _ ?_
    refine awp_seq fun K10 hK10 => ?_
    refine awp_region rfl ?_
    refine o_move (bp (byt a 0 = 45)) Gd.none rfl ?_
    refine o_move (AV.row 3) Gd.none rfl ?_
    refine o_callG [(3, 1, (ns .u32 (L)))] [(bp (byt a 0 = 45)), (AV.sl 1 (ns .u32 (L)))] _ (intW ((sg (decide (byt a 0 = 45)) (val (L))))) [(2, (AO.var 79 [(AV.lit (.bool false)), (AV.lit (.slice none 0 0))]))] Gd.none Wg_tC81 rfl (And.intro ⟨_, rfl⟩ (trivial)) rfl rfl (LeL.cons (AV.le_refl _) (LeL.cons (AV.le_refl _) (LeL.nil))) (c_wTrim (decide (byt a 0 = 45)) (L) (by first | assumption | exact dgn_dig _ _ | exact digs_dig _ | exact Dig.snoc (by assumption) (by assumption) | exact Dig.cons (by omega) (digs_dig _))) rfl ?_
    refine o_store [(2, (oZ 79 .u32 ((sg (decide (byt a 0 = 45)) (val (L))))))] Gd.none Wg_tZ79 rfl rfl rfl rfl rfl rfl ?_
    refine aops_end ?_
    refine hK10 _ ?_
    refine awp_ret ?_
    refine post_ret ⟨[(intW ((sg (decide (byt a 0 = 45)) (val (L)))))], And.intro ⟨2, (oZ 79 .u32 ((sg (decide (byt a 0 = 45)) (val (L))))), rfl, rfl, rfl, Or.inl ⟨Wg_tA79, AV.le_refl _⟩⟩ (trivial), rfl, ?_⟩
    refine congrArg (intK .u32) ?_
    rw [hv, show E.toNat = 0 by omega]
    unfold numS
    congr 1
    rw [← hbs]
    exact (dvk_congr fun i hi => by rw [Nat.zero_add]; exact (hb i (by omega))).symm

theorem c_wDigits (z : Int) (hz : (digs z.natAbs).length ≤ 1000000000) : ECalls cx 49 [(intW (z))] (nm .i64 (ndig z.natAbs)) := by
  refine ecalls_of_awp Tryd.func49 (c := _) rfl (Nat.le_of_ble_eq_true rfl) ?_
  show awp cx 24 _ (postF cx Tryd.f49 _) ⟨[(0, (intW (z)))], []⟩
  refine awp_seq fun K0 hK0 => ?_
  refine awp_region rfl ?_
  refine o_box 2 [(bp (z < 0)), (AV.sl 1 (ns .u32 (digs (z).natAbs)))] Gd.none rfl rfl ?_
  refine o_assign (nm .i64 (0)) Gd.none rfl ?_
  refine aops_end ?_
  refine hK0 _ ?_
  refine awp_seq fun K1 hK1 => ?_
  refine awp_seq fun K2 hK2 => ?_
  refine awp_region rfl ?_
  refine o_fieldRef 1 Gd.none Wg_tF79_1 rfl rfl ?_
  refine o_loadS (AV.sl 1 (ns .u32 (digs (z).natAbs))) Gd.none Wg_tS77 rfl rfl rfl ?_
  refine n_len (digs (z).natAbs) Gd.none Wg_tU77 rfl ?_
  refine n_eql ((digs (z).natAbs).length) (0) Gd.none rfl rfl ?_
  refine aops_end ?_
  refine hK2 _ ?_
  refine awp_condQ (q := ((digs (z).natAbs).length) = (0)) rfl (fun h1 => ?_) (fun h1 => ?_)
  · refine awp_seq fun K3 hK3 => ?_
    refine awp_region rfl ?_
    refine o_assign (nm .i64 (1)) Gd.none rfl ?_
    refine aops_end ?_
    refine hK3 _ ?_
    refine awp_ret ?_
    refine post_ret ⟨[(nm .i64 (1))], And.intro (AV.le_refl _) (trivial), rfl, ?_⟩
    refine congrArg (nm .i64) ?_
    unfold ndig
    rw [if_pos (digs_len_zero.1 h1)]
  · have hn0 : 0 < z.natAbs := by rcases Nat.eq_zero_or_pos z.natAbs with e | e; exact absurd (digs_len_zero.2 e) h1; exact e
    have ht := ndig_top hn0
    have htl := (digs_dig z.natAbs).getD ((digs z.natAbs).length - 1)
    have hsz := txt_size ((digs z.natAbs).getD ((digs z.natAbs).length - 1) 0)
    have hsm := ndig_small htl
    refine awp_skip ?_
    refine hK1 _ ?_
    refine awp_seq fun K4 hK4 => ?_
    refine awp_regionD rfl ?_
    refine o_fieldRef 1 Gd.none Wg_tF79_1 rfl rfl ?_
    refine o_loadS (AV.sl 1 (ns .u32 (digs (z).natAbs))) Gd.none Wg_tS77 rfl rfl rfl ?_
    refine n_len (digs (z).natAbs) Gd.none Wg_tU77 rfl ?_
    refine n_sub ((digs (z).natAbs).length) (1) Gd.none rfl rfl (by omega) (by simp only [topOf]; omega) ?_
    refine n_mul (9) (((digs (z).natAbs).length) - (1)) Gd.none rfl rfl (by simp only [topOf]; omega) ?_
    refine o_fieldRef 1 Gd.none Wg_tF79_1 rfl rfl ?_
    refine o_loadS (AV.sl 1 (ns .u32 (digs (z).natAbs))) Gd.none Wg_tS77 rfl rfl rfl ?_
    refine o_fieldRef 1 Gd.none Wg_tF79_1 rfl rfl ?_
    refine o_loadS (AV.sl 1 (ns .u32 (digs (z).natAbs))) Gd.none Wg_tS77 rfl rfl rfl ?_
    refine n_len (digs (z).natAbs) Gd.none Wg_tU77 rfl ?_
    refine n_sub ((digs (z).natAbs).length) (1) Gd.none rfl rfl (by omega) (by simp only [topOf]; omega) ?_
    refine n_index (digs (z).natAbs) (((digs (z).natAbs).length) - (1)) Gd.none Wg_tE77 rfl rfl (by omega) ?_
    refine n_loadI (digs (z).natAbs) (((digs (z).natAbs).length) - (1)) Gd.none Wg_tS115 rfl (by omega) ?_
    refine n_conv ((digs (z).natAbs).getD (((digs (z).natAbs).length) - (1)) 0) Gd.none rfl Wg_tI115 Wg_tI3 (by simp only [topOf]; omega) ?_
    refine o_call [(nm .i64 ((digs (z).natAbs).getD (((digs (z).natAbs).length) - (1)) 0))] (AV.lit (.string (txt (((digs (z).natAbs).getD (((digs (z).natAbs).length) - (1)) 0 : Nat) : Int)))) Gd.none Wg_tC82 rfl (c_itoa ((digs (z).natAbs).getD (((digs (z).natAbs).length) - (1)) 0) (by omega)) ?_
    refine n_lenS (txt (((digs (z).natAbs).getD (((digs (z).natAbs).length) - (1)) 0 : Nat) : Int)) Gd.none rfl Wg_tT9 ?_
    refine n_add ((9) * (((digs (z).natAbs).length) - (1))) ((txt (((digs (z).natAbs).getD (((digs (z).natAbs).length) - (1)) 0 : Nat) : Int)).size) Gd.none rfl rfl (by simp only [topOf]; omega) ?_
    refine o_assign (nm .i64 (((9) * (((digs (z).natAbs).length) - (1))) + ((txt (((digs (z).natAbs).getD (((digs (z).natAbs).length) - (1)) 0 : Nat) : Int)).size))) Gd.none rfl ?_
    refine aops_end ⟨by kernel_rfl, ?_⟩
    refine hK4 _ ?_
    refine awp_ret ?_
    refine post_ret ⟨[(nm .i64 (((9) * (((digs (z).natAbs).length) - (1))) + ((txt (((digs (z).natAbs).getD (((digs (z).natAbs).length) - (1)) 0 : Nat) : Int)).size)))], And.intro (AV.le_refl _) (trivial), rfl, ?_⟩
    refine congrArg (nm .i64) ?_
    rw [hsz]
    have hp := val_drop_pos (n := z.natAbs) (j := (digs z.natAbs).length - 1) (by omega)
    rw [val_drop_succ (by omega), val_drop_all (xs := digs z.natAbs) (j := (digs z.natAbs).length - 1 + 1) (by omega)] at hp
    unfold ndig
    rw [if_neg (by omega), if_neg (by omega), ht]

theorem c_wText (z : Int) (hz : (digs z.natAbs).length ≤ 1000000000) : ECalls cx 64 [(intW (z))] (.lit (.string (txt z))) := by
  refine ecalls_of_awp Tryd.func64 (c := _) rfl (Nat.le_of_ble_eq_true rfl) ?_
  show awp cx 54 _ (postF cx Tryd.f64 _) ⟨[(0, (intW (z)))], []⟩
  refine awp_seq fun K0 hK0 => ?_
  refine awp_region rfl ?_
  refine o_box 2 [(bp (z < 0)), (AV.sl 1 (ns .u32 (digs (z).natAbs)))] Gd.none rfl rfl ?_
  refine o_assign (AV.lit (.string (({data := #[]} : ByteArray)))) Gd.none rfl ?_
  refine aops_end ?_
  refine hK0 _ ?_
  refine awp_seq fun K1 hK1 => ?_
  refine awp_seq fun K2 hK2 => ?_
  refine awp_region rfl ?_
  refine o_fieldRef 1 Gd.none Wg_tF79_1 rfl rfl ?_
  refine o_loadS (AV.sl 1 (ns .u32 (digs (z).natAbs))) Gd.none Wg_tS77 rfl rfl rfl ?_
  refine n_len (digs (z).natAbs) Gd.none Wg_tU77 rfl ?_
  refine n_eql ((digs (z).natAbs).length) (0) Gd.none rfl rfl ?_
  refine aops_end ?_
  refine hK2 _ ?_
  refine awp_condQ (q := ((digs (z).natAbs).length) = (0)) rfl (fun h1 => ?_) (fun h1 => ?_)
  · refine awp_seq fun K3 hK3 => ?_
    refine awp_region rfl ?_
    refine o_assign (AV.lit (.string (({data := #[48]} : ByteArray)))) Gd.none rfl ?_
    refine aops_end ?_
    refine hK3 _ ?_
    refine awp_ret ?_
    refine post_ret ⟨[(AV.lit (.string (({data := #[48]} : ByteArray))))], And.intro (AV.le_refl _) (trivial), rfl, ?_⟩
    rw [show z = 0 by have := digs_len_zero.1 h1; omega]
    rfl
  · have hz0 : z.natAbs ≠ 0 := fun e => h1 (digs_len_zero.2 e)
    refine awp_skip ?_
    refine hK1 _ ?_
    refine awp_seq fun K4 hK4 => ?_
    refine awp_region rfl ?_
    refine o_buildSlice 3 (ns .u8 ([])) [] Gd.none Wg_tE101 rfl Wg_tO5 rfl rfl rfl rfl rfl rfl rfl ?_
    refine o_assign (AV.row 3) Gd.none rfl ?_
    refine aops_end ?_
    refine hK4 _ ?_
    refine awp_seqJ (J := fun σ => ∃ (o0 : List Nat), (o0 = (if z < 0 then [45] else [] : List Nat)) ∧ True ∧ σ = ⟨[(1, (AV.ref 2 (0))), (3, (AV.row 3))], [(2, (oZ 79 .u32 (z))), (3, (AO.row 5 1 (ns .u8 (o0))))]⟩) ?ja0 ?jb0
    case ja0 =>
      refine awp_seq fun K5 hK5 => ?_
      refine awp_region rfl ?_
      refine o_fieldRef 0 Gd.none Wg_tF79_0 rfl rfl ?_
      refine o_loadS (bp (z < 0)) Gd.none Wg_tS4 rfl rfl rfl ?_
      refine aops_end ?_
      refine hK5 _ ?_
      refine awp_condQ (q := z < 0) rfl (fun h2 => ?_) (fun h2 => ?_)
      · refine awp_region rfl ?_
        refine o_move (AV.row 3) Gd.none rfl ?_
        refine o_buildSlice 4 (ns .u8 ([45])) [(0, [(nm .u8 (45))])] Gd.none Wg_tE101 rfl Wg_tO5 rfl rfl rfl rfl rfl rfl rfl ?_
        refine n_append 5 ([]) ([45]) [(4, (AO.row 5 1 (ns .u8 ([45])))), (2, (oZ 79 .u32 (z)))] Gd.none Wg_tE101 Wg_tO5 rfl rfl rfl rfl rfl (by simp) (by decide) rfl rfl ?_
        refine o_assign (AV.row 5) Gd.none rfl ?_
        refine aops_end ?_
        exact ⟨_, ⟨([]) ++ ([45]), (by simp [*]), trivial, rfl⟩, Wk.trans (Wk.sub (σ' := ⟨[(1, (AV.ref 2 (0))), (3, (AV.row 5))], [(2, (oZ 79 .u32 (z))), (5, (AO.row 5 1 (ns .u8 (([]) ++ ([45])))))]⟩) (And.intro rfl (And.intro rfl (trivial))) (And.intro rfl (And.intro rfl (trivial)))) (Wk.trans (Wk.ren (id := 5) (id' := 3) rfl) (Wk.sub (And.intro rfl (And.intro (by first | rfl | (simp)) (trivial))) (And.intro rfl (And.intro (by first | rfl | exact row_ns (by simp)) (trivial)))))⟩
      · refine awp_skip ?_
        exact ⟨_, ⟨[], (by simp [*]), trivial, rfl⟩, Wk.sub (And.intro rfl (And.intro rfl (trivial))) (And.intro rfl (And.intro (by first | rfl | exact row_ns (by simp)) (trivial)))⟩
    rintro _ ⟨o0, ho0, -, rfl⟩
    have hol : o0.length ≤ 1 := by rw [ho0]; split <;> simp
    refine awp_seq fun K6 hK6 => ?_
    refine awp_seq fun K7 hK7 => ?_
    refine awp_region rfl ?_
    refine o_fieldRef 1 Gd.none Wg_tF79_1 rfl rfl ?_
    refine o_loadS (AV.sl 1 (ns .u32 (digs (z).natAbs))) Gd.none Wg_tS77 rfl rfl rfl ?_
    refine n_len (digs (z).natAbs) Gd.none Wg_tU77 rfl ?_
    refine o_sub (a := ((((digs (z).natAbs).length : Nat) : Int))) (c := (((1 : Nat) : Int))) Gd.none rfl rfl (by exact wrap64 (by omega) (by omega)) ?_
    refine o_assign (AV.lit (.int .i64 (((((digs (z).natAbs).length : Nat) : Int)) - (((1 : Nat) : Int))))) Gd.none rfl ?_
    refine aops_end ?_
    refine hK7 _ ?_
    refine awp_block ?_
    refine awp_loopR (fun κ σ => ∃ (j : Nat), ∃ (out : List Nat), ∃ (body : List Nat), (j ≤ (digs z.natAbs).length) ∧ (body = (decs (val ((digs z.natAbs).drop j))).reverse) ∧ (out = o0 ++ body) ∧ (out.length ≤ 1 + 9 * ((digs z.natAbs).length - j)) ∧ (j) = κ ∧ σ = ⟨[(1, (AV.ref 2 (0))), (3, (AV.row 3)), (4, (AV.lit (.int .i64 ((j : Int) - 1))))], [(2, (oZ 79 .u32 (z))), (3, (AO.row 5 1 (ns .u8 (out))))]⟩) ⟨_, _, ⟨(digs z.natAbs).length, o0, [], (Nat.le_refl _), (by rw [val_drop_all (Nat.le_refl _), decs_zero]; rfl), (by simp), (by omega), rfl, rfl⟩, ?wk1⟩ ?rd1
    case wk1 =>
      exact Wk.sub (And.intro rfl (And.intro rfl (And.intro (by first | rfl | exact int_eq (by omega) | exact int_nm (by omega)) (trivial)))) (And.intro rfl (And.intro (by first | rfl | exact row_ns (by simp)) (trivial)))
    rintro κ _ ⟨j, out, body, hj, hb, ho, hol2, rfl, rfl⟩
    have hp := (digs_dig z.natAbs).getD (j - 1)
    have htsz := txt_size ((digs z.natAbs).getD (j - 1) 0)
    have hnd := ndig_small hp
    refine awp_seq fun K8 hK8 => ?_
    refine awp_seq fun K9 hK9 => ?_
    refine awp_region rfl ?_
    refine o_move (AV.lit (.int .i64 ((j : Int) - 1))) Gd.none rfl ?_
    refine o_geq (a := ((j : Int) - 1)) (c := (((0 : Nat) : Int))) Gd.none rfl rfl ?_
    refine aops_end ?_
    refine hK9 _ ?_
    refine awp_condQ (q := (((0 : Nat) : Int)) ≤ ((j : Int) - 1)) rfl (fun h3 => ?_) (fun h3 => ?_)
    · refine awp_wk (Wk.slot (i := 4) (y := (nm .i64 (j - 1))) (AV.le_eq (by exact nm_int (by omega)))) ?_
      refine awp_skip ?_
      refine hK8 _ ?_
      refine awp_seq fun K10 hK10 => ?_
      refine awp_block ?_
      refine awp_seq fun K11 hK11 => ?_
      refine awp_region rfl ?_
      refine o_fieldRef 1 Gd.none Wg_tF79_1 rfl rfl ?_
      refine o_loadS (AV.sl 1 (ns .u32 (digs (z).natAbs))) Gd.none Wg_tS77 rfl rfl rfl ?_
      refine o_move (nm .i64 (j - 1)) Gd.none rfl ?_
      refine n_index (digs (z).natAbs) (j - 1) Gd.none Wg_tE77 rfl rfl (by omega) ?_
      refine n_loadI (digs (z).natAbs) (j - 1) Gd.none Wg_tS115 rfl (by omega) ?_
      refine n_conv ((digs (z).natAbs).getD (j - 1) 0) Gd.none rfl Wg_tI115 Wg_tI3 (by simp only [topOf]; omega) ?_
      refine o_call [(nm .i64 ((digs (z).natAbs).getD (j - 1) 0))] (AV.lit (.string (txt (((digs (z).natAbs).getD (j - 1) 0 : Nat) : Int)))) Gd.none Wg_tC82 rfl (c_itoa ((digs (z).natAbs).getD (j - 1) 0) (by omega)) ?_
      refine o_assign (AV.lit (.string (txt (((digs (z).natAbs).getD (j - 1) 0 : Nat) : Int)))) Gd.none rfl ?_
      refine aops_end ?_
      refine hK11 _ ?_
      refine awp_seq fun K12 hK12 => ?_
      refine awp_seq fun K13 hK13 => ?_
      refine awp_region rfl ?_
      refine o_move (AV.lit (.string (txt (((digs (z).natAbs).getD (j - 1) 0 : Nat) : Int)))) Gd.none rfl ?_
      refine n_lenS (txt (((digs (z).natAbs).getD (j - 1) 0 : Nat) : Int)) Gd.none rfl Wg_tT9 ?_
      refine n_as (v' := (nm .i64 (ndig ((digs z.natAbs).getD (j - 1) 0)))) (congrArg (nm _) (by exact htsz)) ?_
      refine o_assign (nm .i64 (ndig ((digs z.natAbs).getD (j - 1) 0))) Gd.none rfl ?_
      refine aops_end ?_
      refine hK13 _ ?_
      refine awp_block ?_
      refine awp_loopR (fun κ σ => ∃ (k : Nat), ∃ (out2 : List Nat), (ndig ((digs z.natAbs).getD (j - 1) 0) ≤ k) ∧ (k ≤ 9) ∧ (¬ j < (digs z.natAbs).length → k = ndig ((digs z.natAbs).getD (j - 1) 0)) ∧ (out2 = out ++ List.replicate (k - ndig ((digs z.natAbs).getD (j - 1) 0)) 48) ∧ (out2.length + ndig ((digs z.natAbs).getD (j - 1) 0) = out.length + k) ∧ (9 - k) = κ ∧ σ = ⟨[(1, (AV.ref 2 (0))), (3, (AV.row 3)), (4, (nm .i64 (j - 1))), (5, (AV.lit (.string (txt (((digs z.natAbs).getD (j - 1) 0 : Nat) : Int))))), (6, (nm .i64 (k)))], [(2, (oZ 79 .u32 (z))), (3, (AO.row 5 1 (ns .u8 (out2))))]⟩) ⟨_, _, ⟨ndig ((digs z.natAbs).getD (j - 1) 0), _, (Nat.le_refl _), hnd, (fun _ => rfl), (by simp), rfl, rfl, rfl⟩, ?wk2⟩ ?rd2
      case wk2 =>
        exact Wk.sub (And.intro rfl (And.intro rfl (And.intro rfl (And.intro (by first | rfl | (simp)) (And.intro (by first | rfl | exact congrArg (nm _) (by omega) | exact nm_int (by omega) | exact nm_int (by simp [IntKind.wrap, IntKind.bits, IntKind.signed]; omega)) (trivial)))))) (And.intro rfl (And.intro (by first | rfl | exact row_ns (by simp)) (trivial)))
      rintro κ _ ⟨k, out2, hk9, hk10, hk0, hk, hk11, rfl, rfl⟩
      refine awp_seq fun K14 hK14 => ?_
      refine awp_seq fun K15 hK15 => ?_
      refine awp_region rfl ?_
      refine o_move (nm .i64 (k)) Gd.none rfl ?_
      refine n_lss (k) (9) Gd.none rfl rfl ?_
      refine o_move (bp ((k) < (9))) Gd.none rfl ?_
      refine o_splitP (q := (k) < (9)) 36 rfl (fun h4 => ?_) (fun h4 => ?_)
      · refine o_move (nm .i64 (j - 1)) (Gd.yes rfl rfl (decide_eq_true h4)) rfl ?_
        refine o_fieldRef 1 (Gd.yes rfl rfl (decide_eq_true h4)) Wg_tF79_1 rfl rfl ?_
        refine o_loadS (AV.sl 1 (ns .u32 (digs (z).natAbs))) (Gd.yes rfl rfl (decide_eq_true h4)) Wg_tS77 rfl rfl rfl ?_
        refine n_len (digs (z).natAbs) (Gd.yes rfl rfl (decide_eq_true h4)) Wg_tU77 rfl ?_
        refine n_sub ((digs (z).natAbs).length) (1) (Gd.yes rfl rfl (decide_eq_true h4)) rfl rfl (by omega) (by simp only [topOf]; omega) ?_
        refine n_lss (j - 1) (((digs (z).natAbs).length) - (1)) (Gd.yes rfl rfl (decide_eq_true h4)) rfl rfl ?_
        refine o_pickT (b := decide ((k) < (9))) (bp ((j - 1) < (((digs (z).natAbs).length) - (1)))) Gd.none rfl (decide_eq_true h4) rfl ?_
        refine aops_end ?_
        refine hK15 _ ?_
        refine awp_condQ (q := (j - 1) < (((digs (z).natAbs).length) - (1))) rfl (fun h5 => ?_) (fun h5 => ?_)
        · refine awp_skip ?_
          refine hK14 _ ?_
          refine awp_seq fun K16 hK16 => ?_
          refine awp_block ?_
          refine awp_region rfl ?_
          refine o_move (AV.row 3) Gd.none rfl ?_
          refine o_buildSlice 301 (ns .u8 ([48])) [(0, [(nm .u8 (48))])] Gd.none Wg_tE101 rfl Wg_tO5 rfl rfl rfl rfl rfl rfl rfl ?_
          refine n_append 302 (out2) ([48]) [(301, (AO.row 5 1 (ns .u8 ([48])))), (2, (oZ 79 .u32 (z)))] Gd.none Wg_tE101 Wg_tO5 rfl rfl rfl rfl rfl (by simp only [List.length_append, List.length_cons, List.length_nil]; omega) (by decide) rfl rfl ?_
          refine o_assign (AV.row 302) Gd.none rfl ?_
          refine aops_end ?_
          refine hK16 _ ?_
          refine awp_region rfl ?_
          refine o_move (nm .i64 (k)) Gd.none rfl ?_
          refine n_add (k) (1) Gd.none rfl rfl (by simp only [topOf]; omega) ?_
          refine o_assign (nm .i64 ((k) + (1))) Gd.none rfl ?_
          refine aops_end ?_
          refine ⟨_, _, ?lt, ⟨k + 1, (out2) ++ ([48]), (by omega), (by omega), (fun h => by omega), (by rw [hk, List.append_assoc, ← List.replicate_succ', show k - ndig ((digs z.natAbs).getD (j - 1) 0) + 1 = k + 1 - ndig ((digs z.natAbs).getD (j - 1) 0) by omega]), (by simp only [List.length_append, List.length_cons, List.length_nil]; omega), rfl, rfl⟩, ?wk⟩
          case lt => omega
          case wk => exact Wk.trans (Wk.sub (σ' := ⟨[(1, (AV.ref 2 (0))), (3, (AV.row 302)), (4, (nm .i64 (j - 1))), (5, (AV.lit (.string (txt (((digs z.natAbs).getD (j - 1) 0 : Nat) : Int))))), (6, (nm .i64 ((k) + (1))))], [(2, (oZ 79 .u32 (z))), (302, (AO.row 5 1 (ns .u8 ((out2) ++ ([48])))))]⟩) (And.intro rfl (And.intro rfl (And.intro rfl (And.intro rfl (And.intro rfl (trivial)))))) (And.intro rfl (And.intro rfl (trivial)))) (Wk.trans (Wk.ren (id := 302) (id' := 3) rfl) (Wk.sub (And.intro rfl (And.intro (by first | rfl | (simp)) (And.intro rfl (And.intro rfl (And.intro (by first | rfl | exact congrArg (nm _) (by omega) | exact nm_int (by omega) | exact nm_int (by simp [IntKind.wrap, IntKind.bits, IntKind.signed]; omega)) (trivial)))))) (And.intro rfl (And.intro (by first | rfl | exact row_ns (by simp)) (trivial)))))
        · refine awp_exit ?_
          refine hK12 _ ?_
          refine awp_region rfl ?_
          refine o_move (AV.row 3) Gd.none rfl ?_
          refine o_move (AV.lit (.string (txt (((digs z.natAbs).getD (j - 1) 0 : Nat) : Int)))) Gd.none rfl ?_
          refine n_appendS 301 (out2) (txt (((digs z.natAbs).getD (j - 1) 0 : Nat) : Int)) [(2, (oZ 79 .u32 (z)))] Gd.none Wg_tE101 Wg_tT9 Wg_tW5 rfl rfl rfl (by rw [htsz]; omega) rfl rfl ?_
          refine o_assign (AV.row 301) Gd.none rfl ?_
          refine aops_end ?_
          refine hK10 _ ?_
          refine awp_region rfl ?_
          refine o_move (nm .i64 (j - 1)) Gd.none rfl ?_
          refine o_sub (a := (((j - 1 : Nat) : Int))) (c := (((1 : Nat) : Int))) Gd.none rfl rfl (by exact wrap64 (by omega) (by omega)) ?_
          refine o_assign (AV.lit (.int .i64 ((((j - 1 : Nat) : Int)) - (((1 : Nat) : Int))))) Gd.none rfl ?_
          refine aops_end ?_
          have hk2 : out2 = if j < (digs z.natAbs).length then out ++ List.replicate (9 - ndig ((digs z.natAbs).getD (j - 1) 0)) 48 else out := by
            rw [hk]
            by_cases hj2 : j < (digs z.natAbs).length
            · rw [if_pos hj2, show k = 9 by omega]
            · rw [if_neg hj2, hk0 hj2]; simp
          refine ⟨_, _, ?lt, ⟨j - 1, (out2) ++ byts (txt (((digs z.natAbs).getD (j - 1) 0 : Nat) : Int)), (if j < (digs z.natAbs).length then body ++ List.replicate (9 - ndig ((digs z.natAbs).getD (j - 1) 0)) 48 else body) ++ txtL ((digs z.natAbs).getD (j - 1) 0 : Nat), (by omega), (str_step (by omega) hj hb), (by rw [hk2, ho, byts_txt]; split <;> simp [*]), (by simp only [List.length_append, byts_len, htsz]; omega), rfl, rfl⟩, ?wk⟩
          case lt => omega
          case wk => exact Wk.trans (Wk.sub (σ' := ⟨[(1, (AV.ref 2 (0))), (3, (AV.row 301)), (4, (AV.lit (.int .i64 ((((j - 1 : Nat) : Int)) - (((1 : Nat) : Int))))))], [(2, (oZ 79 .u32 (z))), (301, (AO.row 5 1 (ns .u8 ((out2) ++ byts (txt (((digs z.natAbs).getD (j - 1) 0 : Nat) : Int))))))]⟩) (And.intro rfl (And.intro rfl (And.intro rfl (trivial)))) (And.intro rfl (And.intro rfl (trivial)))) (Wk.trans (Wk.ren (id := 301) (id' := 3) rfl) (Wk.sub (And.intro rfl (And.intro (by first | rfl | (simp)) (And.intro (by first | rfl | exact int_eq (by omega) | exact int_nm (by omega)) (trivial)))) (And.intro rfl (And.intro (by first | rfl | exact row_ns (by simp)) (trivial)))))
      · refine o_skip (b := decide ((k) < (9))) rfl rfl (decide_eq_false h4) ?_
        refine o_skip (b := decide ((k) < (9))) rfl rfl (decide_eq_false h4) ?_
        refine o_skip (b := decide ((k) < (9))) rfl rfl (decide_eq_false h4) ?_
        refine o_skip (b := decide ((k) < (9))) rfl rfl (decide_eq_false h4) ?_
        refine o_skip (b := decide ((k) < (9))) rfl rfl (decide_eq_false h4) ?_
        refine o_skip (b := decide ((k) < (9))) rfl rfl (decide_eq_false h4) ?_
        refine o_pickF (b := decide ((k) < (9))) (AV.lit (.bool false)) Gd.none rfl (decide_eq_false h4) rfl ?_
        refine aops_end ?_
        refine hK15 _ ?_
        refine awp_condB (b := false) rfl (fun hh => absurd (hh.symm.trans rfl) (by decide)) (fun _ => ?_)
        refine awp_exit ?_
        refine hK12 _ ?_
        refine awp_region rfl ?_
        refine o_move (AV.row 3) Gd.none rfl ?_
        refine o_move (AV.lit (.string (txt (((digs z.natAbs).getD (j - 1) 0 : Nat) : Int)))) Gd.none rfl ?_
        refine n_appendS 301 (out2) (txt (((digs z.natAbs).getD (j - 1) 0 : Nat) : Int)) [(2, (oZ 79 .u32 (z)))] Gd.none Wg_tE101 Wg_tT9 Wg_tW5 rfl rfl rfl (by rw [htsz]; omega) rfl rfl ?_
        refine o_assign (AV.row 301) Gd.none rfl ?_
        refine aops_end ?_
        refine hK10 _ ?_
        refine awp_region rfl ?_
        refine o_move (nm .i64 (j - 1)) Gd.none rfl ?_
        refine o_sub (a := (((j - 1 : Nat) : Int))) (c := (((1 : Nat) : Int))) Gd.none rfl rfl (by exact wrap64 (by omega) (by omega)) ?_
        refine o_assign (AV.lit (.int .i64 ((((j - 1 : Nat) : Int)) - (((1 : Nat) : Int))))) Gd.none rfl ?_
        refine aops_end ?_
        have hk2 : out2 = if j < (digs z.natAbs).length then out ++ List.replicate (9 - ndig ((digs z.natAbs).getD (j - 1) 0)) 48 else out := by
          rw [hk]
          by_cases hj2 : j < (digs z.natAbs).length
          · rw [if_pos hj2, show k = 9 by omega]
          · rw [if_neg hj2, hk0 hj2]; simp
        refine ⟨_, _, ?lt, ⟨j - 1, (out2) ++ byts (txt (((digs z.natAbs).getD (j - 1) 0 : Nat) : Int)), (if j < (digs z.natAbs).length then body ++ List.replicate (9 - ndig ((digs z.natAbs).getD (j - 1) 0)) 48 else body) ++ txtL ((digs z.natAbs).getD (j - 1) 0 : Nat), (by omega), (str_step (by omega) hj hb), (by rw [hk2, ho, byts_txt]; split <;> simp [*]), (by simp only [List.length_append, byts_len, htsz]; omega), rfl, rfl⟩, ?wk⟩
        case lt => omega
        case wk => exact Wk.trans (Wk.sub (σ' := ⟨[(1, (AV.ref 2 (0))), (3, (AV.row 301)), (4, (AV.lit (.int .i64 ((((j - 1 : Nat) : Int)) - (((1 : Nat) : Int))))))], [(2, (oZ 79 .u32 (z))), (301, (AO.row 5 1 (ns .u8 ((out2) ++ byts (txt (((digs z.natAbs).getD (j - 1) 0 : Nat) : Int))))))]⟩) (And.intro rfl (And.intro rfl (And.intro rfl (trivial)))) (And.intro rfl (And.intro rfl (trivial)))) (Wk.trans (Wk.ren (id := 301) (id' := 3) rfl) (Wk.sub (And.intro rfl (And.intro (by first | rfl | (simp)) (And.intro (by first | rfl | exact int_eq (by omega) | exact int_nm (by omega)) (trivial)))) (And.intro rfl (And.intro (by first | rfl | exact row_ns (by simp)) (trivial)))))
    · refine awp_exit ?_
      refine hK6 _ ?_
      refine awp_seq fun K17 hK17 => ?_
      refine awp_region rfl ?_
      refine o_move (AV.row 3) Gd.none rfl ?_
      refine n_strOf (out) Gd.none Wg_tU101 Wg_tQ5 Wg_tT9 rfl rfl ?_
      refine o_assign (AV.lit (.string (strN (out)))) Gd.none rfl ?_
      refine aops_end ?_
      refine hK17 _ ?_
      refine awp_ret ?_
      refine post_ret ⟨[(AV.lit (.string (strN (out))))], And.intro (AV.le_refl _) (trivial), rfl, ?_⟩
      have hj0 : j = 0 := by omega
      subst hj0
      rw [List.drop_zero, val_digs] at hb
      refine congrArg (fun x => AV.lit (.string x)) ?_
      unfold txt txtL
      rw [if_neg (by omega), ho, ho0, hb]

end Go.Proofs.YtbilndahjkimkaaDoor

set_option linter.unusedVariables false
set_option linter.unusedSimpArgs false
namespace Go.Proofs.YtbilndahjkimkaaDoor
open Go Go.Ab Go.Mth
theorem Wh_tT9 : cx.P.underlying 9 = some .string := by kernel_rfl
theorem c_nValid (a : ByteArray) (hsz : a.size ≤ 9223372036854775807) : ECalls cx 47 [(AV.lit (.string (a)))] (.lit (.bool (okS a))) := by
  refine ecalls_of_awp Tryd.func47 (c := _) rfl (Nat.le_of_ble_eq_true rfl) ?_
  show awp cx 50 _ (postF cx Tryd.f47 _) ⟨[(0, (AV.lit (.string (a))))], []⟩
  have hs1 : sgnAt a ≤ 1 := by unfold sgnAt; split <;> omega
  refine awp_seq fun K0 hK0 => ?_
  refine awp_region rfl ?_
  refine o_assign (AV.lit (.bool false)) Gd.none rfl ?_
  refine aops_end ?_
  refine hK0 _ ?_
  refine awp_seq fun K1 hK1 => ?_
  refine awp_seq fun K2 hK2 => ?_
  refine awp_region rfl ?_
  refine o_move (AV.lit (.string (a))) Gd.none rfl ?_
  refine n_lenS (a) Gd.none rfl Wh_tT9 ?_
  refine n_gtr ((a).size) (2001) Gd.none rfl rfl ?_
  refine aops_end ?_
  refine hK2 _ ?_
  refine awp_condQ (q := (2001) < ((a).size)) rfl (fun h1 => ?_) (fun h1 => ?_)
  · refine awp_seq fun K3 hK3 => ?_
    refine awp_region rfl ?_
    refine o_assign (AV.lit (.bool false)) Gd.none rfl ?_
    refine aops_end ?_
    refine hK3 _ ?_
    refine awp_ret ?_
    refine post_ret ⟨[(AV.lit (.bool false))], And.intro (AV.le_refl _) (trivial), rfl, ?_⟩
    refine bl_eq (okS_no fun h => ?_)
    obtain ⟨o1, o2, o3, o4⟩ := h
    first | omega | (have := str_nil.1 (by assumption); omega) | (have e := hb 0 (by omega); rw [Nat.add_zero] at e; omega) | (have e := hb 0 (by omega); have := hng1 (by assumption); rw [Nat.add_zero] at e; omega) | (have e := o4 (sgnAt a + pos) (by omega) (by omega); rw [← hb pos (by omega)] at e; have e2 := utf8_lo (a := b) (pos := pos) (by omega) (by omega); simp only [e2] at *; omega)
  · refine awp_skip ?_
    refine hK1 _ ?_
    refine awp_seqJ (J := fun σ => ∃ (ng : Bool), (ng = true → sgnAt a = 1) ∧ (ng = false → sgnAt a = 0) ∧ (ng = true → 0 < a.size) ∧ True ∧ σ = ⟨[(0, (AV.lit (.string (a)))), (3, (AV.lit (.bool (ng))))], []⟩) ?ja0 ?jb0
    case ja0 =>
      refine awp_region rfl ?_
      refine o_move (AV.lit (.string (a))) Gd.none rfl ?_
      refine o_neqS (a := (a)) (c := (({data := #[]} : ByteArray))) Gd.none rfl rfl ?_
      refine o_move (bp ((a).toList ≠ (({data := #[]} : ByteArray)).toList)) Gd.none rfl ?_
      refine o_splitP (q := (a).toList ≠ (({data := #[]} : ByteArray)).toList) 11 rfl (fun h2 => ?_) (fun h2 => ?_)
      · refine o_move (AV.lit (.string (a))) (Gd.yes rfl rfl (decide_eq_true h2)) rfl ?_
        refine n_indexS (a) (0) (Gd.yes rfl rfl (decide_eq_true h2)) Wh_tT9 rfl rfl (by have := mt str_nil.2 h2; omega) ?_
        refine n_eql (byt (a) (0)) (45) (Gd.yes rfl rfl (decide_eq_true h2)) rfl rfl ?_
        refine o_pickT (b := decide ((a).toList ≠ (({data := #[]} : ByteArray)).toList)) (bp ((byt (a) (0)) = (45))) Gd.none rfl (decide_eq_true h2) rfl ?_
        refine o_assign (bp ((byt (a) (0)) = (45))) Gd.none rfl ?_
        refine aops_end ?_
        have hne := mt str_nil.2 h2
        exact ⟨_, ⟨decide ((byt (a) (0)) = (45)), (fun h => if_pos (of_decide_eq_true h)), (fun h => if_neg (of_decide_eq_false h)), (fun _ => by omega), trivial, rfl⟩, Wk.sub (And.intro rfl (And.intro (by first | rfl | (simp)) (trivial))) (trivial)⟩
      · refine o_skip (b := decide ((a).toList ≠ (({data := #[]} : ByteArray)).toList)) rfl rfl (decide_eq_false h2) ?_
        refine o_skip (b := decide ((a).toList ≠ (({data := #[]} : ByteArray)).toList)) rfl rfl (decide_eq_false h2) ?_
        refine o_skip (b := decide ((a).toList ≠ (({data := #[]} : ByteArray)).toList)) rfl rfl (decide_eq_false h2) ?_
        refine o_pickF (b := decide ((a).toList ≠ (({data := #[]} : ByteArray)).toList)) (AV.lit (.bool false)) Gd.none rfl (decide_eq_false h2) rfl ?_
        refine o_assign (AV.lit (.bool false)) Gd.none rfl ?_
        refine aops_end ?_
        have hs : sgnAt a = 0 := if_neg (by rw [byt_nil (str_nil.1 (Decidable.not_not.1 h2))]; decide)
        exact ⟨_, ⟨false, (fun h => by cases h), (fun _ => hs), (fun h => by cases h), trivial, rfl⟩, Wk.sub (And.intro rfl (And.intro (by first | rfl | (simp)) (trivial))) (trivial)⟩
    rintro _ ⟨ng, hng1, hng0, hngz, -, rfl⟩
    refine awp_seqJ (J := fun σ => ∃ (b : ByteArray), (b.size = a.size - sgnAt a) ∧ (∀ i, i < b.size → byt b i = byt a (sgnAt a + i)) ∧ True ∧ σ = ⟨[(0, (AV.lit (.string (b)))), (3, (AV.lit (.bool (ng))))], []⟩) ?ja1 ?jb1
    case ja1 =>
      refine awp_seq fun K4 hK4 => ?_
      refine awp_region rfl ?_
      refine o_move (AV.lit (.bool (ng))) Gd.none rfl ?_
      refine aops_end ?_
      refine hK4 _ ?_
      refine awp_condB (b := ng) rfl (fun h3 => ?_) (fun h3 => ?_)
      · refine awp_region rfl ?_
        refine o_move (AV.lit (.string (a))) Gd.none rfl ?_
        refine n_sliceSL (a) (1) ((a).size) Gd.none Wh_tT9 rfl rfl (by have hz := hngz h3; omega) (by rfl) ?_
        refine o_assign (AV.lit (.string ((a).extract (1) ((a).size)))) Gd.none rfl ?_
        refine aops_end ?_
        have hs := hng1 h3
        have hz := hngz h3
        exact ⟨_, ⟨(a).extract (1) ((a).size), (by rw [extract_size a (by omega) (by omega)]; omega), (fun i hi => by rw [extract_size a (by omega) (by omega)] at hi; rw [byt_extract a (by omega) (by omega), hs]), trivial, rfl⟩, Wk.sub (And.intro (by first | rfl | (simp)) (And.intro rfl (trivial))) (trivial)⟩
      · refine awp_skip ?_
        have hs := hng0 h3
        exact ⟨_, ⟨a, (by omega), (fun i hi => by rw [hs, Nat.zero_add]), trivial, rfl⟩, Wk.sub (And.intro (by first | rfl | (simp)) (And.intro rfl (trivial))) (trivial)⟩
    rintro _ ⟨b, hbs, hb, -, rfl⟩
    refine awp_seq fun K5 hK5 => ?_
    refine awp_seq fun K6 hK6 => ?_
    refine awp_region rfl ?_
    refine o_move (AV.lit (.string (b))) Gd.none rfl ?_
    refine o_eqlS (a := (b)) (c := (({data := #[]} : ByteArray))) Gd.none rfl rfl ?_
    refine o_move (bp ((b).toList = (({data := #[]} : ByteArray)).toList)) Gd.none rfl ?_
    refine o_splitP (q := (b).toList = (({data := #[]} : ByteArray)).toList) 21 rfl (fun h4 => ?_) (fun h4 => ?_)
    · refine o_skip (b := decide ((b).toList = (({data := #[]} : ByteArray)).toList)) rfl rfl (decide_eq_true h4) ?_
      refine o_skip (b := decide ((b).toList = (({data := #[]} : ByteArray)).toList)) rfl rfl (decide_eq_true h4) ?_
      refine o_skip (b := decide ((b).toList = (({data := #[]} : ByteArray)).toList)) rfl rfl (decide_eq_true h4) ?_
      refine o_pickT (b := decide ((b).toList = (({data := #[]} : ByteArray)).toList)) (AV.lit (.bool true)) Gd.none rfl (decide_eq_true h4) rfl ?_
      refine o_move (AV.lit (.bool true)) Gd.none rfl ?_
      refine o_skip (b := true) rfl rfl rfl ?_
      refine o_skip (b := true) rfl rfl rfl ?_
      refine o_skip (b := true) rfl rfl rfl ?_
      refine o_skip (b := true) rfl rfl rfl ?_
      refine o_skipU rfl rfl ?_
      refine o_skipU rfl rfl ?_
      refine o_skipU rfl rfl ?_
      refine o_skipU rfl rfl ?_
      refine o_skipU rfl rfl ?_
      refine o_skipU rfl rfl ?_
      refine o_skip (b := true) rfl rfl rfl ?_
      refine o_pickT (b := true) (AV.lit (.bool true)) Gd.none rfl rfl rfl ?_
      refine aops_end ?_
      refine hK6 _ ?_
      refine awp_condB (b := true) rfl (fun _ => ?_) (fun hh => absurd (hh.symm.trans rfl) (by decide))
      refine awp_seq fun K7 hK7 => ?_
      refine awp_region rfl ?_
      refine o_assign (AV.lit (.bool false)) Gd.none rfl ?_
      refine aops_end ?_
      refine hK7 _ ?_
      refine awp_ret ?_
      refine post_ret ⟨[(AV.lit (.bool false))], And.intro (AV.le_refl _) (trivial), rfl, ?_⟩
      refine bl_eq (okS_no fun h => ?_)
      obtain ⟨o1, o2, o3, o4⟩ := h
      first | omega | (have := str_nil.1 (by assumption); omega) | (have e := hb 0 (by omega); rw [Nat.add_zero] at e; omega) | (have e := hb 0 (by omega); have := hng1 (by assumption); rw [Nat.add_zero] at e; omega) | (have e := o4 (sgnAt a + pos) (by omega) (by omega); rw [← hb pos (by omega)] at e; have e2 := utf8_lo (a := b) (pos := pos) (by omega) (by omega); simp only [e2] at *; omega)
    · have hne := mt str_nil.2 h4
      refine o_move (AV.lit (.string (b))) (Gd.yes rfl rfl (decide_eq_false h4)) rfl ?_
      refine n_lenS (b) (Gd.yes rfl rfl (decide_eq_false h4)) rfl Wh_tT9 ?_
      refine n_gtr ((b).size) (2000) (Gd.yes rfl rfl (decide_eq_false h4)) rfl rfl ?_
      refine o_pickF (b := decide ((b).toList = (({data := #[]} : ByteArray)).toList)) (bp ((2000) < ((b).size))) Gd.none rfl (decide_eq_false h4) rfl ?_
      refine o_move (bp ((2000) < ((b).size))) Gd.none rfl ?_
      refine o_splitP (q := (2000) < ((b).size)) 26 rfl (fun h5 => ?_) (fun h5 => ?_)
      · refine o_skip (b := decide ((2000) < ((b).size))) rfl rfl (decide_eq_true h5) ?_
        refine o_skip (b := decide ((2000) < ((b).size))) rfl rfl (decide_eq_true h5) ?_
        refine o_skip (b := decide ((2000) < ((b).size))) rfl rfl (decide_eq_true h5) ?_
        refine o_skip (b := decide ((2000) < ((b).size))) rfl rfl (decide_eq_true h5) ?_
        refine o_skipU rfl rfl ?_
        refine o_skipU rfl rfl ?_
        refine o_skipU rfl rfl ?_
        refine o_skipU rfl rfl ?_
        refine o_skipU rfl rfl ?_
        refine o_skipU rfl rfl ?_
        refine o_skip (b := decide ((2000) < ((b).size))) rfl rfl (decide_eq_true h5) ?_
        refine o_pickT (b := decide ((2000) < ((b).size))) (AV.lit (.bool true)) Gd.none rfl (decide_eq_true h5) rfl ?_
        refine aops_end ?_
        refine hK6 _ ?_
        refine awp_condB (b := true) rfl (fun _ => ?_) (fun hh => absurd (hh.symm.trans rfl) (by decide))
        refine awp_seq fun K8 hK8 => ?_
        refine awp_region rfl ?_
        refine o_assign (AV.lit (.bool false)) Gd.none rfl ?_
        refine aops_end ?_
        refine hK8 _ ?_
        refine awp_ret ?_
        refine post_ret ⟨[(AV.lit (.bool false))], And.intro (AV.le_refl _) (trivial), rfl, ?_⟩
        refine bl_eq (okS_no fun h => ?_)
        obtain ⟨o1, o2, o3, o4⟩ := h
        first | omega | (have := str_nil.1 (by assumption); omega) | (have e := hb 0 (by omega); rw [Nat.add_zero] at e; omega) | (have e := hb 0 (by omega); have := hng1 (by assumption); rw [Nat.add_zero] at e; omega) | (have e := o4 (sgnAt a + pos) (by omega) (by omega); rw [← hb pos (by omega)] at e; have e2 := utf8_lo (a := b) (pos := pos) (by omega) (by omega); simp only [e2] at *; omega)
      · refine o_move (AV.lit (.string (b))) (Gd.yes rfl rfl (decide_eq_false h5)) rfl ?_
        refine n_indexS (b) (0) (Gd.yes rfl rfl (decide_eq_false h5)) Wh_tT9 rfl rfl (by omega) ?_
        refine n_eql (byt (b) (0)) (48) (Gd.yes rfl rfl (decide_eq_false h5)) rfl rfl ?_
        refine o_move (bp ((byt (b) (0)) = (48))) (Gd.yes rfl rfl (decide_eq_false h5)) rfl ?_
        refine o_splitP (q := (byt (b) (0)) = (48)) 30 rfl (fun h6 => ?_) (fun h6 => ?_)
        · refine o_move (AV.lit (.string (b))) (Gd.yes rfl rfl (decide_eq_true h6)) rfl ?_
          refine n_lenS (b) (Gd.yes rfl rfl (decide_eq_true h6)) rfl Wh_tT9 ?_
          refine n_gtr ((b).size) (1) (Gd.yes rfl rfl (decide_eq_true h6)) rfl rfl ?_
          refine o_move (bp ((1) < ((b).size))) (Gd.yes rfl rfl (decide_eq_true h6)) rfl ?_
          refine o_splitP (q := (1) < ((b).size)) 34 rfl (fun h7 => ?_) (fun h7 => ?_)
          · refine o_skip (b := decide ((1) < ((b).size))) rfl rfl (decide_eq_true h7) ?_
            refine o_pickT (b := decide ((1) < ((b).size))) (AV.lit (.bool true)) (Gd.yes rfl rfl (decide_eq_true h6)) rfl (decide_eq_true h7) rfl ?_
            refine o_pickT (b := decide ((byt (b) (0)) = (48))) (AV.lit (.bool true)) (Gd.yes rfl rfl (decide_eq_false h5)) rfl (decide_eq_true h6) rfl ?_
            refine o_pickF (b := decide ((2000) < ((b).size))) (AV.lit (.bool true)) Gd.none rfl (decide_eq_false h5) rfl ?_
            refine aops_end ?_
            refine hK6 _ ?_
            refine awp_condB (b := true) rfl (fun _ => ?_) (fun hh => absurd (hh.symm.trans rfl) (by decide))
            refine awp_seq fun K9 hK9 => ?_
            refine awp_region rfl ?_
            refine o_assign (AV.lit (.bool false)) Gd.none rfl ?_
            refine aops_end ?_
            refine hK9 _ ?_
            refine awp_ret ?_
            refine post_ret ⟨[(AV.lit (.bool false))], And.intro (AV.le_refl _) (trivial), rfl, ?_⟩
            refine bl_eq (okS_no fun h => ?_)
            obtain ⟨o1, o2, o3, o4⟩ := h
            first | omega | (have := str_nil.1 (by assumption); omega) | (have e := hb 0 (by omega); rw [Nat.add_zero] at e; omega) | (have e := hb 0 (by omega); have := hng1 (by assumption); rw [Nat.add_zero] at e; omega) | (have e := o4 (sgnAt a + pos) (by omega) (by omega); rw [← hb pos (by omega)] at e; have e2 := utf8_lo (a := b) (pos := pos) (by omega) (by omega); simp only [e2] at *; omega)
          · refine o_move (AV.lit (.bool (ng))) (Gd.yes rfl rfl (decide_eq_false h7)) rfl ?_
            refine o_pickF (b := decide ((1) < ((b).size))) (AV.lit (.bool (ng))) (Gd.yes rfl rfl (decide_eq_true h6)) rfl (decide_eq_false h7) rfl ?_
            refine o_pickT (b := decide ((byt (b) (0)) = (48))) (AV.lit (.bool (ng))) (Gd.yes rfl rfl (decide_eq_false h5)) rfl (decide_eq_true h6) rfl ?_
            refine o_pickF (b := decide ((2000) < ((b).size))) (AV.lit (.bool (ng))) Gd.none rfl (decide_eq_false h5) rfl ?_
            refine aops_end ?_
            refine hK6 _ ?_
            refine awp_condB (b := ng) rfl (fun h8 => ?_) (fun h8 => ?_)
            · refine awp_seq fun K10 hK10 => ?_
              refine awp_region rfl ?_
              refine o_assign (AV.lit (.bool false)) Gd.none rfl ?_
              refine aops_end ?_
              refine hK10 _ ?_
              refine awp_ret ?_
              refine post_ret ⟨[(AV.lit (.bool false))], And.intro (AV.le_refl _) (trivial), rfl, ?_⟩
              refine bl_eq (okS_no fun h => ?_)
              obtain ⟨o1, o2, o3, o4⟩ := h
              first | omega | (have := str_nil.1 (by assumption); omega) | (have e := hb 0 (by omega); rw [Nat.add_zero] at e; omega) | (have e := hb 0 (by omega); have := hng1 (by assumption); rw [Nat.add_zero] at e; omega) | (have e := o4 (sgnAt a + pos) (by omega) (by omega); rw [← hb pos (by omega)] at e; have e2 := utf8_lo (a := b) (pos := pos) (by omega) (by omega); simp only [e2] at *; omega)
            · refine awp_skip ?_
              refine hK5 _ ?_
              refine awp_seq fun K11 hK11 => ?_
              refine awp_seq fun K12 hK12 => ?_
              refine awp_region rfl ?_
              refine o_move (AV.lit (.string (b))) Gd.none rfl ?_
              refine o_iterNew 201 Gd.none Wh_tT9 rfl rfl ?_
              refine aops_end ?_
              refine hK12 _ ?_
              refine awp_block ?_
              refine awp_loopR (fun κ σ => ∃ (pos : Nat), (pos ≤ b.size) ∧ (∀ k, k < pos → 48 ≤ byt b k ∧ byt b k ≤ 57) ∧ (b.size - pos) = κ ∧ σ = ⟨[(40, (AV.ref 201 (0)))], [(201, (AO.blk (.stringIter (b) (pos))))]⟩) ⟨_, _, ⟨0, (by omega), (fun k hk => by omega), rfl, rfl⟩, ?wk2⟩ ?rd2
              case wk2 =>
                exact Wk.sub (And.intro rfl (trivial)) (And.intro (by first | rfl | exact congrArg (fun x => some (AO.blk (.stringIter _ x))) (by omega)) (trivial))
              rintro κ _ ⟨pos, hp, hv, rfl, rfl⟩
              refine awp_seq fun K13 hK13 => ?_
              refine awp_region rfl ?_
              refine aops_em (pos < (b).size) (fun h9 => ?_) (fun h9 => ?_)
              · refine o_iterNext (((Utf8.decode (b) (pos)).1 : Int)) (pos + (Utf8.decode (b) (pos)).2) [(201, (AO.blk (.stringIter (b) (pos + (Utf8.decode (b) (pos)).2))))] Gd.none rfl rfl h9 rfl rfl rfl ?_
                refine o_extract (AV.lit (.bool true)) Gd.none rfl rfl ?_
                refine aops_end ?_
                refine hK13 _ ?_
                refine awp_seq fun K14 hK14 => ?_
                refine awp_condB (b := true) rfl (fun _ => ?_) (fun hh => absurd (hh.symm.trans rfl) (by decide))
                refine awp_skip ?_
                refine hK14 _ ?_
                refine awp_block ?_
                refine awp_seq fun K15 hK15 => ?_
                refine awp_region rfl ?_
                refine o_extract (AV.lit (.int .i32 (((Utf8.decode (b) (pos)).1 : Int)))) Gd.none rfl rfl ?_
                refine o_assign (AV.lit (.int .i32 (((Utf8.decode (b) (pos)).1 : Int)))) Gd.none rfl ?_
                refine aops_end ?_
                refine hK15 _ ?_
                refine awp_seq fun K16 hK16 => ?_
                refine awp_region rfl ?_
                refine o_move (AV.lit (.int .i32 (((Utf8.decode (b) (pos)).1 : Int)))) Gd.none rfl ?_
                refine o_lss (a := (((Utf8.decode (b) (pos)).1 : Int))) (c := (((48 : Nat) : Int))) Gd.none rfl rfl ?_
                refine o_move (bp ((((Utf8.decode (b) (pos)).1 : Int)) < (((48 : Nat) : Int)))) Gd.none rfl ?_
                refine o_splitP (q := (((Utf8.decode (b) (pos)).1 : Int)) < (((48 : Nat) : Int))) 46 rfl (fun h10 => ?_) (fun h10 => ?_)
                · refine o_skip (b := decide ((((Utf8.decode (b) (pos)).1 : Int)) < (((48 : Nat) : Int)))) rfl rfl (decide_eq_true h10) ?_
                  refine o_skip (b := decide ((((Utf8.decode (b) (pos)).1 : Int)) < (((48 : Nat) : Int)))) rfl rfl (decide_eq_true h10) ?_
                  refine o_pickT (b := decide ((((Utf8.decode (b) (pos)).1 : Int)) < (((48 : Nat) : Int)))) (AV.lit (.bool true)) Gd.none rfl (decide_eq_true h10) rfl ?_
                  refine aops_end ?_
                  refine hK16 _ ?_
                  refine awp_condB (b := true) rfl (fun _ => ?_) (fun hh => absurd (hh.symm.trans rfl) (by decide))
                  refine awp_seq fun K17 hK17 => ?_
                  refine awp_region rfl ?_
                  refine o_assign (AV.lit (.bool false)) Gd.none rfl ?_
                  refine aops_end ?_
                  refine hK17 _ ?_
                  refine awp_ret ?_
                  refine post_ret ⟨[(AV.lit (.bool false))], And.intro (AV.le_refl _) (trivial), rfl, ?_⟩
                  refine bl_eq (okS_no fun h => ?_)
                  obtain ⟨o1, o2, o3, o4⟩ := h
                  first | omega | (have := str_nil.1 (by assumption); omega) | (have e := hb 0 (by omega); rw [Nat.add_zero] at e; omega) | (have e := hb 0 (by omega); have := hng1 (by assumption); rw [Nat.add_zero] at e; omega) | (have e := o4 (sgnAt a + pos) (by omega) (by omega); rw [← hb pos (by omega)] at e; have e2 := utf8_lo (a := b) (pos := pos) (by omega) (by omega); simp only [e2] at *; omega)
                · refine o_move (AV.lit (.int .i32 (((Utf8.decode (b) (pos)).1 : Int)))) (Gd.yes rfl rfl (decide_eq_false h10)) rfl ?_
                  refine o_gtr (a := (((Utf8.decode (b) (pos)).1 : Int))) (c := (((57 : Nat) : Int))) (Gd.yes rfl rfl (decide_eq_false h10)) rfl rfl ?_
                  refine o_pickF (b := decide ((((Utf8.decode (b) (pos)).1 : Int)) < (((48 : Nat) : Int)))) (bp ((((57 : Nat) : Int)) < (((Utf8.decode (b) (pos)).1 : Int)))) Gd.none rfl (decide_eq_false h10) rfl ?_
                  refine aops_end ?_
                  refine hK16 _ ?_
                  refine awp_condQ (q := (((57 : Nat) : Int)) < (((Utf8.decode (b) (pos)).1 : Int))) rfl (fun h11 => ?_) (fun h11 => ?_)
                  · refine awp_seq fun K18 hK18 => ?_
                    refine awp_region rfl ?_
                    refine o_assign (AV.lit (.bool false)) Gd.none rfl ?_
                    refine aops_end ?_
                    refine hK18 _ ?_
                    refine awp_ret ?_
                    refine post_ret ⟨[(AV.lit (.bool false))], And.intro (AV.le_refl _) (trivial), rfl, ?_⟩
                    refine bl_eq (okS_no fun h => ?_)
                    obtain ⟨o1, o2, o3, o4⟩ := h
                    first | omega | (have := str_nil.1 (by assumption); omega) | (have e := hb 0 (by omega); rw [Nat.add_zero] at e; omega) | (have e := hb 0 (by omega); have := hng1 (by assumption); rw [Nat.add_zero] at e; omega) | (have e := o4 (sgnAt a + pos) (by omega) (by omega); rw [← hb pos (by omega)] at e; have e2 := utf8_lo (a := b) (pos := pos) (by omega) (by omega); simp only [e2] at *; omega)
                  · refine awp_skip ?_
                    have hu := utf8_dig (a := b) (pos := pos) (by assumption) (by omega)
                    simp only [hu] at *
                    refine ⟨_, _, ?lt, ⟨pos + 1, (by omega), (fun k hk => by by_cases e : k = pos; subst e; omega; exact hv k (by omega)), rfl, rfl⟩, ?wk⟩
                    case lt => omega
                    case wk => exact Wk.sub (And.intro rfl (trivial)) (And.intro (by first | rfl | exact congrArg (fun x => some (AO.blk (.stringIter _ x))) (by omega)) (trivial))
              · refine o_iterEnd Gd.none rfl rfl h9 ?_
                refine o_extract (AV.lit (.bool false)) Gd.none rfl rfl ?_
                refine aops_end ?_
                refine hK13 _ ?_
                refine awp_seq fun K19 hK19 => ?_
                refine awp_condB (b := false) rfl (fun hh => absurd (hh.symm.trans rfl) (by decide)) (fun _ => ?_)
                refine awp_exit ?_
                refine hK11 _ ?_
                refine awp_seq fun K20 hK20 => ?_
                refine awp_region rfl ?_
                refine o_assign (AV.lit (.bool true)) Gd.none rfl ?_
                refine aops_end ?_
                refine hK20 _ ?_
                refine awp_ret ?_
                refine post_ret ⟨[(AV.lit (.bool true))], And.intro (AV.le_refl _) (trivial), rfl, ?_⟩
                have e0 := hb 0 (by omega)
                rw [Nat.add_zero] at e0
                refine bl_eq (okS_yes ⟨by omega, by omega, fun hh => ?_, fun i hi1 hi2 => ?_⟩)
                · first | omega | (have := hng0 (by assumption); omega)
                · have := hv (i - sgnAt a) (by omega)
                  rw [hb _ (by omega), show sgnAt a + (i - sgnAt a) = i by omega] at this
                  exact this
        · refine o_skip (b := decide ((byt (b) (0)) = (48))) rfl rfl (decide_eq_false h6) ?_
          refine o_skip (b := decide ((byt (b) (0)) = (48))) rfl rfl (decide_eq_false h6) ?_
          refine o_skip (b := decide ((byt (b) (0)) = (48))) rfl rfl (decide_eq_false h6) ?_
          refine o_skip (b := decide ((byt (b) (0)) = (48))) rfl rfl (decide_eq_false h6) ?_
          refine o_skipU rfl rfl ?_
          refine o_skip (b := decide ((byt (b) (0)) = (48))) rfl rfl (decide_eq_false h6) ?_
          refine o_pickF (b := decide ((byt (b) (0)) = (48))) (AV.lit (.bool false)) (Gd.yes rfl rfl (decide_eq_false h5)) rfl (decide_eq_false h6) rfl ?_
          refine o_pickF (b := decide ((2000) < ((b).size))) (AV.lit (.bool false)) Gd.none rfl (decide_eq_false h5) rfl ?_
          refine aops_end ?_
          refine hK6 _ ?_
          refine awp_condB (b := false) rfl (fun hh => absurd (hh.symm.trans rfl) (by decide)) (fun _ => ?_)
          refine awp_skip ?_
          refine hK5 _ ?_
          refine awp_seq fun K21 hK21 => ?_
          refine awp_seq fun K22 hK22 => ?_
          refine awp_region rfl ?_
          refine o_move (AV.lit (.string (b))) Gd.none rfl ?_
          refine o_iterNew 201 Gd.none Wh_tT9 rfl rfl ?_
          refine aops_end ?_
          refine hK22 _ ?_
          refine awp_block ?_
          refine awp_loopR (fun κ σ => ∃ (pos : Nat), (pos ≤ b.size) ∧ (∀ k, k < pos → 48 ≤ byt b k ∧ byt b k ≤ 57) ∧ (b.size - pos) = κ ∧ σ = ⟨[(40, (AV.ref 201 (0)))], [(201, (AO.blk (.stringIter (b) (pos))))]⟩) ⟨_, _, ⟨0, (by omega), (fun k hk => by omega), rfl, rfl⟩, ?wk3⟩ ?rd3
          case wk3 =>
            exact Wk.sub (And.intro rfl (trivial)) (And.intro (by first | rfl | exact congrArg (fun x => some (AO.blk (.stringIter _ x))) (by omega)) (trivial))
          rintro κ _ ⟨pos, hp, hv, rfl, rfl⟩
          refine awp_seq fun K23 hK23 => ?_
          refine awp_region rfl ?_
          refine aops_em (pos < (b).size) (fun h12 => ?_) (fun h12 => ?_)
          · refine o_iterNext (((Utf8.decode (b) (pos)).1 : Int)) (pos + (Utf8.decode (b) (pos)).2) [(201, (AO.blk (.stringIter (b) (pos + (Utf8.decode (b) (pos)).2))))] Gd.none rfl rfl h12 rfl rfl rfl ?_
            refine o_extract (AV.lit (.bool true)) Gd.none rfl rfl ?_
            refine aops_end ?_
            refine hK23 _ ?_
            refine awp_seq fun K24 hK24 => ?_
            refine awp_condB (b := true) rfl (fun _ => ?_) (fun hh => absurd (hh.symm.trans rfl) (by decide))
            refine awp_skip ?_
            refine hK24 _ ?_
            refine awp_block ?_
            refine awp_seq fun K25 hK25 => ?_
            refine awp_region rfl ?_
            refine o_extract (AV.lit (.int .i32 (((Utf8.decode (b) (pos)).1 : Int)))) Gd.none rfl rfl ?_
            refine o_assign (AV.lit (.int .i32 (((Utf8.decode (b) (pos)).1 : Int)))) Gd.none rfl ?_
            refine aops_end ?_
            refine hK25 _ ?_
            refine awp_seq fun K26 hK26 => ?_
            refine awp_region rfl ?_
            refine o_move (AV.lit (.int .i32 (((Utf8.decode (b) (pos)).1 : Int)))) Gd.none rfl ?_
            refine o_lss (a := (((Utf8.decode (b) (pos)).1 : Int))) (c := (((48 : Nat) : Int))) Gd.none rfl rfl ?_
            refine o_move (bp ((((Utf8.decode (b) (pos)).1 : Int)) < (((48 : Nat) : Int)))) Gd.none rfl ?_
            refine o_splitP (q := (((Utf8.decode (b) (pos)).1 : Int)) < (((48 : Nat) : Int))) 46 rfl (fun h13 => ?_) (fun h13 => ?_)
            · refine o_skip (b := decide ((((Utf8.decode (b) (pos)).1 : Int)) < (((48 : Nat) : Int)))) rfl rfl (decide_eq_true h13) ?_
              refine o_skip (b := decide ((((Utf8.decode (b) (pos)).1 : Int)) < (((48 : Nat) : Int)))) rfl rfl (decide_eq_true h13) ?_
              refine o_pickT (b := decide ((((Utf8.decode (b) (pos)).1 : Int)) < (((48 : Nat) : Int)))) (AV.lit (.bool true)) Gd.none rfl (decide_eq_true h13) rfl ?_
              refine aops_end ?_
              refine hK26 _ ?_
              refine awp_condB (b := true) rfl (fun _ => ?_) (fun hh => absurd (hh.symm.trans rfl) (by decide))
              refine awp_seq fun K27 hK27 => ?_
              refine awp_region rfl ?_
              refine o_assign (AV.lit (.bool false)) Gd.none rfl ?_
              refine aops_end ?_
              refine hK27 _ ?_
              refine awp_ret ?_
              refine post_ret ⟨[(AV.lit (.bool false))], And.intro (AV.le_refl _) (trivial), rfl, ?_⟩
              refine bl_eq (okS_no fun h => ?_)
              obtain ⟨o1, o2, o3, o4⟩ := h
              first | omega | (have := str_nil.1 (by assumption); omega) | (have e := hb 0 (by omega); rw [Nat.add_zero] at e; omega) | (have e := hb 0 (by omega); have := hng1 (by assumption); rw [Nat.add_zero] at e; omega) | (have e := o4 (sgnAt a + pos) (by omega) (by omega); rw [← hb pos (by omega)] at e; have e2 := utf8_lo (a := b) (pos := pos) (by omega) (by omega); simp only [e2] at *; omega)
            · refine o_move (AV.lit (.int .i32 (((Utf8.decode (b) (pos)).1 : Int)))) (Gd.yes rfl rfl (decide_eq_false h13)) rfl ?_
              refine o_gtr (a := (((Utf8.decode (b) (pos)).1 : Int))) (c := (((57 : Nat) : Int))) (Gd.yes rfl rfl (decide_eq_false h13)) rfl rfl ?_
              refine o_pickF (b := decide ((((Utf8.decode (b) (pos)).1 : Int)) < (((48 : Nat) : Int)))) (bp ((((57 : Nat) : Int)) < (((Utf8.decode (b) (pos)).1 : Int)))) Gd.none rfl (decide_eq_false h13) rfl ?_
              refine aops_end ?_
              refine hK26 _ ?_
              refine awp_condQ (q := (((57 : Nat) : Int)) < (((Utf8.decode (b) (pos)).1 : Int))) rfl (fun h14 => ?_) (fun h14 => ?_)
              · refine awp_seq fun K28 hK28 => ?_
                refine awp_region rfl ?_
                refine o_assign (AV.lit (.bool false)) Gd.none rfl ?_
                refine aops_end ?_
                refine hK28 _ ?_
                refine awp_ret ?_
                refine post_ret ⟨[(AV.lit (.bool false))], And.intro (AV.le_refl _) (trivial), rfl, ?_⟩
                refine bl_eq (okS_no fun h => ?_)
                obtain ⟨o1, o2, o3, o4⟩ := h
                first | omega | (have := str_nil.1 (by assumption); omega) | (have e := hb 0 (by omega); rw [Nat.add_zero] at e; omega) | (have e := hb 0 (by omega); have := hng1 (by assumption); rw [Nat.add_zero] at e; omega) | (have e := o4 (sgnAt a + pos) (by omega) (by omega); rw [← hb pos (by omega)] at e; have e2 := utf8_lo (a := b) (pos := pos) (by omega) (by omega); simp only [e2] at *; omega)
              · refine awp_skip ?_
                have hu := utf8_dig (a := b) (pos := pos) (by assumption) (by omega)
                simp only [hu] at *
                refine ⟨_, _, ?lt, ⟨pos + 1, (by omega), (fun k hk => by by_cases e : k = pos; subst e; omega; exact hv k (by omega)), rfl, rfl⟩, ?wk⟩
                case lt => omega
                case wk => exact Wk.sub (And.intro rfl (trivial)) (And.intro (by first | rfl | exact congrArg (fun x => some (AO.blk (.stringIter _ x))) (by omega)) (trivial))
          · refine o_iterEnd Gd.none rfl rfl h12 ?_
            refine o_extract (AV.lit (.bool false)) Gd.none rfl rfl ?_
            refine aops_end ?_
            refine hK23 _ ?_
            refine awp_seq fun K29 hK29 => ?_
            refine awp_condB (b := false) rfl (fun hh => absurd (hh.symm.trans rfl) (by decide)) (fun _ => ?_)
            refine awp_exit ?_
            refine hK21 _ ?_
            refine awp_seq fun K30 hK30 => ?_
            refine awp_region rfl ?_
            refine o_assign (AV.lit (.bool true)) Gd.none rfl ?_
            refine aops_end ?_
            refine hK30 _ ?_
            refine awp_ret ?_
            refine post_ret ⟨[(AV.lit (.bool true))], And.intro (AV.le_refl _) (trivial), rfl, ?_⟩
            have e0 := hb 0 (by omega)
            rw [Nat.add_zero] at e0
            refine bl_eq (okS_yes ⟨by omega, by omega, fun hh => ?_, fun i hi1 hi2 => ?_⟩)
            · first | omega | (have := hng0 (by assumption); omega)
            · have := hv (i - sgnAt a) (by omega)
              rw [hb _ (by omega), show sgnAt a + (i - sgnAt a) = i by omega] at this
              exact this

end Go.Proofs.YtbilndahjkimkaaDoor

set_option linter.unusedVariables false
set_option linter.unusedSimpArgs false
namespace Go.Proofs.YtbilndahjkimkaaDoor
open Go Go.Ab Go.Mth
theorem Wf_tF24_0 : tyField cx.P 24 0 = some (0, 3) := by kernel_rfl
theorem Wf_tS3 : tySc cx.P 3 = true := by kernel_rfl
theorem Wf_tF24_1 : tyField cx.P 24 1 = some (1, 22) := by kernel_rfl
theorem Wf_tS22 : tySc cx.P 22 = true := by kernel_rfl
theorem Wf_tU22 : cx.P.underlying 22 = some (.slice 3) := by kernel_rfl
theorem Wf_tF24_2 : tyField cx.P 24 2 = some (2, 22) := by kernel_rfl
theorem Wf_tE22 : tyElem cx.P 22 = some (3, 1, 8) := by kernel_rfl
theorem Wf_tA36 : tyAgg cx.P 36 = some 2 := by kernel_rfl
theorem Wf_tC83 : callable cx.P 83 = true := by kernel_rfl
theorem Wf_tO36 : tyZero cx.P 36 = some [(Go.Value.bool false), (Go.Value.slice none 0 0)] := by kernel_rfl
theorem Wf_tZ36 : tySize cx.P 36 = some 2 := by kernel_rfl
theorem Wf_tA24 : tyAgg cx.P 24 = some 3 := by kernel_rfl
theorem Wf_tC52 : callable cx.P 52 = true := by kernel_rfl
theorem Wf_tC38 : callable cx.P 38 = true := by kernel_rfl
theorem Wf_tC37 : callable cx.P 37 = true := by kernel_rfl
theorem Wf_tC34 : callable cx.P 34 = true := by kernel_rfl
theorem c_gValid (m : MapM) : ECalls cx 14 [(mapV m)] (.lit (.bool (okM m))) := by
  refine ecalls_of_awp Tryd.func14 (c := _) rfl (Nat.le_of_ble_eq_true rfl) ?_
  show awp cx 83 _ (postF cx Tryd.f14 _) ⟨[(0, (mapV m))], []⟩
  refine awp_seq fun K0 hK0 => ?_
  refine awp_region rfl ?_
  refine o_box 2 [(AV.lit (.int .i64 (m.mod))), (AV.sl 1 (is .i64 (m.mul))), (AV.sl 1 (is .i64 (m.add)))] Gd.none rfl rfl ?_
  refine o_assign (AV.lit (.bool false)) Gd.none rfl ?_
  refine aops_end ?_
  refine hK0 _ ?_
  refine awp_seq fun K1 hK1 => ?_
  refine awp_seq fun K2 hK2 => ?_
  refine awp_region rfl ?_
  refine o_fieldRef 0 Gd.none Wf_tF24_0 rfl rfl ?_
  refine o_loadS (AV.lit (.int .i64 (m.mod))) Gd.none Wf_tS3 rfl rfl rfl ?_
  refine o_lss (a := (m.mod)) (c := (((2 : Nat) : Int))) Gd.none rfl rfl ?_
  refine o_move (bp ((m.mod) < (((2 : Nat) : Int)))) Gd.none rfl ?_
  refine o_splitP (q := (m.mod) < (((2 : Nat) : Int))) 7 rfl (fun h1 => ?_) (fun h1 => ?_)
  · refine o_skip (b := decide ((m.mod) < (((2 : Nat) : Int)))) rfl rfl (decide_eq_true h1) ?_
    refine o_skip (b := decide ((m.mod) < (((2 : Nat) : Int)))) rfl rfl (decide_eq_true h1) ?_
    refine o_skip (b := decide ((m.mod) < (((2 : Nat) : Int)))) rfl rfl (decide_eq_true h1) ?_
    refine o_pickT (b := decide ((m.mod) < (((2 : Nat) : Int)))) (AV.lit (.bool true)) Gd.none rfl (decide_eq_true h1) rfl ?_
    refine o_move (AV.lit (.bool true)) Gd.none rfl ?_
    refine o_skip (b := true) rfl rfl rfl ?_
    refine o_skip (b := true) rfl rfl rfl ?_
    refine o_skip (b := true) rfl rfl rfl ?_
    refine o_skip (b := true) rfl rfl rfl ?_
    refine o_skip (b := true) rfl rfl rfl ?_
    refine o_skip (b := true) rfl rfl rfl ?_
    refine o_pickT (b := true) (AV.lit (.bool true)) Gd.none rfl rfl rfl ?_
    refine o_move (AV.lit (.bool true)) Gd.none rfl ?_
    refine o_skip (b := true) rfl rfl rfl ?_
    refine o_skip (b := true) rfl rfl rfl ?_
    refine o_skip (b := true) rfl rfl rfl ?_
    refine o_skip (b := true) rfl rfl rfl ?_
    refine o_skip (b := true) rfl rfl rfl ?_
    refine o_skip (b := true) rfl rfl rfl ?_
    refine o_pickT (b := true) (AV.lit (.bool true)) Gd.none rfl rfl rfl ?_
    refine aops_end ?_
    refine hK2 _ ?_
    refine awp_condB (b := true) rfl (fun _ => ?_) (fun hh => absurd (hh.symm.trans rfl) (by decide))
    refine awp_seq fun K3 hK3 => ?_
    refine awp_region rfl ?_
    refine o_assign (AV.lit (.bool false)) Gd.none rfl ?_
    refine aops_end ?_
    refine hK3 _ ?_
    refine awp_ret ?_
    refine post_ret ⟨[(AV.lit (.bool false))], And.intro (AV.le_refl _) (trivial), rfl, ?_⟩
    refine bl_eq (okM_no fun h => ?_)
    obtain ⟨o1, o2, o3, o4, o5⟩ := h
    first | omega | (have := o5 r (by omega); omega)
  · refine o_fieldRef 0 (Gd.yes rfl rfl (decide_eq_false h1)) Wf_tF24_0 rfl rfl ?_
    refine o_loadS (AV.lit (.int .i64 (m.mod))) (Gd.yes rfl rfl (decide_eq_false h1)) Wf_tS3 rfl rfl rfl ?_
    refine o_gtr (a := (m.mod)) (c := (((12 : Nat) : Int))) (Gd.yes rfl rfl (decide_eq_false h1)) rfl rfl ?_
    refine o_pickF (b := decide ((m.mod) < (((2 : Nat) : Int)))) (bp ((((12 : Nat) : Int)) < (m.mod))) Gd.none rfl (decide_eq_false h1) rfl ?_
    refine o_move (bp ((((12 : Nat) : Int)) < (m.mod))) Gd.none rfl ?_
    refine o_splitP (q := (((12 : Nat) : Int)) < (m.mod)) 12 rfl (fun h2 => ?_) (fun h2 => ?_)
    · refine o_skip (b := decide ((((12 : Nat) : Int)) < (m.mod))) rfl rfl (decide_eq_true h2) ?_
      refine o_skip (b := decide ((((12 : Nat) : Int)) < (m.mod))) rfl rfl (decide_eq_true h2) ?_
      refine o_skip (b := decide ((((12 : Nat) : Int)) < (m.mod))) rfl rfl (decide_eq_true h2) ?_
      refine o_skip (b := decide ((((12 : Nat) : Int)) < (m.mod))) rfl rfl (decide_eq_true h2) ?_
      refine o_skip (b := decide ((((12 : Nat) : Int)) < (m.mod))) rfl rfl (decide_eq_true h2) ?_
      refine o_skip (b := decide ((((12 : Nat) : Int)) < (m.mod))) rfl rfl (decide_eq_true h2) ?_
      refine o_pickT (b := decide ((((12 : Nat) : Int)) < (m.mod))) (AV.lit (.bool true)) Gd.none rfl (decide_eq_true h2) rfl ?_
      refine o_move (AV.lit (.bool true)) Gd.none rfl ?_
      refine o_skip (b := true) rfl rfl rfl ?_
      refine o_skip (b := true) rfl rfl rfl ?_
      refine o_skip (b := true) rfl rfl rfl ?_
      refine o_skip (b := true) rfl rfl rfl ?_
      refine o_skip (b := true) rfl rfl rfl ?_
      refine o_skip (b := true) rfl rfl rfl ?_
      refine o_pickT (b := true) (AV.lit (.bool true)) Gd.none rfl rfl rfl ?_
      refine aops_end ?_
      refine hK2 _ ?_
      refine awp_condB (b := true) rfl (fun _ => ?_) (fun hh => absurd (hh.symm.trans rfl) (by decide))
      refine awp_seq fun K4 hK4 => ?_
      refine awp_region rfl ?_
      refine o_assign (AV.lit (.bool false)) Gd.none rfl ?_
      refine aops_end ?_
      refine hK4 _ ?_
      refine awp_ret ?_
      refine post_ret ⟨[(AV.lit (.bool false))], And.intro (AV.le_refl _) (trivial), rfl, ?_⟩
      refine bl_eq (okM_no fun h => ?_)
      obtain ⟨o1, o2, o3, o4, o5⟩ := h
      first | omega | (have := o5 r (by omega); omega)
    · refine o_fieldRef 1 (Gd.yes rfl rfl (decide_eq_false h2)) Wf_tF24_1 rfl rfl ?_
      refine o_loadS (AV.sl 1 (is .i64 (m.mul))) (Gd.yes rfl rfl (decide_eq_false h2)) Wf_tS22 rfl rfl rfl ?_
      refine i_len (m.mul) (Gd.yes rfl rfl (decide_eq_false h2)) Wf_tU22 rfl ?_
      refine o_fieldRef 0 (Gd.yes rfl rfl (decide_eq_false h2)) Wf_tF24_0 rfl rfl ?_
      refine o_loadS (AV.lit (.int .i64 (m.mod))) (Gd.yes rfl rfl (decide_eq_false h2)) Wf_tS3 rfl rfl rfl ?_
      refine o_neq (a := ((((m.mul).length : Nat) : Int))) (c := (m.mod)) (Gd.yes rfl rfl (decide_eq_false h2)) rfl rfl ?_
      refine o_pickF (b := decide ((((12 : Nat) : Int)) < (m.mod))) (bp (((((m.mul).length : Nat) : Int)) ≠ (m.mod))) Gd.none rfl (decide_eq_false h2) rfl ?_
      refine o_move (bp (((((m.mul).length : Nat) : Int)) ≠ (m.mod))) Gd.none rfl ?_
      refine o_splitP (q := ((((m.mul).length : Nat) : Int)) ≠ (m.mod)) 20 rfl (fun h3 => ?_) (fun h3 => ?_)
      · refine o_skip (b := decide (((((m.mul).length : Nat) : Int)) ≠ (m.mod))) rfl rfl (decide_eq_true h3) ?_
        refine o_skip (b := decide (((((m.mul).length : Nat) : Int)) ≠ (m.mod))) rfl rfl (decide_eq_true h3) ?_
        refine o_skip (b := decide (((((m.mul).length : Nat) : Int)) ≠ (m.mod))) rfl rfl (decide_eq_true h3) ?_
        refine o_skip (b := decide (((((m.mul).length : Nat) : Int)) ≠ (m.mod))) rfl rfl (decide_eq_true h3) ?_
        refine o_skip (b := decide (((((m.mul).length : Nat) : Int)) ≠ (m.mod))) rfl rfl (decide_eq_true h3) ?_
        refine o_skip (b := decide (((((m.mul).length : Nat) : Int)) ≠ (m.mod))) rfl rfl (decide_eq_true h3) ?_
        refine o_pickT (b := decide (((((m.mul).length : Nat) : Int)) ≠ (m.mod))) (AV.lit (.bool true)) Gd.none rfl (decide_eq_true h3) rfl ?_
        refine aops_end ?_
        refine hK2 _ ?_
        refine awp_condB (b := true) rfl (fun _ => ?_) (fun hh => absurd (hh.symm.trans rfl) (by decide))
        refine awp_seq fun K5 hK5 => ?_
        refine awp_region rfl ?_
        refine o_assign (AV.lit (.bool false)) Gd.none rfl ?_
        refine aops_end ?_
        refine hK5 _ ?_
        refine awp_ret ?_
        refine post_ret ⟨[(AV.lit (.bool false))], And.intro (AV.le_refl _) (trivial), rfl, ?_⟩
        refine bl_eq (okM_no fun h => ?_)
        obtain ⟨o1, o2, o3, o4, o5⟩ := h
        first | omega | (have := o5 r (by omega); omega)
      · refine o_fieldRef 2 (Gd.yes rfl rfl (decide_eq_false h3)) Wf_tF24_2 rfl rfl ?_
        refine o_loadS (AV.sl 1 (is .i64 (m.add))) (Gd.yes rfl rfl (decide_eq_false h3)) Wf_tS22 rfl rfl rfl ?_
        refine i_len (m.add) (Gd.yes rfl rfl (decide_eq_false h3)) Wf_tU22 rfl ?_
        refine o_fieldRef 0 (Gd.yes rfl rfl (decide_eq_false h3)) Wf_tF24_0 rfl rfl ?_
        refine o_loadS (AV.lit (.int .i64 (m.mod))) (Gd.yes rfl rfl (decide_eq_false h3)) Wf_tS3 rfl rfl rfl ?_
        refine o_neq (a := ((((m.add).length : Nat) : Int))) (c := (m.mod)) (Gd.yes rfl rfl (decide_eq_false h3)) rfl rfl ?_
        refine o_pickF (b := decide (((((m.mul).length : Nat) : Int)) ≠ (m.mod))) (bp (((((m.add).length : Nat) : Int)) ≠ (m.mod))) Gd.none rfl (decide_eq_false h3) rfl ?_
        refine aops_end ?_
        refine hK2 _ ?_
        refine awp_condQ (q := ((((m.add).length : Nat) : Int)) ≠ (m.mod)) rfl (fun h4 => ?_) (fun h4 => ?_)
        · refine awp_seq fun K6 hK6 => ?_
          refine awp_region rfl ?_
          refine o_assign (AV.lit (.bool false)) Gd.none rfl ?_
          refine aops_end ?_
          refine hK6 _ ?_
          refine awp_ret ?_
          refine post_ret ⟨[(AV.lit (.bool false))], And.intro (AV.le_refl _) (trivial), rfl, ?_⟩
          refine bl_eq (okM_no fun h => ?_)
          obtain ⟨o1, o2, o3, o4, o5⟩ := h
          first | omega | (have := o5 r (by omega); omega)
        · refine awp_skip ?_
          refine hK1 _ ?_
          refine awp_seq fun K7 hK7 => ?_
          refine awp_seq fun K8 hK8 => ?_
          refine awp_region rfl ?_
          refine o_assign (nm .i64 (0)) Gd.none rfl ?_
          refine aops_end ?_
          refine hK8 _ ?_
          refine awp_block ?_
          refine awp_loopR (fun κ σ => ∃ (r : Nat), ((r : Int) ≤ m.mod) ∧ (∀ i : Nat, i < r → 1 ≤ m.mul.getD i 0 ∧ m.mul.getD i 0 ≤ 999 ∧ -999999 ≤ m.add.getD i 0 ∧ m.add.getD i 0 ≤ 999999 ∧ Int.tmod (m.mul.getD i 0 * i + m.add.getD i 0) m.mod = 0) ∧ (m.mod.toNat - r) = κ ∧ σ = ⟨[(1, (AV.ref 2 (0))), (3, (nm .i64 (r)))], [(2, (oM 24 m))]⟩) ⟨_, _, ⟨0, (by omega), (fun i hi => by omega), rfl, rfl⟩, ?wk0⟩ ?rd0
          case wk0 =>
            exact Wk.sub (And.intro rfl (And.intro (by first | rfl | exact congrArg (nm _) (by omega) | exact nm_int (by omega) | exact nm_int (by simp [IntKind.wrap, IntKind.bits, IntKind.signed]; omega)) (trivial))) (And.intro rfl (trivial))
          rintro κ _ ⟨r, hr, hv, rfl, rfl⟩
          refine awp_seq fun K9 hK9 => ?_
          refine awp_seq fun K10 hK10 => ?_
          refine awp_region rfl ?_
          refine o_move (nm .i64 (r)) Gd.none rfl ?_
          refine o_fieldRef 0 Gd.none Wf_tF24_0 rfl rfl ?_
          refine o_loadS (AV.lit (.int .i64 (m.mod))) Gd.none Wf_tS3 rfl rfl rfl ?_
          refine o_lss (a := (((r : Nat) : Int))) (c := (m.mod)) Gd.none rfl rfl ?_
          refine aops_end ?_
          refine hK10 _ ?_
          refine awp_condQ (q := (((r : Nat) : Int)) < (m.mod)) rfl (fun h5 => ?_) (fun h5 => ?_)
          · refine awp_skip ?_
            refine hK9 _ ?_
            refine awp_seq fun K11 hK11 => ?_
            refine awp_block ?_
            refine awp_seq fun K12 hK12 => ?_
            refine awp_regionD rfl ?_
            refine o_fieldRef 1 Gd.none Wf_tF24_1 rfl rfl ?_
            refine o_loadS (AV.sl 1 (is .i64 (m.mul))) Gd.none Wf_tS22 rfl rfl rfl ?_
            refine o_move (nm .i64 (r)) Gd.none rfl ?_
            refine i_index (m.mul) (r) Gd.none Wf_tE22 rfl rfl (by omega) ?_
            refine i_loadI (m.mul) (r) Gd.none Wf_tS3 rfl (by omega) ?_
            refine o_lss (a := ((m.mul).getD (r) 0)) (c := (((1 : Nat) : Int))) Gd.none rfl rfl ?_
            refine o_move (bp (((m.mul).getD (r) 0) < (((1 : Nat) : Int)))) Gd.none rfl ?_
            refine o_splitP (q := ((m.mul).getD (r) 0) < (((1 : Nat) : Int))) 40 rfl (fun h6 => ?_) (fun h6 => ?_)
            · refine o_skip (b := decide (((m.mul).getD (r) 0) < (((1 : Nat) : Int)))) rfl rfl (decide_eq_true h6) ?_
              refine o_skip (b := decide (((m.mul).getD (r) 0) < (((1 : Nat) : Int)))) rfl rfl (decide_eq_true h6) ?_
              refine o_skip (b := decide (((m.mul).getD (r) 0) < (((1 : Nat) : Int)))) rfl rfl (decide_eq_true h6) ?_
              refine o_skip (b := decide (((m.mul).getD (r) 0) < (((1 : Nat) : Int)))) rfl rfl (decide_eq_true h6) ?_
              refine o_skip (b := decide (((m.mul).getD (r) 0) < (((1 : Nat) : Int)))) rfl rfl (decide_eq_true h6) ?_
              refine o_skip (b := decide (((m.mul).getD (r) 0) < (((1 : Nat) : Int)))) rfl rfl (decide_eq_true h6) ?_
              refine o_pickT (b := decide (((m.mul).getD (r) 0) < (((1 : Nat) : Int)))) (AV.lit (.bool true)) Gd.none rfl (decide_eq_true h6) rfl ?_
              refine o_move (AV.lit (.bool true)) Gd.none rfl ?_
              refine o_skip (b := true) rfl rfl rfl ?_
              refine o_skip (b := true) rfl rfl rfl ?_
              refine o_skip (b := true) rfl rfl rfl ?_
              refine o_skip (b := true) rfl rfl rfl ?_
              refine o_skip (b := true) rfl rfl rfl ?_
              refine o_skip (b := true) rfl rfl rfl ?_
              refine o_pickT (b := true) (AV.lit (.bool true)) Gd.none rfl rfl rfl ?_
              refine o_move (AV.lit (.bool true)) Gd.none rfl ?_
              refine o_skip (b := true) rfl rfl rfl ?_
              refine o_skip (b := true) rfl rfl rfl ?_
              refine o_skip (b := true) rfl rfl rfl ?_
              refine o_skip (b := true) rfl rfl rfl ?_
              refine o_skip (b := true) rfl rfl rfl ?_
              refine o_skip (b := true) rfl rfl rfl ?_
              refine o_pickT (b := true) (AV.lit (.bool true)) Gd.none rfl rfl rfl ?_
              refine o_move (AV.lit (.bool true)) Gd.none rfl ?_
              refine o_skip (b := true) rfl rfl rfl ?_
              refine o_skip (b := true) rfl rfl rfl ?_
              refine o_skip (b := true) rfl rfl rfl ?_
              refine o_skip (b := true) rfl rfl rfl ?_
              refine o_skip (b := true) rfl rfl rfl ?_
              refine o_skip (b := true) rfl rfl rfl ?_
              refine o_skip (b := true) rfl rfl rfl ?_
              refine o_skip (b := true) rfl rfl rfl ?_
              refine o_skip (b := true) rfl rfl rfl ?_
              refine o_skip (b := true) rfl rfl rfl ?_
              refine o_skip (b := true) rfl rfl rfl ?_
              refine o_skip (b := true) rfl rfl rfl ?_
              refine o_skip (b := true) rfl rfl rfl ?_
              refine o_skip (b := true) rfl rfl rfl ?_
              refine o_skip (b := true) rfl rfl rfl ?_
              refine o_skip (b := true) rfl rfl rfl ?_
              refine o_skip (b := true) rfl rfl rfl ?_
              refine o_pickT (b := true) (AV.lit (.bool true)) Gd.none rfl rfl rfl ?_
              refine aops_end ⟨by kernel_rfl, ?_⟩
              refine hK12 _ ?_
              refine awp_condB (b := true) rfl (fun _ => ?_) (fun hh => absurd (hh.symm.trans rfl) (by decide))
              refine awp_seq fun K13 hK13 => ?_
              refine awp_region rfl ?_
              refine o_assign (AV.lit (.bool false)) Gd.none rfl ?_
              refine aops_end ?_
              refine hK13 _ ?_
              refine awp_ret ?_
              refine post_ret ⟨[(AV.lit (.bool false))], And.intro (AV.le_refl _) (trivial), rfl, ?_⟩
              refine bl_eq (okM_no fun h => ?_)
              obtain ⟨o1, o2, o3, o4, o5⟩ := h
              first | omega | (have := o5 r (by omega); omega)
            · refine o_fieldRef 1 (Gd.yes rfl rfl (decide_eq_false h6)) Wf_tF24_1 rfl rfl ?_
              refine o_loadS (AV.sl 1 (is .i64 (m.mul))) (Gd.yes rfl rfl (decide_eq_false h6)) Wf_tS22 rfl rfl rfl ?_
              refine o_move (nm .i64 (r)) (Gd.yes rfl rfl (decide_eq_false h6)) rfl ?_
              refine i_index (m.mul) (r) (Gd.yes rfl rfl (decide_eq_false h6)) Wf_tE22 rfl rfl (by omega) ?_
              refine i_loadI (m.mul) (r) (Gd.yes rfl rfl (decide_eq_false h6)) Wf_tS3 rfl (by omega) ?_
              refine o_gtr (a := ((m.mul).getD (r) 0)) (c := (((999 : Nat) : Int))) (Gd.yes rfl rfl (decide_eq_false h6)) rfl rfl ?_
              refine o_pickF (b := decide (((m.mul).getD (r) 0) < (((1 : Nat) : Int)))) (bp ((((999 : Nat) : Int)) < ((m.mul).getD (r) 0))) Gd.none rfl (decide_eq_false h6) rfl ?_
              refine o_move (bp ((((999 : Nat) : Int)) < ((m.mul).getD (r) 0))) Gd.none rfl ?_
              refine o_splitP (q := (((999 : Nat) : Int)) < ((m.mul).getD (r) 0)) 48 rfl (fun h7 => ?_) (fun h7 => ?_)
              · refine o_skip (b := decide ((((999 : Nat) : Int)) < ((m.mul).getD (r) 0))) rfl rfl (decide_eq_true h7) ?_
                refine o_skip (b := decide ((((999 : Nat) : Int)) < ((m.mul).getD (r) 0))) rfl rfl (decide_eq_true h7) ?_
                refine o_skip (b := decide ((((999 : Nat) : Int)) < ((m.mul).getD (r) 0))) rfl rfl (decide_eq_true h7) ?_
                refine o_skip (b := decide ((((999 : Nat) : Int)) < ((m.mul).getD (r) 0))) rfl rfl (decide_eq_true h7) ?_
                refine o_skip (b := decide ((((999 : Nat) : Int)) < ((m.mul).getD (r) 0))) rfl rfl (decide_eq_true h7) ?_
                refine o_skip (b := decide ((((999 : Nat) : Int)) < ((m.mul).getD (r) 0))) rfl rfl (decide_eq_true h7) ?_
                refine o_pickT (b := decide ((((999 : Nat) : Int)) < ((m.mul).getD (r) 0))) (AV.lit (.bool true)) Gd.none rfl (decide_eq_true h7) rfl ?_
                refine o_move (AV.lit (.bool true)) Gd.none rfl ?_
                refine o_skip (b := true) rfl rfl rfl ?_
                refine o_skip (b := true) rfl rfl rfl ?_
                refine o_skip (b := true) rfl rfl rfl ?_
                refine o_skip (b := true) rfl rfl rfl ?_
                refine o_skip (b := true) rfl rfl rfl ?_
                refine o_skip (b := true) rfl rfl rfl ?_
                refine o_pickT (b := true) (AV.lit (.bool true)) Gd.none rfl rfl rfl ?_
                refine o_move (AV.lit (.bool true)) Gd.none rfl ?_
                refine o_skip (b := true) rfl rfl rfl ?_
                refine o_skip (b := true) rfl rfl rfl ?_
                refine o_skip (b := true) rfl rfl rfl ?_
                refine o_skip (b := true) rfl rfl rfl ?_
                refine o_skip (b := true) rfl rfl rfl ?_
                refine o_skip (b := true) rfl rfl rfl ?_
                refine o_skip (b := true) rfl rfl rfl ?_
                refine o_skip (b := true) rfl rfl rfl ?_
                refine o_skip (b := true) rfl rfl rfl ?_
                refine o_skip (b := true) rfl rfl rfl ?_
                refine o_skip (b := true) rfl rfl rfl ?_
                refine o_skip (b := true) rfl rfl rfl ?_
                refine o_skip (b := true) rfl rfl rfl ?_
                refine o_skip (b := true) rfl rfl rfl ?_
                refine o_skip (b := true) rfl rfl rfl ?_
                refine o_skip (b := true) rfl rfl rfl ?_
                refine o_skip (b := true) rfl rfl rfl ?_
                refine o_pickT (b := true) (AV.lit (.bool true)) Gd.none rfl rfl rfl ?_
                refine aops_end ⟨by kernel_rfl, ?_⟩
                refine hK12 _ ?_
                refine awp_condB (b := true) rfl (fun _ => ?_) (fun hh => absurd (hh.symm.trans rfl) (by decide))
                refine awp_seq fun K14 hK14 => ?_
                refine awp_region rfl ?_
                refine o_assign (AV.lit (.bool false)) Gd.none rfl ?_
                refine aops_end ?_
                refine hK14 _ ?_
                refine awp_ret ?_
                refine post_ret ⟨[(AV.lit (.bool false))], And.intro (AV.le_refl _) (trivial), rfl, ?_⟩
                refine bl_eq (okM_no fun h => ?_)
                obtain ⟨o1, o2, o3, o4, o5⟩ := h
                first | omega | (have := o5 r (by omega); omega)
              · refine o_fieldRef 2 (Gd.yes rfl rfl (decide_eq_false h7)) Wf_tF24_2 rfl rfl ?_
                refine o_loadS (AV.sl 1 (is .i64 (m.add))) (Gd.yes rfl rfl (decide_eq_false h7)) Wf_tS22 rfl rfl rfl ?_
                refine o_move (nm .i64 (r)) (Gd.yes rfl rfl (decide_eq_false h7)) rfl ?_
                refine i_index (m.add) (r) (Gd.yes rfl rfl (decide_eq_false h7)) Wf_tE22 rfl rfl (by omega) ?_
                refine i_loadI (m.add) (r) (Gd.yes rfl rfl (decide_eq_false h7)) Wf_tS3 rfl (by omega) ?_
                refine o_lss (a := ((m.add).getD (r) 0)) (c := ((-999999))) (Gd.yes rfl rfl (decide_eq_false h7)) rfl rfl ?_
                refine o_pickF (b := decide ((((999 : Nat) : Int)) < ((m.mul).getD (r) 0))) (bp (((m.add).getD (r) 0) < ((-999999)))) Gd.none rfl (decide_eq_false h7) rfl ?_
                refine o_move (bp (((m.add).getD (r) 0) < ((-999999)))) Gd.none rfl ?_
                refine o_splitP (q := ((m.add).getD (r) 0) < ((-999999))) 56 rfl (fun h8 => ?_) (fun h8 => ?_)
                · refine o_skip (b := decide (((m.add).getD (r) 0) < ((-999999)))) rfl rfl (decide_eq_true h8) ?_
                  refine o_skip (b := decide (((m.add).getD (r) 0) < ((-999999)))) rfl rfl (decide_eq_true h8) ?_
                  refine o_skip (b := decide (((m.add).getD (r) 0) < ((-999999)))) rfl rfl (decide_eq_true h8) ?_
                  refine o_skip (b := decide (((m.add).getD (r) 0) < ((-999999)))) rfl rfl (decide_eq_true h8) ?_
                  refine o_skip (b := decide (((m.add).getD (r) 0) < ((-999999)))) rfl rfl (decide_eq_true h8) ?_
                  refine o_skip (b := decide (((m.add).getD (r) 0) < ((-999999)))) rfl rfl (decide_eq_true h8) ?_
                  refine o_pickT (b := decide (((m.add).getD (r) 0) < ((-999999)))) (AV.lit (.bool true)) Gd.none rfl (decide_eq_true h8) rfl ?_
                  refine o_move (AV.lit (.bool true)) Gd.none rfl ?_
                  refine o_skip (b := true) rfl rfl rfl ?_
                  refine o_skip (b := true) rfl rfl rfl ?_
                  refine o_skip (b := true) rfl rfl rfl ?_
                  refine o_skip (b := true) rfl rfl rfl ?_
                  refine o_skip (b := true) rfl rfl rfl ?_
                  refine o_skip (b := true) rfl rfl rfl ?_
                  refine o_skip (b := true) rfl rfl rfl ?_
                  refine o_skip (b := true) rfl rfl rfl ?_
                  refine o_skip (b := true) rfl rfl rfl ?_
                  refine o_skip (b := true) rfl rfl rfl ?_
                  refine o_skip (b := true) rfl rfl rfl ?_
                  refine o_skip (b := true) rfl rfl rfl ?_
                  refine o_skip (b := true) rfl rfl rfl ?_
                  refine o_skip (b := true) rfl rfl rfl ?_
                  refine o_skip (b := true) rfl rfl rfl ?_
                  refine o_skip (b := true) rfl rfl rfl ?_
                  refine o_skip (b := true) rfl rfl rfl ?_
                  refine o_pickT (b := true) (AV.lit (.bool true)) Gd.none rfl rfl rfl ?_
                  refine aops_end ⟨by kernel_rfl, ?_⟩
                  refine hK12 _ ?_
                  refine awp_condB (b := true) rfl (fun _ => ?_) (fun hh => absurd (hh.symm.trans rfl) (by decide))
                  refine awp_seq fun K15 hK15 => ?_
                  refine awp_region rfl ?_
                  refine o_assign (AV.lit (.bool false)) Gd.none rfl ?_
                  refine aops_end ?_
                  refine hK15 _ ?_
                  refine awp_ret ?_
                  refine post_ret ⟨[(AV.lit (.bool false))], And.intro (AV.le_refl _) (trivial), rfl, ?_⟩
                  refine bl_eq (okM_no fun h => ?_)
                  obtain ⟨o1, o2, o3, o4, o5⟩ := h
                  first | omega | (have := o5 r (by omega); omega)
                · refine o_fieldRef 2 (Gd.yes rfl rfl (decide_eq_false h8)) Wf_tF24_2 rfl rfl ?_
                  refine o_loadS (AV.sl 1 (is .i64 (m.add))) (Gd.yes rfl rfl (decide_eq_false h8)) Wf_tS22 rfl rfl rfl ?_
                  refine o_move (nm .i64 (r)) (Gd.yes rfl rfl (decide_eq_false h8)) rfl ?_
                  refine i_index (m.add) (r) (Gd.yes rfl rfl (decide_eq_false h8)) Wf_tE22 rfl rfl (by omega) ?_
                  refine i_loadI (m.add) (r) (Gd.yes rfl rfl (decide_eq_false h8)) Wf_tS3 rfl (by omega) ?_
                  refine o_gtr (a := ((m.add).getD (r) 0)) (c := (((999999 : Nat) : Int))) (Gd.yes rfl rfl (decide_eq_false h8)) rfl rfl ?_
                  refine o_pickF (b := decide (((m.add).getD (r) 0) < ((-999999)))) (bp ((((999999 : Nat) : Int)) < ((m.add).getD (r) 0))) Gd.none rfl (decide_eq_false h8) rfl ?_
                  refine o_move (bp ((((999999 : Nat) : Int)) < ((m.add).getD (r) 0))) Gd.none rfl ?_
                  refine o_splitP (q := (((999999 : Nat) : Int)) < ((m.add).getD (r) 0)) 64 rfl (fun h9 => ?_) (fun h9 => ?_)
                  · refine o_skip (b := decide ((((999999 : Nat) : Int)) < ((m.add).getD (r) 0))) rfl rfl (decide_eq_true h9) ?_
                    refine o_skip (b := decide ((((999999 : Nat) : Int)) < ((m.add).getD (r) 0))) rfl rfl (decide_eq_true h9) ?_
                    refine o_skip (b := decide ((((999999 : Nat) : Int)) < ((m.add).getD (r) 0))) rfl rfl (decide_eq_true h9) ?_
                    refine o_skip (b := decide ((((999999 : Nat) : Int)) < ((m.add).getD (r) 0))) rfl rfl (decide_eq_true h9) ?_
                    refine o_skip (b := decide ((((999999 : Nat) : Int)) < ((m.add).getD (r) 0))) rfl rfl (decide_eq_true h9) ?_
                    refine o_skip (b := decide ((((999999 : Nat) : Int)) < ((m.add).getD (r) 0))) rfl rfl (decide_eq_true h9) ?_
                    refine o_skip (b := decide ((((999999 : Nat) : Int)) < ((m.add).getD (r) 0))) rfl rfl (decide_eq_true h9) ?_
                    refine o_skip (b := decide ((((999999 : Nat) : Int)) < ((m.add).getD (r) 0))) rfl rfl (decide_eq_true h9) ?_
                    refine o_skip (b := decide ((((999999 : Nat) : Int)) < ((m.add).getD (r) 0))) rfl rfl (decide_eq_true h9) ?_
                    refine o_skip (b := decide ((((999999 : Nat) : Int)) < ((m.add).getD (r) 0))) rfl rfl (decide_eq_true h9) ?_
                    refine o_skip (b := decide ((((999999 : Nat) : Int)) < ((m.add).getD (r) 0))) rfl rfl (decide_eq_true h9) ?_
                    refine o_skip (b := decide ((((999999 : Nat) : Int)) < ((m.add).getD (r) 0))) rfl rfl (decide_eq_true h9) ?_
                    refine o_skip (b := decide ((((999999 : Nat) : Int)) < ((m.add).getD (r) 0))) rfl rfl (decide_eq_true h9) ?_
                    refine o_skip (b := decide ((((999999 : Nat) : Int)) < ((m.add).getD (r) 0))) rfl rfl (decide_eq_true h9) ?_
                    refine o_skip (b := decide ((((999999 : Nat) : Int)) < ((m.add).getD (r) 0))) rfl rfl (decide_eq_true h9) ?_
                    refine o_skip (b := decide ((((999999 : Nat) : Int)) < ((m.add).getD (r) 0))) rfl rfl (decide_eq_true h9) ?_
                    refine o_skip (b := decide ((((999999 : Nat) : Int)) < ((m.add).getD (r) 0))) rfl rfl (decide_eq_true h9) ?_
                    refine o_pickT (b := decide ((((999999 : Nat) : Int)) < ((m.add).getD (r) 0))) (AV.lit (.bool true)) Gd.none rfl (decide_eq_true h9) rfl ?_
                    refine aops_end ⟨by kernel_rfl, ?_⟩
                    refine hK12 _ ?_
                    refine awp_condB (b := true) rfl (fun _ => ?_) (fun hh => absurd (hh.symm.trans rfl) (by decide))
                    refine awp_seq fun K16 hK16 => ?_
                    refine awp_region rfl ?_
                    refine o_assign (AV.lit (.bool false)) Gd.none rfl ?_
                    refine aops_end ?_
                    refine hK16 _ ?_
                    refine awp_ret ?_
                    refine post_ret ⟨[(AV.lit (.bool false))], And.intro (AV.le_refl _) (trivial), rfl, ?_⟩
                    refine bl_eq (okM_no fun h => ?_)
                    obtain ⟨o1, o2, o3, o4, o5⟩ := h
                    first | omega | (have := o5 r (by omega); omega)
                  · refine o_fieldRef 1 (Gd.yes rfl rfl (decide_eq_false h9)) Wf_tF24_1 rfl rfl ?_
                    refine o_loadS (AV.sl 1 (is .i64 (m.mul))) (Gd.yes rfl rfl (decide_eq_false h9)) Wf_tS22 rfl rfl rfl ?_
                    refine o_move (nm .i64 (r)) (Gd.yes rfl rfl (decide_eq_false h9)) rfl ?_
                    refine i_index (m.mul) (r) (Gd.yes rfl rfl (decide_eq_false h9)) Wf_tE22 rfl rfl (by omega) ?_
                    refine i_loadI (m.mul) (r) (Gd.yes rfl rfl (decide_eq_false h9)) Wf_tS3 rfl (by omega) ?_
                    refine o_move (nm .i64 (r)) (Gd.yes rfl rfl (decide_eq_false h9)) rfl ?_
                    refine o_mul (a := ((m.mul).getD (r) 0)) (c := (((r : Nat) : Int))) (Gd.yes rfl rfl (decide_eq_false h9)) rfl rfl (by have hm := mulb (a := (m.mul).getD (r) 0) (r := (r : Int)) (by omega) (by omega) (by omega) (by omega); exact wrap64 (by omega) (by omega)) ?_
                    refine o_fieldRef 2 (Gd.yes rfl rfl (decide_eq_false h9)) Wf_tF24_2 rfl rfl ?_
                    refine o_loadS (AV.sl 1 (is .i64 (m.add))) (Gd.yes rfl rfl (decide_eq_false h9)) Wf_tS22 rfl rfl rfl ?_
                    refine o_move (nm .i64 (r)) (Gd.yes rfl rfl (decide_eq_false h9)) rfl ?_
                    refine i_index (m.add) (r) (Gd.yes rfl rfl (decide_eq_false h9)) Wf_tE22 rfl rfl (by omega) ?_
                    refine i_loadI (m.add) (r) (Gd.yes rfl rfl (decide_eq_false h9)) Wf_tS3 rfl (by omega) ?_
                    refine o_add (a := (((m.mul).getD (r) 0) * (((r : Nat) : Int)))) (c := ((m.add).getD (r) 0)) (Gd.yes rfl rfl (decide_eq_false h9)) rfl rfl (by have hm := mulb (a := (m.mul).getD (r) 0) (r := (r : Int)) (by omega) (by omega) (by omega) (by omega); exact wrap64 (by omega) (by omega)) ?_
                    refine o_fieldRef 0 (Gd.yes rfl rfl (decide_eq_false h9)) Wf_tF24_0 rfl rfl ?_
                    refine o_loadS (AV.lit (.int .i64 (m.mod))) (Gd.yes rfl rfl (decide_eq_false h9)) Wf_tS3 rfl rfl rfl ?_
                    refine o_remT (a := ((((m.mul).getD (r) 0) * (((r : Nat) : Int))) + ((m.add).getD (r) 0))) (c := (m.mod)) (Gd.yes rfl rfl (decide_eq_false h9)) rfl rfl (by omega) ?_
                    refine o_neq (a := (Int.tmod ((((m.mul).getD (r) 0) * (((r : Nat) : Int))) + ((m.add).getD (r) 0)) (m.mod))) (c := (((0 : Nat) : Int))) (Gd.yes rfl rfl (decide_eq_false h9)) rfl rfl ?_
                    refine o_pickF (b := decide ((((999999 : Nat) : Int)) < ((m.add).getD (r) 0))) (bp ((Int.tmod ((((m.mul).getD (r) 0) * (((r : Nat) : Int))) + ((m.add).getD (r) 0)) (m.mod)) ≠ (((0 : Nat) : Int)))) Gd.none rfl (decide_eq_false h9) rfl ?_
                    refine aops_end ⟨by kernel_rfl, ?_⟩
                    refine hK12 _ ?_
                    refine awp_condQ (q := (Int.tmod ((((m.mul).getD (r) 0) * (((r : Nat) : Int))) + ((m.add).getD (r) 0)) (m.mod)) ≠ (((0 : Nat) : Int))) rfl (fun h10 => ?_) (fun h10 => ?_)
                    · refine awp_seq fun K17 hK17 => ?_
                      refine awp_region rfl ?_
                      refine o_assign (AV.lit (.bool false)) Gd.none rfl ?_
                      refine aops_end ?_
                      refine hK17 _ ?_
                      refine awp_ret ?_
                      refine post_ret ⟨[(AV.lit (.bool false))], And.intro (AV.le_refl _) (trivial), rfl, ?_⟩
                      refine bl_eq (okM_no fun h => ?_)
                      obtain ⟨o1, o2, o3, o4, o5⟩ := h
                      first | omega | (have := o5 r (by omega); omega)
                    · refine awp_skip ?_
                      refine hK11 _ ?_
                      refine awp_region rfl ?_
                      refine o_move (nm .i64 (r)) Gd.none rfl ?_
                      refine n_add (r) (1) Gd.none rfl rfl (by simp only [topOf]; omega) ?_
                      refine o_assign (nm .i64 ((r) + (1))) Gd.none rfl ?_
                      refine aops_end ?_
                      refine ⟨_, _, ?lt, ⟨r + 1, (by omega), (fun i hi => by by_cases e : i = r; subst e; exact ⟨by omega, by omega, by omega, by omega, by omega⟩; exact hv i (by omega)), rfl, rfl⟩, ?wk⟩
                      case lt => omega
                      case wk => exact Wk.sub (And.intro rfl (And.intro (by first | rfl | exact congrArg (nm _) (by omega) | exact nm_int (by omega) | exact nm_int (by simp [IntKind.wrap, IntKind.bits, IntKind.signed]; omega)) (trivial))) (And.intro rfl (trivial))
          · refine awp_exit ?_
            refine hK7 _ ?_
            refine awp_seq fun K18 hK18 => ?_
            refine awp_region rfl ?_
            refine o_assign (AV.lit (.bool true)) Gd.none rfl ?_
            refine aops_end ?_
            refine hK18 _ ?_
            refine awp_ret ?_
            refine post_ret ⟨[(AV.lit (.bool true))], And.intro (AV.le_refl _) (trivial), rfl, ?_⟩
            refine bl_eq (okM_yes ⟨by omega, by omega, by omega, by omega, fun i hi => hv i (by omega)⟩)

theorem c_gRest (m : MapM) (z : Int) (hm : OkM m) (hz : (digs z.natAbs).length ≤ 1000000) : ECalls cx 52 [(mapV m), (intR (z))] (.lit (.int .i64 (z % m.mod))) := by
  refine ecalls_of_awp Tryd.func52 (c := _) rfl (Nat.le_of_ble_eq_true rfl) ?_
  show awp cx 15 _ (postF cx Tryd.f52 _) ⟨[(0, (mapV m)), (1, (intR (z)))], []⟩
  have hM := hm
  obtain ⟨o1, o2, o3, o4, o5⟩ := hm
  have hr0 := Int.emod_nonneg z (b := m.mod) (by omega)
  have hr1 := Int.emod_lt_of_pos z (b := m.mod) (by omega)
  have hr := o5 (z % m.mod).toNat (by omega)
  refine awp_seq fun K0 hK0 => ?_
  refine awp_region rfl ?_
  refine o_box 2 [(AV.lit (.int .i64 (m.mod))), (AV.sl 1 (is .i64 (m.mul))), (AV.sl 1 (is .i64 (m.add)))] Gd.none rfl rfl ?_
  refine o_box 3 [(bp (z < 0)), (AV.sl 1 (ns .i64 (digs (z).natAbs)))] Gd.none rfl rfl ?_
  refine o_assign (nm .i64 (0)) Gd.none rfl ?_
  refine aops_end ?_
  refine hK0 _ ?_
  refine awp_seq fun K1 hK1 => ?_
  refine awp_region rfl ?_
  refine o_loadA [(bp (z < 0)), (AV.sl 1 (ns .i64 (digs (z).natAbs)))] Gd.none Wf_tA36 rfl rfl rfl rfl rfl ?_
  refine o_fieldRef 0 Gd.none Wf_tF24_0 rfl rfl ?_
  refine o_loadS (AV.lit (.int .i64 (m.mod))) Gd.none Wf_tS3 rfl rfl rfl ?_
  refine n_as (v' := (nm .i64 (m.mod.toNat))) (nm_int (by omega)) ?_
  refine o_call [(intR (z)), (nm .i64 (m.mod.toNat))] (AV.tup [(intR ((z / ((m.mod.toNat : Nat) : Int)))), (AV.lit (.int .i64 (z % ((m.mod.toNat : Nat) : Int))))]) Gd.none Wf_tC83 rfl (c_rQR (z) (m.mod.toNat) (by omega) (by omega) (by first | omega | assumption | (simp only [Int.natAbs_neg]; omega))) ?_
  refine o_move (AV.tup [(intR ((z / ((m.mod.toNat : Nat) : Int)))), (AV.lit (.int .i64 (z % ((m.mod.toNat : Nat) : Int))))]) Gd.none rfl ?_
  refine o_extract (intR ((z / ((m.mod.toNat : Nat) : Int)))) Gd.none rfl rfl ?_
  refine o_extract (AV.lit (.int .i64 (z % ((m.mod.toNat : Nat) : Int)))) Gd.none rfl rfl ?_
  refine o_alloc 4 [(AV.lit (.bool false)), (AV.lit (.slice none 0 0))] Gd.none Wf_tO36 rfl rfl rfl ?_
  refine o_store [(4, (oZ 36 .i64 ((z / ((m.mod.toNat : Nat) : Int))))), (3, (oZ 36 .i64 (z))), (2, (oM 24 m))] Gd.none Wf_tZ36 rfl rfl rfl rfl rfl rfl ?_
  refine o_assign (AV.lit (.int .i64 (z % ((m.mod.toNat : Nat) : Int)))) Gd.none rfl ?_
  refine aops_end ?_
  refine hK1 _ ?_
  refine awp_seq fun K2 hK2 => ?_
  refine awp_region rfl ?_
  refine o_move (AV.lit (.int .i64 (z % ((m.mod.toNat : Nat) : Int)))) Gd.none rfl ?_
  refine o_assign (AV.lit (.int .i64 (z % ((m.mod.toNat : Nat) : Int)))) Gd.none rfl ?_
  refine aops_end ?_
  refine hK2 _ ?_
  refine awp_ret ?_
  refine post_ret ⟨[(AV.lit (.int .i64 (z % ((m.mod.toNat : Nat) : Int))))], And.intro (AV.le_refl _) (trivial), rfl, ?_⟩
  exact int_eq (by rw [Int.toNat_of_nonneg (by omega)])

theorem c_gStep (m : MapM) (z : Int) (hm : OkM m) (hz : (digs z.natAbs).length ≤ 1000000) : ECalls cx 53 [(mapV m), (intR (z))] (intR (stepZ m z)) := by
  refine ecalls_of_awp Tryd.func53 (c := _) rfl (Nat.le_of_ble_eq_true rfl) ?_
  show awp cx 33 _ (postF cx Tryd.f53 _) ⟨[(0, (mapV m)), (1, (intR (z)))], []⟩
  have hM := hm
  obtain ⟨o1, o2, o3, o4, o5⟩ := hm
  have hr0 := Int.emod_nonneg z (b := m.mod) (by omega)
  have hr1 := Int.emod_lt_of_pos z (b := m.mod) (by omega)
  have hr := o5 (z % m.mod).toNat (by omega)
  have hL1 := small_len (z := ((m.mul).getD ((z % m.mod).toNat) 0)) (by omega)
  have hL2 := small_len (z := ((m.add).getD ((z % m.mod).toNat) 0)) (by omega)
  have hL3 := len_mulZ ((m.mul).getD ((z % m.mod).toNat) 0) z
  have hL4 := len_addZ (((m.mul).getD ((z % m.mod).toNat) 0) * z) ((m.add).getD ((z % m.mod).toNat) 0)
  refine awp_seq fun K0 hK0 => ?_
  refine awp_region rfl ?_
  refine o_box 2 [(AV.lit (.int .i64 (m.mod))), (AV.sl 1 (is .i64 (m.mul))), (AV.sl 1 (is .i64 (m.add)))] Gd.none rfl rfl ?_
  refine o_box 3 [(bp (z < 0)), (AV.sl 1 (ns .i64 (digs (z).natAbs)))] Gd.none rfl rfl ?_
  refine o_alloc 4 [(AV.lit (.bool false)), (AV.lit (.slice none 0 0))] Gd.none Wf_tO36 rfl rfl rfl ?_
  refine aops_end ?_
  refine hK0 _ ?_
  refine awp_seq fun K1 hK1 => ?_
  refine awp_region rfl ?_
  refine o_loadA [(AV.lit (.int .i64 (m.mod))), (AV.sl 1 (is .i64 (m.mul))), (AV.sl 1 (is .i64 (m.add)))] Gd.none Wf_tA24 rfl rfl rfl rfl rfl ?_
  refine o_loadA [(bp (z < 0)), (AV.sl 1 (ns .i64 (digs (z).natAbs)))] Gd.none Wf_tA36 rfl rfl rfl rfl rfl ?_
  refine o_call [(mapV m), (intR (z))] (AV.lit (.int .i64 (z % m.mod))) Gd.none Wf_tC52 rfl (c_gRest m (z) (by first | assumption | exact okM_iff.1 (by assumption)) (by first | omega | assumption | (simp only [Int.natAbs_neg]; omega))) ?_
  refine o_assign (AV.lit (.int .i64 (z % m.mod))) Gd.none rfl ?_
  refine aops_end ?_
  refine hK1 _ ?_
  refine awp_seq fun K2 hK2 => ?_
  refine awp_regionD rfl ?_
  refine o_fieldRef 1 Gd.none Wf_tF24_1 rfl rfl ?_
  refine o_loadS (AV.sl 1 (is .i64 (m.mul))) Gd.none Wf_tS22 rfl rfl rfl ?_
  refine o_move (AV.lit (.int .i64 (z % m.mod))) Gd.none rfl ?_
  refine n_as (v' := (nm .i64 ((z % m.mod).toNat))) (nm_int (by omega)) ?_
  refine i_index (m.mul) ((z % m.mod).toNat) Gd.none Wf_tE22 rfl rfl (by omega) ?_
  refine i_loadI (m.mul) ((z % m.mod).toNat) Gd.none Wf_tS3 rfl (by omega) ?_
  refine o_call [(AV.lit (.int .i64 ((m.mul).getD ((z % m.mod).toNat) 0)))] (intR ((m.mul).getD ((z % m.mod).toNat) 0)) Gd.none Wf_tC38 rfl (c_rOf ((m.mul).getD ((z % m.mod).toNat) 0) (by first | decide | omega) (by first | decide | omega)) ?_
  refine o_loadA [(bp (z < 0)), (AV.sl 1 (ns .i64 (digs (z).natAbs)))] Gd.none Wf_tA36 rfl rfl rfl rfl rfl ?_
  refine o_call [(intR ((m.mul).getD ((z % m.mod).toNat) 0)), (intR (z))] (intR (((m.mul).getD ((z % m.mod).toNat) 0 * z))) Gd.none Wf_tC37 rfl (c_rMul ((m.mul).getD ((z % m.mod).toNat) 0) (z) (by first | omega | assumption | (simp only [Int.natAbs_neg]; omega)) (by first | omega | assumption | (simp only [Int.natAbs_neg]; omega))) ?_
  refine o_fieldRef 2 Gd.none Wf_tF24_2 rfl rfl ?_
  refine o_loadS (AV.sl 1 (is .i64 (m.add))) Gd.none Wf_tS22 rfl rfl rfl ?_
  refine o_move (AV.lit (.int .i64 (z % m.mod))) Gd.none rfl ?_
  refine n_as (v' := (nm .i64 ((z % m.mod).toNat))) (nm_int (by omega)) ?_
  refine i_index (m.add) ((z % m.mod).toNat) Gd.none Wf_tE22 rfl rfl (by omega) ?_
  refine i_loadI (m.add) ((z % m.mod).toNat) Gd.none Wf_tS3 rfl (by omega) ?_
  refine o_call [(AV.lit (.int .i64 ((m.add).getD ((z % m.mod).toNat) 0)))] (intR ((m.add).getD ((z % m.mod).toNat) 0)) Gd.none Wf_tC38 rfl (c_rOf ((m.add).getD ((z % m.mod).toNat) 0) (by first | decide | omega) (by first | decide | omega)) ?_
  refine o_call [(intR (((m.mul).getD ((z % m.mod).toNat) 0 * z))), (intR ((m.add).getD ((z % m.mod).toNat) 0))] (intR ((((m.mul).getD ((z % m.mod).toNat) 0 * z) + (m.add).getD ((z % m.mod).toNat) 0))) Gd.none Wf_tC34 rfl (c_rAdd (((m.mul).getD ((z % m.mod).toNat) 0 * z)) ((m.add).getD ((z % m.mod).toNat) 0) (by first | omega | assumption | (simp only [Int.natAbs_neg]; omega)) (by first | omega | assumption | (simp only [Int.natAbs_neg]; omega))) ?_
  refine o_fieldRef 0 Gd.none Wf_tF24_0 rfl rfl ?_
  refine o_loadS (AV.lit (.int .i64 (m.mod))) Gd.none Wf_tS3 rfl rfl rfl ?_
  refine n_as (v' := (nm .i64 (m.mod.toNat))) (nm_int (by omega)) ?_
  refine o_call [(intR ((((m.mul).getD ((z % m.mod).toNat) 0 * z) + (m.add).getD ((z % m.mod).toNat) 0))), (nm .i64 (m.mod.toNat))] (AV.tup [(intR (((((m.mul).getD ((z % m.mod).toNat) 0 * z) + (m.add).getD ((z % m.mod).toNat) 0) / ((m.mod.toNat : Nat) : Int)))), (AV.lit (.int .i64 ((((m.mul).getD ((z % m.mod).toNat) 0 * z) + (m.add).getD ((z % m.mod).toNat) 0) % ((m.mod.toNat : Nat) : Int))))]) Gd.none Wf_tC83 rfl (c_rQR ((((m.mul).getD ((z % m.mod).toNat) 0 * z) + (m.add).getD ((z % m.mod).toNat) 0)) (m.mod.toNat) (by omega) (by omega) (by first | omega | assumption | (simp only [Int.natAbs_neg]; omega))) ?_
  refine o_move (AV.tup [(intR (((((m.mul).getD ((z % m.mod).toNat) 0 * z) + (m.add).getD ((z % m.mod).toNat) 0) / ((m.mod.toNat : Nat) : Int)))), (AV.lit (.int .i64 ((((m.mul).getD ((z % m.mod).toNat) 0 * z) + (m.add).getD ((z % m.mod).toNat) 0) % ((m.mod.toNat : Nat) : Int))))]) Gd.none rfl ?_
  refine o_extract (intR (((((m.mul).getD ((z % m.mod).toNat) 0 * z) + (m.add).getD ((z % m.mod).toNat) 0) / ((m.mod.toNat : Nat) : Int)))) Gd.none rfl rfl ?_
  refine o_extract (AV.lit (.int .i64 ((((m.mul).getD ((z % m.mod).toNat) 0 * z) + (m.add).getD ((z % m.mod).toNat) 0) % ((m.mod.toNat : Nat) : Int)))) Gd.none rfl rfl ?_
  refine o_alloc 5 [(AV.lit (.bool false)), (AV.lit (.slice none 0 0))] Gd.none Wf_tO36 rfl rfl rfl ?_
  refine o_store [(5, (oZ 36 .i64 (((((m.mul).getD ((z % m.mod).toNat) 0 * z) + (m.add).getD ((z % m.mod).toNat) 0) / ((m.mod.toNat : Nat) : Int))))), (4, (AO.var 36 [(AV.lit (.bool false)), (AV.lit (.slice none 0 0))])), (3, (oZ 36 .i64 (z))), (2, (oM 24 m))] Gd.none Wf_tZ36 rfl rfl rfl rfl rfl rfl ?_
  refine o_assign (AV.lit (.int .i64 ((((m.mul).getD ((z % m.mod).toNat) 0 * z) + (m.add).getD ((z % m.mod).toNat) 0) % ((m.mod.toNat : Nat) : Int)))) Gd.none rfl ?_
  refine aops_end ⟨by kernel_rfl, ?_⟩
  refine hK2 _ ?_
  refine awp_seq fun K3 hK3 => ?_
  refine awp_region rfl ?_
  refine o_loadA [(bp (((((m.mul).getD ((z % m.mod).toNat) 0 * z) + (m.add).getD ((z % m.mod).toNat) 0) / ((m.mod.toNat : Nat) : Int)) < 0)), (AV.sl 1 (ns .i64 (digs (((((m.mul).getD ((z % m.mod).toNat) 0 * z) + (m.add).getD ((z % m.mod).toNat) 0) / ((m.mod.toNat : Nat) : Int))).natAbs)))] Gd.none Wf_tA36 rfl rfl rfl rfl rfl ?_
  refine o_store [(5, (oZ 36 .i64 (((((m.mul).getD ((z % m.mod).toNat) 0 * z) + (m.add).getD ((z % m.mod).toNat) 0) / ((m.mod.toNat : Nat) : Int))))), (4, (oZ 36 .i64 (((((m.mul).getD ((z % m.mod).toNat) 0 * z) + (m.add).getD ((z % m.mod).toNat) 0) / ((m.mod.toNat : Nat) : Int))))), (3, (oZ 36 .i64 (z))), (2, (oM 24 m))] Gd.none Wf_tZ36 rfl rfl rfl rfl rfl rfl ?_
  refine aops_end ?_
  refine hK3 _ ?_
  refine awp_ret ?_
  refine post_ret ⟨[(intR (((((m.mul).getD ((z % m.mod).toNat) 0 * z) + (m.add).getD ((z % m.mod).toNat) 0) / ((m.mod.toNat : Nat) : Int))))], And.intro ⟨4, (oZ 36 .i64 (((((m.mul).getD ((z % m.mod).toNat) 0 * z) + (m.add).getD ((z % m.mod).toNat) 0) / ((m.mod.toNat : Nat) : Int)))), rfl, rfl, rfl, Or.inl ⟨Wf_tA36, AV.le_refl _⟩⟩ (trivial), rfl, ?_⟩
  refine congrArg (intK .i64) ?_
  unfold stepZ
  rw [Int.toNat_of_nonneg (a := m.mod) (by omega)]

end Go.Proofs.YtbilndahjkimkaaDoor

set_option linter.unusedVariables false
set_option linter.unusedSimpArgs false
namespace Go.Proofs.YtbilndahjkimkaaDoor
open Go Go.Ab Go.Mth
theorem Wi_tF24_0 : tyField cx.P 24 0 = some (0, 3) := by kernel_rfl
theorem Wi_tS3 : tySc cx.P 3 = true := by kernel_rfl
theorem Wi_tF24_1 : tyField cx.P 24 1 = some (1, 22) := by kernel_rfl
theorem Wi_tS22 : tySc cx.P 22 = true := by kernel_rfl
theorem Wi_tU22 : cx.P.underlying 22 = some (.slice 3) := by kernel_rfl
theorem Wi_tF24_2 : tyField cx.P 24 2 = some (2, 22) := by kernel_rfl
theorem Wi_tE22 : tyElem cx.P 22 = some (3, 1, 8) := by kernel_rfl
theorem Wi_tO79 : tyZero cx.P 79 = some [(Go.Value.bool false), (Go.Value.slice none 0 0)] := by kernel_rfl
theorem Wi_tA79 : tyAgg cx.P 79 = some 2 := by kernel_rfl
theorem Wi_tC63 : callable cx.P 63 = true := by kernel_rfl
theorem Wi_tZ79 : tySize cx.P 79 = some 2 := by kernel_rfl
theorem Wi_tC59 : callable cx.P 59 = true := by kernel_rfl
theorem Wi_tC60 : callable cx.P 60 = true := by kernel_rfl
theorem Wi_tC61 : callable cx.P 61 = true := by kernel_rfl
theorem Wi_tC49 : callable cx.P 49 = true := by kernel_rfl
theorem c_sValid (m : MapM) : ECalls cx 46 [(mapV m)] (.lit (.bool (okM m))) := by
  refine ecalls_of_awp Tryd.func46 (c := _) rfl (Nat.le_of_ble_eq_true rfl) ?_
  show awp cx 83 _ (postF cx Tryd.f46 _) ⟨[(0, (mapV m))], []⟩
  refine awp_seq fun K0 hK0 => ?_
  refine awp_region rfl ?_
  refine o_box 2 [(AV.lit (.int .i64 (m.mod))), (AV.sl 1 (is .i64 (m.mul))), (AV.sl 1 (is .i64 (m.add)))] Gd.none rfl rfl ?_
  refine o_assign (AV.lit (.bool false)) Gd.none rfl ?_
  refine aops_end ?_
  refine hK0 _ ?_
  refine awp_seq fun K1 hK1 => ?_
  refine awp_seq fun K2 hK2 => ?_
  refine awp_region rfl ?_
  refine o_fieldRef 0 Gd.none Wi_tF24_0 rfl rfl ?_
  refine o_loadS (AV.lit (.int .i64 (m.mod))) Gd.none Wi_tS3 rfl rfl rfl ?_
  refine o_lss (a := (m.mod)) (c := (((2 : Nat) : Int))) Gd.none rfl rfl ?_
  refine o_move (bp ((m.mod) < (((2 : Nat) : Int)))) Gd.none rfl ?_
  refine o_splitP (q := (m.mod) < (((2 : Nat) : Int))) 7 rfl (fun h1 => ?_) (fun h1 => ?_)
  · refine o_skip (b := decide ((m.mod) < (((2 : Nat) : Int)))) rfl rfl (decide_eq_true h1) ?_
    refine o_skip (b := decide ((m.mod) < (((2 : Nat) : Int)))) rfl rfl (decide_eq_true h1) ?_
    refine o_skip (b := decide ((m.mod) < (((2 : Nat) : Int)))) rfl rfl (decide_eq_true h1) ?_
    refine o_pickT (b := decide ((m.mod) < (((2 : Nat) : Int)))) (AV.lit (.bool true)) Gd.none rfl (decide_eq_true h1) rfl ?_
    refine o_move (AV.lit (.bool true)) Gd.none rfl ?_
    refine o_skip (b := true) rfl rfl rfl ?_
    refine o_skip (b := true) rfl rfl rfl ?_
    refine o_skip (b := true) rfl rfl rfl ?_
    refine o_skip (b := true) rfl rfl rfl ?_
    refine o_skip (b := true) rfl rfl rfl ?_
    refine o_skip (b := true) rfl rfl rfl ?_
    refine o_pickT (b := true) (AV.lit (.bool true)) Gd.none rfl rfl rfl ?_
    refine o_move (AV.lit (.bool true)) Gd.none rfl ?_
    refine o_skip (b := true) rfl rfl rfl ?_
    refine o_skip (b := true) rfl rfl rfl ?_
    refine o_skip (b := true) rfl rfl rfl ?_
    refine o_skip (b := true) rfl rfl rfl ?_
    refine o_skip (b := true) rfl rfl rfl ?_
    refine o_skip (b := true) rfl rfl rfl ?_
    refine o_pickT (b := true) (AV.lit (.bool true)) Gd.none rfl rfl rfl ?_
    refine aops_end ?_
    refine hK2 _ ?_
    refine awp_condB (b := true) rfl (fun _ => ?_) (fun hh => absurd (hh.symm.trans rfl) (by decide))
    refine awp_seq fun K3 hK3 => ?_
    refine awp_region rfl ?_
    refine o_assign (AV.lit (.bool false)) Gd.none rfl ?_
    refine aops_end ?_
    refine hK3 _ ?_
    refine awp_ret ?_
    refine post_ret ⟨[(AV.lit (.bool false))], And.intro (AV.le_refl _) (trivial), rfl, ?_⟩
    refine bl_eq (okM_no fun h => ?_)
    obtain ⟨o1, o2, o3, o4, o5⟩ := h
    first | omega | (have := o5 r (by omega); omega)
  · refine o_fieldRef 0 (Gd.yes rfl rfl (decide_eq_false h1)) Wi_tF24_0 rfl rfl ?_
    refine o_loadS (AV.lit (.int .i64 (m.mod))) (Gd.yes rfl rfl (decide_eq_false h1)) Wi_tS3 rfl rfl rfl ?_
    refine o_gtr (a := (m.mod)) (c := (((12 : Nat) : Int))) (Gd.yes rfl rfl (decide_eq_false h1)) rfl rfl ?_
    refine o_pickF (b := decide ((m.mod) < (((2 : Nat) : Int)))) (bp ((((12 : Nat) : Int)) < (m.mod))) Gd.none rfl (decide_eq_false h1) rfl ?_
    refine o_move (bp ((((12 : Nat) : Int)) < (m.mod))) Gd.none rfl ?_
    refine o_splitP (q := (((12 : Nat) : Int)) < (m.mod)) 12 rfl (fun h2 => ?_) (fun h2 => ?_)
    · refine o_skip (b := decide ((((12 : Nat) : Int)) < (m.mod))) rfl rfl (decide_eq_true h2) ?_
      refine o_skip (b := decide ((((12 : Nat) : Int)) < (m.mod))) rfl rfl (decide_eq_true h2) ?_
      refine o_skip (b := decide ((((12 : Nat) : Int)) < (m.mod))) rfl rfl (decide_eq_true h2) ?_
      refine o_skip (b := decide ((((12 : Nat) : Int)) < (m.mod))) rfl rfl (decide_eq_true h2) ?_
      refine o_skip (b := decide ((((12 : Nat) : Int)) < (m.mod))) rfl rfl (decide_eq_true h2) ?_
      refine o_skip (b := decide ((((12 : Nat) : Int)) < (m.mod))) rfl rfl (decide_eq_true h2) ?_
      refine o_pickT (b := decide ((((12 : Nat) : Int)) < (m.mod))) (AV.lit (.bool true)) Gd.none rfl (decide_eq_true h2) rfl ?_
      refine o_move (AV.lit (.bool true)) Gd.none rfl ?_
      refine o_skip (b := true) rfl rfl rfl ?_
      refine o_skip (b := true) rfl rfl rfl ?_
      refine o_skip (b := true) rfl rfl rfl ?_
      refine o_skip (b := true) rfl rfl rfl ?_
      refine o_skip (b := true) rfl rfl rfl ?_
      refine o_skip (b := true) rfl rfl rfl ?_
      refine o_pickT (b := true) (AV.lit (.bool true)) Gd.none rfl rfl rfl ?_
      refine aops_end ?_
      refine hK2 _ ?_
      refine awp_condB (b := true) rfl (fun _ => ?_) (fun hh => absurd (hh.symm.trans rfl) (by decide))
      refine awp_seq fun K4 hK4 => ?_
      refine awp_region rfl ?_
      refine o_assign (AV.lit (.bool false)) Gd.none rfl ?_
      refine aops_end ?_
      refine hK4 _ ?_
      refine awp_ret ?_
      refine post_ret ⟨[(AV.lit (.bool false))], And.intro (AV.le_refl _) (trivial), rfl, ?_⟩
      refine bl_eq (okM_no fun h => ?_)
      obtain ⟨o1, o2, o3, o4, o5⟩ := h
      first | omega | (have := o5 r (by omega); omega)
    · refine o_fieldRef 1 (Gd.yes rfl rfl (decide_eq_false h2)) Wi_tF24_1 rfl rfl ?_
      refine o_loadS (AV.sl 1 (is .i64 (m.mul))) (Gd.yes rfl rfl (decide_eq_false h2)) Wi_tS22 rfl rfl rfl ?_
      refine i_len (m.mul) (Gd.yes rfl rfl (decide_eq_false h2)) Wi_tU22 rfl ?_
      refine o_fieldRef 0 (Gd.yes rfl rfl (decide_eq_false h2)) Wi_tF24_0 rfl rfl ?_
      refine o_loadS (AV.lit (.int .i64 (m.mod))) (Gd.yes rfl rfl (decide_eq_false h2)) Wi_tS3 rfl rfl rfl ?_
      refine o_neq (a := ((((m.mul).length : Nat) : Int))) (c := (m.mod)) (Gd.yes rfl rfl (decide_eq_false h2)) rfl rfl ?_
      refine o_pickF (b := decide ((((12 : Nat) : Int)) < (m.mod))) (bp (((((m.mul).length : Nat) : Int)) ≠ (m.mod))) Gd.none rfl (decide_eq_false h2) rfl ?_
      refine o_move (bp (((((m.mul).length : Nat) : Int)) ≠ (m.mod))) Gd.none rfl ?_
      refine o_splitP (q := ((((m.mul).length : Nat) : Int)) ≠ (m.mod)) 20 rfl (fun h3 => ?_) (fun h3 => ?_)
      · refine o_skip (b := decide (((((m.mul).length : Nat) : Int)) ≠ (m.mod))) rfl rfl (decide_eq_true h3) ?_
        refine o_skip (b := decide (((((m.mul).length : Nat) : Int)) ≠ (m.mod))) rfl rfl (decide_eq_true h3) ?_
        refine o_skip (b := decide (((((m.mul).length : Nat) : Int)) ≠ (m.mod))) rfl rfl (decide_eq_true h3) ?_
        refine o_skip (b := decide (((((m.mul).length : Nat) : Int)) ≠ (m.mod))) rfl rfl (decide_eq_true h3) ?_
        refine o_skip (b := decide (((((m.mul).length : Nat) : Int)) ≠ (m.mod))) rfl rfl (decide_eq_true h3) ?_
        refine o_skip (b := decide (((((m.mul).length : Nat) : Int)) ≠ (m.mod))) rfl rfl (decide_eq_true h3) ?_
        refine o_pickT (b := decide (((((m.mul).length : Nat) : Int)) ≠ (m.mod))) (AV.lit (.bool true)) Gd.none rfl (decide_eq_true h3) rfl ?_
        refine aops_end ?_
        refine hK2 _ ?_
        refine awp_condB (b := true) rfl (fun _ => ?_) (fun hh => absurd (hh.symm.trans rfl) (by decide))
        refine awp_seq fun K5 hK5 => ?_
        refine awp_region rfl ?_
        refine o_assign (AV.lit (.bool false)) Gd.none rfl ?_
        refine aops_end ?_
        refine hK5 _ ?_
        refine awp_ret ?_
        refine post_ret ⟨[(AV.lit (.bool false))], And.intro (AV.le_refl _) (trivial), rfl, ?_⟩
        refine bl_eq (okM_no fun h => ?_)
        obtain ⟨o1, o2, o3, o4, o5⟩ := h
        first | omega | (have := o5 r (by omega); omega)
      · refine o_fieldRef 2 (Gd.yes rfl rfl (decide_eq_false h3)) Wi_tF24_2 rfl rfl ?_
        refine o_loadS (AV.sl 1 (is .i64 (m.add))) (Gd.yes rfl rfl (decide_eq_false h3)) Wi_tS22 rfl rfl rfl ?_
        refine i_len (m.add) (Gd.yes rfl rfl (decide_eq_false h3)) Wi_tU22 rfl ?_
        refine o_fieldRef 0 (Gd.yes rfl rfl (decide_eq_false h3)) Wi_tF24_0 rfl rfl ?_
        refine o_loadS (AV.lit (.int .i64 (m.mod))) (Gd.yes rfl rfl (decide_eq_false h3)) Wi_tS3 rfl rfl rfl ?_
        refine o_neq (a := ((((m.add).length : Nat) : Int))) (c := (m.mod)) (Gd.yes rfl rfl (decide_eq_false h3)) rfl rfl ?_
        refine o_pickF (b := decide (((((m.mul).length : Nat) : Int)) ≠ (m.mod))) (bp (((((m.add).length : Nat) : Int)) ≠ (m.mod))) Gd.none rfl (decide_eq_false h3) rfl ?_
        refine aops_end ?_
        refine hK2 _ ?_
        refine awp_condQ (q := ((((m.add).length : Nat) : Int)) ≠ (m.mod)) rfl (fun h4 => ?_) (fun h4 => ?_)
        · refine awp_seq fun K6 hK6 => ?_
          refine awp_region rfl ?_
          refine o_assign (AV.lit (.bool false)) Gd.none rfl ?_
          refine aops_end ?_
          refine hK6 _ ?_
          refine awp_ret ?_
          refine post_ret ⟨[(AV.lit (.bool false))], And.intro (AV.le_refl _) (trivial), rfl, ?_⟩
          refine bl_eq (okM_no fun h => ?_)
          obtain ⟨o1, o2, o3, o4, o5⟩ := h
          first | omega | (have := o5 r (by omega); omega)
        · refine awp_skip ?_
          refine hK1 _ ?_
          refine awp_seq fun K7 hK7 => ?_
          refine awp_seq fun K8 hK8 => ?_
          refine awp_region rfl ?_
          refine o_fieldRef 0 Gd.none Wi_tF24_0 rfl rfl ?_
          refine o_loadS (AV.lit (.int .i64 (m.mod))) Gd.none Wi_tS3 rfl rfl rfl ?_
          refine o_move (nm .i64 (0)) Gd.none rfl ?_
          refine aops_end ?_
          refine hK8 _ ?_
          refine awp_block ?_
          refine awp_loopR (fun κ σ => ∃ (r : Nat), ((r : Int) ≤ m.mod) ∧ (∀ i : Nat, i < r → 1 ≤ m.mul.getD i 0 ∧ m.mul.getD i 0 ≤ 999 ∧ -999999 ≤ m.add.getD i 0 ∧ m.add.getD i 0 ≤ 999999 ∧ Int.tmod (m.mul.getD i 0 * i + m.add.getD i 0) m.mod = 0) ∧ (m.mod.toNat - r) = κ ∧ σ = ⟨[(1, (AV.ref 2 (0))), (29, (AV.lit (.int .i64 (m.mod)))), (30, (nm .i64 (r)))], [(2, (oM 24 m))]⟩) ⟨_, _, ⟨0, (by omega), (fun i hi => by omega), rfl, rfl⟩, ?wk0⟩ ?rd0
          case wk0 =>
            exact Wk.sub (And.intro rfl (And.intro rfl (And.intro (by first | rfl | exact congrArg (nm _) (by omega) | exact nm_int (by omega) | exact nm_int (by simp [IntKind.wrap, IntKind.bits, IntKind.signed]; omega)) (trivial)))) (And.intro rfl (trivial))
          rintro κ _ ⟨r, hr, hv, rfl, rfl⟩
          refine awp_seq fun K9 hK9 => ?_
          refine awp_region rfl ?_
          refine o_lss (a := (((r : Nat) : Int))) (c := (m.mod)) Gd.none rfl rfl ?_
          refine aops_end ?_
          refine hK9 _ ?_
          refine awp_seq fun K10 hK10 => ?_
          refine awp_condQ (q := (((r : Nat) : Int)) < (m.mod)) rfl (fun h5 => ?_) (fun h5 => ?_)
          · refine awp_skip ?_
            refine hK10 _ ?_
            refine awp_seq fun K11 hK11 => ?_
            refine awp_block ?_
            refine awp_seq fun K12 hK12 => ?_
            refine awp_region rfl ?_
            refine o_move (nm .i64 (r)) Gd.none rfl ?_
            refine o_assign (nm .i64 (r)) Gd.none rfl ?_
            refine aops_end ?_
            refine hK12 _ ?_
            refine awp_seq fun K13 hK13 => ?_
            refine awp_regionD rfl ?_
            refine o_fieldRef 1 Gd.none Wi_tF24_1 rfl rfl ?_
            refine o_loadS (AV.sl 1 (is .i64 (m.mul))) Gd.none Wi_tS22 rfl rfl rfl ?_
            refine o_move (nm .i64 (r)) Gd.none rfl ?_
            refine i_index (m.mul) (r) Gd.none Wi_tE22 rfl rfl (by omega) ?_
            refine i_loadI (m.mul) (r) Gd.none Wi_tS3 rfl (by omega) ?_
            refine o_lss (a := ((m.mul).getD (r) 0)) (c := (((1 : Nat) : Int))) Gd.none rfl rfl ?_
            refine o_move (bp (((m.mul).getD (r) 0) < (((1 : Nat) : Int)))) Gd.none rfl ?_
            refine o_splitP (q := ((m.mul).getD (r) 0) < (((1 : Nat) : Int))) 39 rfl (fun h6 => ?_) (fun h6 => ?_)
            · refine o_skip (b := decide (((m.mul).getD (r) 0) < (((1 : Nat) : Int)))) rfl rfl (decide_eq_true h6) ?_
              refine o_skip (b := decide (((m.mul).getD (r) 0) < (((1 : Nat) : Int)))) rfl rfl (decide_eq_true h6) ?_
              refine o_skip (b := decide (((m.mul).getD (r) 0) < (((1 : Nat) : Int)))) rfl rfl (decide_eq_true h6) ?_
              refine o_skip (b := decide (((m.mul).getD (r) 0) < (((1 : Nat) : Int)))) rfl rfl (decide_eq_true h6) ?_
              refine o_skip (b := decide (((m.mul).getD (r) 0) < (((1 : Nat) : Int)))) rfl rfl (decide_eq_true h6) ?_
              refine o_skip (b := decide (((m.mul).getD (r) 0) < (((1 : Nat) : Int)))) rfl rfl (decide_eq_true h6) ?_
              refine o_pickT (b := decide (((m.mul).getD (r) 0) < (((1 : Nat) : Int)))) (AV.lit (.bool true)) Gd.none rfl (decide_eq_true h6) rfl ?_
              refine o_move (AV.lit (.bool true)) Gd.none rfl ?_
              refine o_skip (b := true) rfl rfl rfl ?_
              refine o_skip (b := true) rfl rfl rfl ?_
              refine o_skip (b := true) rfl rfl rfl ?_
              refine o_skip (b := true) rfl rfl rfl ?_
              refine o_skip (b := true) rfl rfl rfl ?_
              refine o_skip (b := true) rfl rfl rfl ?_
              refine o_pickT (b := true) (AV.lit (.bool true)) Gd.none rfl rfl rfl ?_
              refine o_move (AV.lit (.bool true)) Gd.none rfl ?_
              refine o_skip (b := true) rfl rfl rfl ?_
              refine o_skip (b := true) rfl rfl rfl ?_
              refine o_skip (b := true) rfl rfl rfl ?_
              refine o_skip (b := true) rfl rfl rfl ?_
              refine o_skip (b := true) rfl rfl rfl ?_
              refine o_skip (b := true) rfl rfl rfl ?_
              refine o_pickT (b := true) (AV.lit (.bool true)) Gd.none rfl rfl rfl ?_
              refine o_move (AV.lit (.bool true)) Gd.none rfl ?_
              refine o_skip (b := true) rfl rfl rfl ?_
              refine o_skip (b := true) rfl rfl rfl ?_
              refine o_skip (b := true) rfl rfl rfl ?_
              refine o_skip (b := true) rfl rfl rfl ?_
              refine o_skip (b := true) rfl rfl rfl ?_
              refine o_skip (b := true) rfl rfl rfl ?_
              refine o_skip (b := true) rfl rfl rfl ?_
              refine o_skip (b := true) rfl rfl rfl ?_
              refine o_skip (b := true) rfl rfl rfl ?_
              refine o_skip (b := true) rfl rfl rfl ?_
              refine o_skip (b := true) rfl rfl rfl ?_
              refine o_skip (b := true) rfl rfl rfl ?_
              refine o_skip (b := true) rfl rfl rfl ?_
              refine o_skip (b := true) rfl rfl rfl ?_
              refine o_skip (b := true) rfl rfl rfl ?_
              refine o_skip (b := true) rfl rfl rfl ?_
              refine o_skip (b := true) rfl rfl rfl ?_
              refine o_pickT (b := true) (AV.lit (.bool true)) Gd.none rfl rfl rfl ?_
              refine aops_end ⟨by kernel_rfl, ?_⟩
              refine hK13 _ ?_
              refine awp_condB (b := true) rfl (fun _ => ?_) (fun hh => absurd (hh.symm.trans rfl) (by decide))
              refine awp_seq fun K14 hK14 => ?_
              refine awp_region rfl ?_
              refine o_assign (AV.lit (.bool false)) Gd.none rfl ?_
              refine aops_end ?_
              refine hK14 _ ?_
              refine awp_ret ?_
              refine post_ret ⟨[(AV.lit (.bool false))], And.intro (AV.le_refl _) (trivial), rfl, ?_⟩
              refine bl_eq (okM_no fun h => ?_)
              obtain ⟨o1, o2, o3, o4, o5⟩ := h
              first | omega | (have := o5 r (by omega); omega)
            · refine o_fieldRef 1 (Gd.yes rfl rfl (decide_eq_false h6)) Wi_tF24_1 rfl rfl ?_
              refine o_loadS (AV.sl 1 (is .i64 (m.mul))) (Gd.yes rfl rfl (decide_eq_false h6)) Wi_tS22 rfl rfl rfl ?_
              refine o_move (nm .i64 (r)) (Gd.yes rfl rfl (decide_eq_false h6)) rfl ?_
              refine i_index (m.mul) (r) (Gd.yes rfl rfl (decide_eq_false h6)) Wi_tE22 rfl rfl (by omega) ?_
              refine i_loadI (m.mul) (r) (Gd.yes rfl rfl (decide_eq_false h6)) Wi_tS3 rfl (by omega) ?_
              refine o_gtr (a := ((m.mul).getD (r) 0)) (c := (((999 : Nat) : Int))) (Gd.yes rfl rfl (decide_eq_false h6)) rfl rfl ?_
              refine o_pickF (b := decide (((m.mul).getD (r) 0) < (((1 : Nat) : Int)))) (bp ((((999 : Nat) : Int)) < ((m.mul).getD (r) 0))) Gd.none rfl (decide_eq_false h6) rfl ?_
              refine o_move (bp ((((999 : Nat) : Int)) < ((m.mul).getD (r) 0))) Gd.none rfl ?_
              refine o_splitP (q := (((999 : Nat) : Int)) < ((m.mul).getD (r) 0)) 47 rfl (fun h7 => ?_) (fun h7 => ?_)
              · refine o_skip (b := decide ((((999 : Nat) : Int)) < ((m.mul).getD (r) 0))) rfl rfl (decide_eq_true h7) ?_
                refine o_skip (b := decide ((((999 : Nat) : Int)) < ((m.mul).getD (r) 0))) rfl rfl (decide_eq_true h7) ?_
                refine o_skip (b := decide ((((999 : Nat) : Int)) < ((m.mul).getD (r) 0))) rfl rfl (decide_eq_true h7) ?_
                refine o_skip (b := decide ((((999 : Nat) : Int)) < ((m.mul).getD (r) 0))) rfl rfl (decide_eq_true h7) ?_
                refine o_skip (b := decide ((((999 : Nat) : Int)) < ((m.mul).getD (r) 0))) rfl rfl (decide_eq_true h7) ?_
                refine o_skip (b := decide ((((999 : Nat) : Int)) < ((m.mul).getD (r) 0))) rfl rfl (decide_eq_true h7) ?_
                refine o_pickT (b := decide ((((999 : Nat) : Int)) < ((m.mul).getD (r) 0))) (AV.lit (.bool true)) Gd.none rfl (decide_eq_true h7) rfl ?_
                refine o_move (AV.lit (.bool true)) Gd.none rfl ?_
                refine o_skip (b := true) rfl rfl rfl ?_
                refine o_skip (b := true) rfl rfl rfl ?_
                refine o_skip (b := true) rfl rfl rfl ?_
                refine o_skip (b := true) rfl rfl rfl ?_
                refine o_skip (b := true) rfl rfl rfl ?_
                refine o_skip (b := true) rfl rfl rfl ?_
                refine o_pickT (b := true) (AV.lit (.bool true)) Gd.none rfl rfl rfl ?_
                refine o_move (AV.lit (.bool true)) Gd.none rfl ?_
                refine o_skip (b := true) rfl rfl rfl ?_
                refine o_skip (b := true) rfl rfl rfl ?_
                refine o_skip (b := true) rfl rfl rfl ?_
                refine o_skip (b := true) rfl rfl rfl ?_
                refine o_skip (b := true) rfl rfl rfl ?_
                refine o_skip (b := true) rfl rfl rfl ?_
                refine o_skip (b := true) rfl rfl rfl ?_
                refine o_skip (b := true) rfl rfl rfl ?_
                refine o_skip (b := true) rfl rfl rfl ?_
                refine o_skip (b := true) rfl rfl rfl ?_
                refine o_skip (b := true) rfl rfl rfl ?_
                refine o_skip (b := true) rfl rfl rfl ?_
                refine o_skip (b := true) rfl rfl rfl ?_
                refine o_skip (b := true) rfl rfl rfl ?_
                refine o_skip (b := true) rfl rfl rfl ?_
                refine o_skip (b := true) rfl rfl rfl ?_
                refine o_skip (b := true) rfl rfl rfl ?_
                refine o_pickT (b := true) (AV.lit (.bool true)) Gd.none rfl rfl rfl ?_
                refine aops_end ⟨by kernel_rfl, ?_⟩
                refine hK13 _ ?_
                refine awp_condB (b := true) rfl (fun _ => ?_) (fun hh => absurd (hh.symm.trans rfl) (by decide))
                refine awp_seq fun K15 hK15 => ?_
                refine awp_region rfl ?_
                refine o_assign (AV.lit (.bool false)) Gd.none rfl ?_
                refine aops_end ?_
                refine hK15 _ ?_
                refine awp_ret ?_
                refine post_ret ⟨[(AV.lit (.bool false))], And.intro (AV.le_refl _) (trivial), rfl, ?_⟩
                refine bl_eq (okM_no fun h => ?_)
                obtain ⟨o1, o2, o3, o4, o5⟩ := h
                first | omega | (have := o5 r (by omega); omega)
              · refine o_fieldRef 2 (Gd.yes rfl rfl (decide_eq_false h7)) Wi_tF24_2 rfl rfl ?_
                refine o_loadS (AV.sl 1 (is .i64 (m.add))) (Gd.yes rfl rfl (decide_eq_false h7)) Wi_tS22 rfl rfl rfl ?_
                refine o_move (nm .i64 (r)) (Gd.yes rfl rfl (decide_eq_false h7)) rfl ?_
                refine i_index (m.add) (r) (Gd.yes rfl rfl (decide_eq_false h7)) Wi_tE22 rfl rfl (by omega) ?_
                refine i_loadI (m.add) (r) (Gd.yes rfl rfl (decide_eq_false h7)) Wi_tS3 rfl (by omega) ?_
                refine o_lss (a := ((m.add).getD (r) 0)) (c := ((-999999))) (Gd.yes rfl rfl (decide_eq_false h7)) rfl rfl ?_
                refine o_pickF (b := decide ((((999 : Nat) : Int)) < ((m.mul).getD (r) 0))) (bp (((m.add).getD (r) 0) < ((-999999)))) Gd.none rfl (decide_eq_false h7) rfl ?_
                refine o_move (bp (((m.add).getD (r) 0) < ((-999999)))) Gd.none rfl ?_
                refine o_splitP (q := ((m.add).getD (r) 0) < ((-999999))) 55 rfl (fun h8 => ?_) (fun h8 => ?_)
                · refine o_skip (b := decide (((m.add).getD (r) 0) < ((-999999)))) rfl rfl (decide_eq_true h8) ?_
                  refine o_skip (b := decide (((m.add).getD (r) 0) < ((-999999)))) rfl rfl (decide_eq_true h8) ?_
                  refine o_skip (b := decide (((m.add).getD (r) 0) < ((-999999)))) rfl rfl (decide_eq_true h8) ?_
                  refine o_skip (b := decide (((m.add).getD (r) 0) < ((-999999)))) rfl rfl (decide_eq_true h8) ?_
                  refine o_skip (b := decide (((m.add).getD (r) 0) < ((-999999)))) rfl rfl (decide_eq_true h8) ?_
                  refine o_skip (b := decide (((m.add).getD (r) 0) < ((-999999)))) rfl rfl (decide_eq_true h8) ?_
                  refine o_pickT (b := decide (((m.add).getD (r) 0) < ((-999999)))) (AV.lit (.bool true)) Gd.none rfl (decide_eq_true h8) rfl ?_
                  refine o_move (AV.lit (.bool true)) Gd.none rfl ?_
                  refine o_skip (b := true) rfl rfl rfl ?_
                  refine o_skip (b := true) rfl rfl rfl ?_
                  refine o_skip (b := true) rfl rfl rfl ?_
                  refine o_skip (b := true) rfl rfl rfl ?_
                  refine o_skip (b := true) rfl rfl rfl ?_
                  refine o_skip (b := true) rfl rfl rfl ?_
                  refine o_skip (b := true) rfl rfl rfl ?_
                  refine o_skip (b := true) rfl rfl rfl ?_
                  refine o_skip (b := true) rfl rfl rfl ?_
                  refine o_skip (b := true) rfl rfl rfl ?_
                  refine o_skip (b := true) rfl rfl rfl ?_
                  refine o_skip (b := true) rfl rfl rfl ?_
                  refine o_skip (b := true) rfl rfl rfl ?_
                  refine o_skip (b := true) rfl rfl rfl ?_
                  refine o_skip (b := true) rfl rfl rfl ?_
                  refine o_skip (b := true) rfl rfl rfl ?_
                  refine o_skip (b := true) rfl rfl rfl ?_
                  refine o_pickT (b := true) (AV.lit (.bool true)) Gd.none rfl rfl rfl ?_
                  refine aops_end ⟨by kernel_rfl, ?_⟩
                  refine hK13 _ ?_
                  refine awp_condB (b := true) rfl (fun _ => ?_) (fun hh => absurd (hh.symm.trans rfl) (by decide))
                  refine awp_seq fun K16 hK16 => ?_
                  refine awp_region rfl ?_
                  refine o_assign (AV.lit (.bool false)) Gd.none rfl ?_
                  refine aops_end ?_
                  refine hK16 _ ?_
                  refine awp_ret ?_
                  refine post_ret ⟨[(AV.lit (.bool false))], And.intro (AV.le_refl _) (trivial), rfl, ?_⟩
                  refine bl_eq (okM_no fun h => ?_)
                  obtain ⟨o1, o2, o3, o4, o5⟩ := h
                  first | omega | (have := o5 r (by omega); omega)
                · refine o_fieldRef 2 (Gd.yes rfl rfl (decide_eq_false h8)) Wi_tF24_2 rfl rfl ?_
                  refine o_loadS (AV.sl 1 (is .i64 (m.add))) (Gd.yes rfl rfl (decide_eq_false h8)) Wi_tS22 rfl rfl rfl ?_
                  refine o_move (nm .i64 (r)) (Gd.yes rfl rfl (decide_eq_false h8)) rfl ?_
                  refine i_index (m.add) (r) (Gd.yes rfl rfl (decide_eq_false h8)) Wi_tE22 rfl rfl (by omega) ?_
                  refine i_loadI (m.add) (r) (Gd.yes rfl rfl (decide_eq_false h8)) Wi_tS3 rfl (by omega) ?_
                  refine o_gtr (a := ((m.add).getD (r) 0)) (c := (((999999 : Nat) : Int))) (Gd.yes rfl rfl (decide_eq_false h8)) rfl rfl ?_
                  refine o_pickF (b := decide (((m.add).getD (r) 0) < ((-999999)))) (bp ((((999999 : Nat) : Int)) < ((m.add).getD (r) 0))) Gd.none rfl (decide_eq_false h8) rfl ?_
                  refine o_move (bp ((((999999 : Nat) : Int)) < ((m.add).getD (r) 0))) Gd.none rfl ?_
                  refine o_splitP (q := (((999999 : Nat) : Int)) < ((m.add).getD (r) 0)) 63 rfl (fun h9 => ?_) (fun h9 => ?_)
                  · refine o_skip (b := decide ((((999999 : Nat) : Int)) < ((m.add).getD (r) 0))) rfl rfl (decide_eq_true h9) ?_
                    refine o_skip (b := decide ((((999999 : Nat) : Int)) < ((m.add).getD (r) 0))) rfl rfl (decide_eq_true h9) ?_
                    refine o_skip (b := decide ((((999999 : Nat) : Int)) < ((m.add).getD (r) 0))) rfl rfl (decide_eq_true h9) ?_
                    refine o_skip (b := decide ((((999999 : Nat) : Int)) < ((m.add).getD (r) 0))) rfl rfl (decide_eq_true h9) ?_
                    refine o_skip (b := decide ((((999999 : Nat) : Int)) < ((m.add).getD (r) 0))) rfl rfl (decide_eq_true h9) ?_
                    refine o_skip (b := decide ((((999999 : Nat) : Int)) < ((m.add).getD (r) 0))) rfl rfl (decide_eq_true h9) ?_
                    refine o_skip (b := decide ((((999999 : Nat) : Int)) < ((m.add).getD (r) 0))) rfl rfl (decide_eq_true h9) ?_
                    refine o_skip (b := decide ((((999999 : Nat) : Int)) < ((m.add).getD (r) 0))) rfl rfl (decide_eq_true h9) ?_
                    refine o_skip (b := decide ((((999999 : Nat) : Int)) < ((m.add).getD (r) 0))) rfl rfl (decide_eq_true h9) ?_
                    refine o_skip (b := decide ((((999999 : Nat) : Int)) < ((m.add).getD (r) 0))) rfl rfl (decide_eq_true h9) ?_
                    refine o_skip (b := decide ((((999999 : Nat) : Int)) < ((m.add).getD (r) 0))) rfl rfl (decide_eq_true h9) ?_
                    refine o_skip (b := decide ((((999999 : Nat) : Int)) < ((m.add).getD (r) 0))) rfl rfl (decide_eq_true h9) ?_
                    refine o_skip (b := decide ((((999999 : Nat) : Int)) < ((m.add).getD (r) 0))) rfl rfl (decide_eq_true h9) ?_
                    refine o_skip (b := decide ((((999999 : Nat) : Int)) < ((m.add).getD (r) 0))) rfl rfl (decide_eq_true h9) ?_
                    refine o_skip (b := decide ((((999999 : Nat) : Int)) < ((m.add).getD (r) 0))) rfl rfl (decide_eq_true h9) ?_
                    refine o_skip (b := decide ((((999999 : Nat) : Int)) < ((m.add).getD (r) 0))) rfl rfl (decide_eq_true h9) ?_
                    refine o_skip (b := decide ((((999999 : Nat) : Int)) < ((m.add).getD (r) 0))) rfl rfl (decide_eq_true h9) ?_
                    refine o_pickT (b := decide ((((999999 : Nat) : Int)) < ((m.add).getD (r) 0))) (AV.lit (.bool true)) Gd.none rfl (decide_eq_true h9) rfl ?_
                    refine aops_end ⟨by kernel_rfl, ?_⟩
                    refine hK13 _ ?_
                    refine awp_condB (b := true) rfl (fun _ => ?_) (fun hh => absurd (hh.symm.trans rfl) (by decide))
                    refine awp_seq fun K17 hK17 => ?_
                    refine awp_region rfl ?_
                    refine o_assign (AV.lit (.bool false)) Gd.none rfl ?_
                    refine aops_end ?_
                    refine hK17 _ ?_
                    refine awp_ret ?_
                    refine post_ret ⟨[(AV.lit (.bool false))], And.intro (AV.le_refl _) (trivial), rfl, ?_⟩
                    refine bl_eq (okM_no fun h => ?_)
                    obtain ⟨o1, o2, o3, o4, o5⟩ := h
                    first | omega | (have := o5 r (by omega); omega)
                  · refine o_fieldRef 1 (Gd.yes rfl rfl (decide_eq_false h9)) Wi_tF24_1 rfl rfl ?_
                    refine o_loadS (AV.sl 1 (is .i64 (m.mul))) (Gd.yes rfl rfl (decide_eq_false h9)) Wi_tS22 rfl rfl rfl ?_
                    refine o_move (nm .i64 (r)) (Gd.yes rfl rfl (decide_eq_false h9)) rfl ?_
                    refine i_index (m.mul) (r) (Gd.yes rfl rfl (decide_eq_false h9)) Wi_tE22 rfl rfl (by omega) ?_
                    refine i_loadI (m.mul) (r) (Gd.yes rfl rfl (decide_eq_false h9)) Wi_tS3 rfl (by omega) ?_
                    refine o_move (nm .i64 (r)) (Gd.yes rfl rfl (decide_eq_false h9)) rfl ?_
                    refine o_mul (a := ((m.mul).getD (r) 0)) (c := (((r : Nat) : Int))) (Gd.yes rfl rfl (decide_eq_false h9)) rfl rfl (by have hm := mulb (a := (m.mul).getD (r) 0) (r := (r : Int)) (by omega) (by omega) (by omega) (by omega); exact wrap64 (by omega) (by omega)) ?_
                    refine o_fieldRef 2 (Gd.yes rfl rfl (decide_eq_false h9)) Wi_tF24_2 rfl rfl ?_
                    refine o_loadS (AV.sl 1 (is .i64 (m.add))) (Gd.yes rfl rfl (decide_eq_false h9)) Wi_tS22 rfl rfl rfl ?_
                    refine o_move (nm .i64 (r)) (Gd.yes rfl rfl (decide_eq_false h9)) rfl ?_
                    refine i_index (m.add) (r) (Gd.yes rfl rfl (decide_eq_false h9)) Wi_tE22 rfl rfl (by omega) ?_
                    refine i_loadI (m.add) (r) (Gd.yes rfl rfl (decide_eq_false h9)) Wi_tS3 rfl (by omega) ?_
                    refine o_add (a := (((m.mul).getD (r) 0) * (((r : Nat) : Int)))) (c := ((m.add).getD (r) 0)) (Gd.yes rfl rfl (decide_eq_false h9)) rfl rfl (by have hm := mulb (a := (m.mul).getD (r) 0) (r := (r : Int)) (by omega) (by omega) (by omega) (by omega); exact wrap64 (by omega) (by omega)) ?_
                    refine o_fieldRef 0 (Gd.yes rfl rfl (decide_eq_false h9)) Wi_tF24_0 rfl rfl ?_
                    refine o_loadS (AV.lit (.int .i64 (m.mod))) (Gd.yes rfl rfl (decide_eq_false h9)) Wi_tS3 rfl rfl rfl ?_
                    refine o_remT (a := ((((m.mul).getD (r) 0) * (((r : Nat) : Int))) + ((m.add).getD (r) 0))) (c := (m.mod)) (Gd.yes rfl rfl (decide_eq_false h9)) rfl rfl (by omega) ?_
                    refine o_neq (a := (Int.tmod ((((m.mul).getD (r) 0) * (((r : Nat) : Int))) + ((m.add).getD (r) 0)) (m.mod))) (c := (((0 : Nat) : Int))) (Gd.yes rfl rfl (decide_eq_false h9)) rfl rfl ?_
                    refine o_pickF (b := decide ((((999999 : Nat) : Int)) < ((m.add).getD (r) 0))) (bp ((Int.tmod ((((m.mul).getD (r) 0) * (((r : Nat) : Int))) + ((m.add).getD (r) 0)) (m.mod)) ≠ (((0 : Nat) : Int)))) Gd.none rfl (decide_eq_false h9) rfl ?_
                    refine aops_end ⟨by kernel_rfl, ?_⟩
                    refine hK13 _ ?_
                    refine awp_condQ (q := (Int.tmod ((((m.mul).getD (r) 0) * (((r : Nat) : Int))) + ((m.add).getD (r) 0)) (m.mod)) ≠ (((0 : Nat) : Int))) rfl (fun h10 => ?_) (fun h10 => ?_)
                    · refine awp_seq fun K18 hK18 => ?_
                      refine awp_region rfl ?_
                      refine o_assign (AV.lit (.bool false)) Gd.none rfl ?_
                      refine aops_end ?_
                      refine hK18 _ ?_
                      refine awp_ret ?_
                      refine post_ret ⟨[(AV.lit (.bool false))], And.intro (AV.le_refl _) (trivial), rfl, ?_⟩
                      refine bl_eq (okM_no fun h => ?_)
                      obtain ⟨o1, o2, o3, o4, o5⟩ := h
                      first | omega | (have := o5 r (by omega); omega)
                    · refine awp_skip ?_
                      refine hK11 _ ?_
                      refine awp_region rfl ?_
                      refine n_add (r) (1) Gd.none rfl rfl (by simp only [topOf]; omega) ?_
                      refine o_move (nm .i64 ((r) + (1))) Gd.none rfl ?_
                      refine aops_end ?_
                      refine ⟨_, _, ?lt, ⟨r + 1, (by omega), (fun i hi => by by_cases e : i = r; subst e; exact ⟨by omega, by omega, by omega, by omega, by omega⟩; exact hv i (by omega)), rfl, rfl⟩, ?wk⟩
                      case lt => omega
                      case wk => exact Wk.sub (And.intro rfl (And.intro rfl (And.intro (by first | rfl | exact congrArg (nm _) (by omega) | exact nm_int (by omega) | exact nm_int (by simp [IntKind.wrap, IntKind.bits, IntKind.signed]; omega)) (trivial)))) (And.intro rfl (trivial))
          · refine awp_exit ?_
            refine hK7 _ ?_
            refine awp_seq fun K19 hK19 => ?_
            refine awp_region rfl ?_
            refine o_assign (AV.lit (.bool true)) Gd.none rfl ?_
            refine aops_end ?_
            refine hK19 _ ?_
            refine awp_ret ?_
            refine post_ret ⟨[(AV.lit (.bool true))], And.intro (AV.le_refl _) (trivial), rfl, ?_⟩
            refine bl_eq (okM_yes ⟨by omega, by omega, by omega, by omega, fun i hi => hv i (by omega)⟩)

theorem c_sNext (m : MapM) (z : Int) (hm : OkM m) (hz : (digs z.natAbs).length ≤ 1000000) : ECalls cx 50 [(mapV m), (intW (z))] (.tup [intW (stepZ m z), .lit (.int .i64 (z % m.mod))]) := by
  refine ecalls_of_awp Tryd.func50 (c := _) rfl (Nat.le_of_ble_eq_true rfl) ?_
  show awp cx 40 _ (postF cx Tryd.f50 _) ⟨[(0, (mapV m)), (1, (intW (z)))], []⟩
  have hM := hm
  obtain ⟨o1, o2, o3, o4, o5⟩ := hm
  have hr0 := Int.emod_nonneg z (b := m.mod) (by omega)
  have hr1 := Int.emod_lt_of_pos z (b := m.mod) (by omega)
  have hr := o5 (z % m.mod).toNat (by omega)
  have hL1 := small_len (z := ((m.mul).getD ((z % m.mod).toNat) 0)) (by omega)
  have hL2 := small_len (z := ((m.add).getD ((z % m.mod).toNat) 0)) (by omega)
  have hL3 := len_mulZ z ((m.mul).getD ((z % m.mod).toNat) 0)
  have hL4 := len_addZ (z * ((m.mul).getD ((z % m.mod).toNat) 0)) ((m.add).getD ((z % m.mod).toNat) 0)
  have hmd : ((m.mod.toNat : Nat) : Int) = m.mod := Int.toNat_of_nonneg (by omega)
  refine awp_seq fun K0 hK0 => ?_
  refine awp_region rfl ?_
  refine o_box 2 [(AV.lit (.int .i64 (m.mod))), (AV.sl 1 (is .i64 (m.mul))), (AV.sl 1 (is .i64 (m.add)))] Gd.none rfl rfl ?_
  refine o_box 3 [(bp (z < 0)), (AV.sl 1 (ns .u32 (digs (z).natAbs)))] Gd.none rfl rfl ?_
  refine o_alloc 4 [(AV.lit (.bool false)), (AV.lit (.slice none 0 0))] Gd.none Wi_tO79 rfl rfl rfl ?_
  refine o_assign (nm .i64 (0)) Gd.none rfl ?_
  refine aops_end ?_
  refine hK0 _ ?_
  refine awp_seq fun K1 hK1 => ?_
  refine awp_region rfl ?_
  refine o_loadA [(bp (z < 0)), (AV.sl 1 (ns .u32 (digs (z).natAbs)))] Gd.none Wi_tA79 rfl rfl rfl rfl rfl ?_
  refine o_fieldRef 0 Gd.none Wi_tF24_0 rfl rfl ?_
  refine o_loadS (AV.lit (.int .i64 (m.mod))) Gd.none Wi_tS3 rfl rfl rfl ?_
  refine n_as (v' := (nm .i64 (m.mod.toNat))) (nm_int (by omega)) ?_
  refine o_call [(intW (z)), (nm .i64 (m.mod.toNat))] (AV.tup [(intW ((z / ((m.mod.toNat : Nat) : Int)))), (AV.lit (.int .i64 (z % ((m.mod.toNat : Nat) : Int))))]) Gd.none Wi_tC63 rfl (c_wQR (z) (m.mod.toNat) (by omega) (by omega) (by first | omega | assumption | (simp only [Int.natAbs_neg]; omega))) ?_
  refine o_move (AV.tup [(intW ((z / ((m.mod.toNat : Nat) : Int)))), (AV.lit (.int .i64 (z % ((m.mod.toNat : Nat) : Int))))]) Gd.none rfl ?_
  refine o_extract (intW ((z / ((m.mod.toNat : Nat) : Int)))) Gd.none rfl rfl ?_
  refine o_extract (AV.lit (.int .i64 (z % ((m.mod.toNat : Nat) : Int)))) Gd.none rfl rfl ?_
  refine n_as (v' := (nm .i64 ((z % m.mod).toNat))) (nm_int (by rw [hmd]; omega)) ?_
  refine o_alloc 5 [(AV.lit (.bool false)), (AV.lit (.slice none 0 0))] Gd.none Wi_tO79 rfl rfl rfl ?_
  refine o_store [(5, (oZ 79 .u32 ((z / ((m.mod.toNat : Nat) : Int))))), (4, (AO.var 79 [(AV.lit (.bool false)), (AV.lit (.slice none 0 0))])), (3, (oZ 79 .u32 (z))), (2, (oM 24 m))] Gd.none Wi_tZ79 rfl rfl rfl rfl rfl rfl ?_
  refine o_assign (nm .i64 ((z % m.mod).toNat)) Gd.none rfl ?_
  refine aops_end ?_
  refine hK1 _ ?_
  refine awp_seq fun K2 hK2 => ?_
  refine awp_regionD rfl ?_
  refine o_loadA [(bp (z < 0)), (AV.sl 1 (ns .u32 (digs (z).natAbs)))] Gd.none Wi_tA79 rfl rfl rfl rfl rfl ?_
  refine o_fieldRef 1 Gd.none Wi_tF24_1 rfl rfl ?_
  refine o_loadS (AV.sl 1 (is .i64 (m.mul))) Gd.none Wi_tS22 rfl rfl rfl ?_
  refine o_move (nm .i64 ((z % m.mod).toNat)) Gd.none rfl ?_
  refine n_as (v' := (nm .i64 ((z % m.mod).toNat))) (congrArg (nm _) (by omega)) ?_
  refine i_index (m.mul) ((z % m.mod).toNat) Gd.none Wi_tE22 rfl rfl (by omega) ?_
  refine i_loadI (m.mul) ((z % m.mod).toNat) Gd.none Wi_tS3 rfl (by omega) ?_
  refine o_call [(AV.lit (.int .i64 ((m.mul).getD ((z % m.mod).toNat) 0)))] (intW ((m.mul).getD ((z % m.mod).toNat) 0)) Gd.none Wi_tC59 rfl (c_wOf ((m.mul).getD ((z % m.mod).toNat) 0) (by first | decide | omega) (by first | decide | omega)) ?_
  refine o_call [(intW (z)), (intW ((m.mul).getD ((z % m.mod).toNat) 0))] (intW ((z * (m.mul).getD ((z % m.mod).toNat) 0))) Gd.none Wi_tC60 rfl (c_wMul (z) ((m.mul).getD ((z % m.mod).toNat) 0) (by first | omega | assumption | (simp only [Int.natAbs_neg]; omega)) (by first | omega | assumption | (simp only [Int.natAbs_neg]; omega))) ?_
  refine o_fieldRef 2 Gd.none Wi_tF24_2 rfl rfl ?_
  refine o_loadS (AV.sl 1 (is .i64 (m.add))) Gd.none Wi_tS22 rfl rfl rfl ?_
  refine o_move (nm .i64 ((z % m.mod).toNat)) Gd.none rfl ?_
  refine n_as (v' := (nm .i64 ((z % m.mod).toNat))) (congrArg (nm _) (by omega)) ?_
  refine i_index (m.add) ((z % m.mod).toNat) Gd.none Wi_tE22 rfl rfl (by omega) ?_
  refine i_loadI (m.add) ((z % m.mod).toNat) Gd.none Wi_tS3 rfl (by omega) ?_
  refine o_call [(AV.lit (.int .i64 ((m.add).getD ((z % m.mod).toNat) 0)))] (intW ((m.add).getD ((z % m.mod).toNat) 0)) Gd.none Wi_tC59 rfl (c_wOf ((m.add).getD ((z % m.mod).toNat) 0) (by first | decide | omega) (by first | decide | omega)) ?_
  refine o_call [(intW ((z * (m.mul).getD ((z % m.mod).toNat) 0))), (intW ((m.add).getD ((z % m.mod).toNat) 0))] (intW (((z * (m.mul).getD ((z % m.mod).toNat) 0) + (m.add).getD ((z % m.mod).toNat) 0))) Gd.none Wi_tC61 rfl (c_wAdd ((z * (m.mul).getD ((z % m.mod).toNat) 0)) ((m.add).getD ((z % m.mod).toNat) 0) (by first | omega | assumption | (simp only [Int.natAbs_neg]; omega)) (by first | omega | assumption | (simp only [Int.natAbs_neg]; omega))) ?_
  refine o_fieldRef 0 Gd.none Wi_tF24_0 rfl rfl ?_
  refine o_loadS (AV.lit (.int .i64 (m.mod))) Gd.none Wi_tS3 rfl rfl rfl ?_
  refine n_as (v' := (nm .i64 (m.mod.toNat))) (nm_int (by omega)) ?_
  refine o_call [(intW (((z * (m.mul).getD ((z % m.mod).toNat) 0) + (m.add).getD ((z % m.mod).toNat) 0))), (nm .i64 (m.mod.toNat))] (AV.tup [(intW ((((z * (m.mul).getD ((z % m.mod).toNat) 0) + (m.add).getD ((z % m.mod).toNat) 0) / ((m.mod.toNat : Nat) : Int)))), (AV.lit (.int .i64 (((z * (m.mul).getD ((z % m.mod).toNat) 0) + (m.add).getD ((z % m.mod).toNat) 0) % ((m.mod.toNat : Nat) : Int))))]) Gd.none Wi_tC63 rfl (c_wQR (((z * (m.mul).getD ((z % m.mod).toNat) 0) + (m.add).getD ((z % m.mod).toNat) 0)) (m.mod.toNat) (by omega) (by omega) (by first | omega | assumption | (simp only [Int.natAbs_neg]; omega))) ?_
  refine o_move (AV.tup [(intW ((((z * (m.mul).getD ((z % m.mod).toNat) 0) + (m.add).getD ((z % m.mod).toNat) 0) / ((m.mod.toNat : Nat) : Int)))), (AV.lit (.int .i64 (((z * (m.mul).getD ((z % m.mod).toNat) 0) + (m.add).getD ((z % m.mod).toNat) 0) % ((m.mod.toNat : Nat) : Int))))]) Gd.none rfl ?_
  refine o_extract (intW ((((z * (m.mul).getD ((z % m.mod).toNat) 0) + (m.add).getD ((z % m.mod).toNat) 0) / ((m.mod.toNat : Nat) : Int)))) Gd.none rfl rfl ?_
  refine o_extract (AV.lit (.int .i64 (((z * (m.mul).getD ((z % m.mod).toNat) 0) + (m.add).getD ((z % m.mod).toNat) 0) % ((m.mod.toNat : Nat) : Int)))) Gd.none rfl rfl ?_
  refine o_alloc 6 [(AV.lit (.bool false)), (AV.lit (.slice none 0 0))] Gd.none Wi_tO79 rfl rfl rfl ?_
  refine o_store [(6, (oZ 79 .u32 ((((z * (m.mul).getD ((z % m.mod).toNat) 0) + (m.add).getD ((z % m.mod).toNat) 0) / ((m.mod.toNat : Nat) : Int))))), (5, (oZ 79 .u32 ((z / ((m.mod.toNat : Nat) : Int))))), (4, (AO.var 79 [(AV.lit (.bool false)), (AV.lit (.slice none 0 0))])), (3, (oZ 79 .u32 (z))), (2, (oM 24 m))] Gd.none Wi_tZ79 rfl rfl rfl rfl rfl rfl ?_
  refine o_assign (AV.lit (.int .i64 (((z * (m.mul).getD ((z % m.mod).toNat) 0) + (m.add).getD ((z % m.mod).toNat) 0) % ((m.mod.toNat : Nat) : Int)))) Gd.none rfl ?_
  refine aops_end ⟨by kernel_rfl, ?_⟩
  refine hK2 _ ?_
  refine awp_seq fun K3 hK3 => ?_
  refine awp_region rfl ?_
  refine o_loadA [(bp ((((z * (m.mul).getD ((z % m.mod).toNat) 0) + (m.add).getD ((z % m.mod).toNat) 0) / ((m.mod.toNat : Nat) : Int)) < 0)), (AV.sl 1 (ns .u32 (digs ((((z * (m.mul).getD ((z % m.mod).toNat) 0) + (m.add).getD ((z % m.mod).toNat) 0) / ((m.mod.toNat : Nat) : Int))).natAbs)))] Gd.none Wi_tA79 rfl rfl rfl rfl rfl ?_
  refine o_move (nm .i64 ((z % m.mod).toNat)) Gd.none rfl ?_
  refine o_store [(6, (oZ 79 .u32 ((((z * (m.mul).getD ((z % m.mod).toNat) 0) + (m.add).getD ((z % m.mod).toNat) 0) / ((m.mod.toNat : Nat) : Int))))), (5, (oZ 79 .u32 ((z / ((m.mod.toNat : Nat) : Int))))), (4, (oZ 79 .u32 ((((z * (m.mul).getD ((z % m.mod).toNat) 0) + (m.add).getD ((z % m.mod).toNat) 0) / ((m.mod.toNat : Nat) : Int))))), (3, (oZ 79 .u32 (z))), (2, (oM 24 m))] Gd.none Wi_tZ79 rfl rfl rfl rfl rfl rfl ?_
  refine o_assign (nm .i64 ((z % m.mod).toNat)) Gd.none rfl ?_
  refine aops_end ?_
  refine hK3 _ ?_
  refine awp_ret ?_
  refine post_ret ⟨[(intW ((((z * (m.mul).getD ((z % m.mod).toNat) 0) + (m.add).getD ((z % m.mod).toNat) 0) / ((m.mod.toNat : Nat) : Int)))), (nm .i64 ((z % m.mod).toNat))], And.intro ⟨4, (oZ 79 .u32 ((((z * (m.mul).getD ((z % m.mod).toNat) 0) + (m.add).getD ((z % m.mod).toNat) 0) / ((m.mod.toNat : Nat) : Int)))), rfl, rfl, rfl, Or.inl ⟨Wi_tA79, AV.le_refl _⟩⟩ (And.intro (AV.le_refl _) (trivial)), rfl, ?_⟩
  exact tup_eq2 (congrArg (intK .u32) (by unfold stepZ; rw [hmd, Int.mul_comm z])) (int_nm (by omega)).symm

theorem c_sLong (z : Int) (hz : (digs z.natAbs).length ≤ 1000000000) : ECalls cx 77 [(intW (z))] (bp (¬ Fit z)) := by
  refine ecalls_of_awp Tryd.func77 (c := _) rfl (Nat.le_of_ble_eq_true rfl) ?_
  show awp cx 6 _ (postF cx Tryd.f77 _) ⟨[(0, (intW (z)))], []⟩
  refine awp_seq fun K0 hK0 => ?_
  refine awp_region rfl ?_
  refine o_box 2 [(bp (z < 0)), (AV.sl 1 (ns .u32 (digs (z).natAbs)))] Gd.none rfl rfl ?_
  refine o_assign (AV.lit (.bool false)) Gd.none rfl ?_
  refine aops_end ?_
  refine hK0 _ ?_
  refine awp_seq fun K1 hK1 => ?_
  refine awp_region rfl ?_
  refine o_loadA [(bp (z < 0)), (AV.sl 1 (ns .u32 (digs (z).natAbs)))] Gd.none Wi_tA79 rfl rfl rfl rfl rfl ?_
  refine o_call [(intW (z))] (nm .i64 (ndig (z).natAbs)) Gd.none Wi_tC49 rfl (c_wDigits (z) (by first | omega | assumption | (simp only [Int.natAbs_neg]; omega))) ?_
  refine n_gtr (ndig (z).natAbs) (2000) Gd.none rfl rfl ?_
  refine o_assign (bp ((2000) < (ndig (z).natAbs))) Gd.none rfl ?_
  refine aops_end ?_
  refine hK1 _ ?_
  refine awp_ret ?_
  refine post_ret ⟨[(bp ((2000) < (ndig (z).natAbs)))], And.intro (AV.le_refl _) (trivial), rfl, ?_⟩
  exact bp_congr (by unfold Fit; omega)

end Go.Proofs.YtbilndahjkimkaaDoor

set_option linter.unusedVariables false
set_option linter.unusedSimpArgs false
namespace Go.Proofs.YtbilndahjkimkaaDoor
open Go Go.Ab Go.Mth
theorem Wj_tO24 : tyZero cx.P 24 = some [(Go.Value.int IntKind.i64 0), (Go.Value.slice none 0 0), (Go.Value.slice none 0 0)] := by kernel_rfl
theorem Wj_tE22 : tyElem cx.P 22 = some (3, 1, 8) := by kernel_rfl
theorem Wj_tO3 : tyZero cx.P 3 = some [(Go.Value.int IntKind.i64 0)] := by kernel_rfl
theorem Wj_tP24 : tyPlaces cx.P 24 = some (fun i => (#[(0, 1), (1, 1), (2, 1)] : Array (Nat × Nat))[i]?) := by kernel_rfl
theorem Wj_tZ24 : tySize cx.P 24 = some 3 := by kernel_rfl
theorem Wj_tA24 : tyAgg cx.P 24 = some 3 := by kernel_rfl
theorem Wj_tC92 : callable cx.P 92 = true := by kernel_rfl
theorem c_skin (q c : Int) : ECalls cx 92 [(AV.lit (.int .i64 (q))), (AV.lit (.int .i64 (c)))] (mapV (kinM q c)) := by
  refine ecalls_of_awp Tryd.func92 (c := _) rfl (Nat.le_of_ble_eq_true rfl) ?_
  show awp cx 10 _ (postF cx Tryd.f92 _) ⟨[(0, (AV.lit (.int .i64 (q)))), (1, (AV.lit (.int .i64 (c))))], []⟩
  refine awp_seq fun K0 hK0 => ?_
  refine awp_region rfl ?_
  refine o_alloc 2 [(nm .i64 (0)), (AV.lit (.slice none 0 0)), (AV.lit (.slice none 0 0))] Gd.none Wj_tO24 rfl rfl rfl ?_
  refine aops_end ?_
  refine hK0 _ ?_
  refine awp_seq fun K1 hK1 => ?_
  refine awp_region rfl ?_
  refine o_move (AV.lit (.int .i64 (q))) Gd.none rfl ?_
  refine o_buildSlice 3 ([(nm .i64 (1)), (AV.lit (.int .i64 (q)))]) [(0, [(nm .i64 (1))]), (1, [(AV.lit (.int .i64 (q)))])] Gd.none Wj_tE22 rfl Wj_tO3 rfl rfl rfl rfl rfl rfl rfl ?_
  refine o_move (AV.lit (.int .i64 (c))) Gd.none rfl ?_
  refine o_buildSlice 4 ([(nm .i64 (0)), (AV.lit (.int .i64 (c)))]) [(0, [(nm .i64 (0))]), (1, [(AV.lit (.int .i64 (c)))])] Gd.none Wj_tE22 rfl Wj_tO3 rfl rfl rfl rfl rfl rfl rfl ?_
  refine o_build [(nm .i64 (2)), (AV.row 3), (AV.row 4)] [(0, [(nm .i64 (2))]), (1, [(AV.row 3)]), (2, [(AV.row 4)])] Gd.none Wj_tP24 Wj_tO24 rfl rfl rfl ?_
  refine o_store [(4, (AO.row 3 1 ([(nm .i64 (0)), (AV.lit (.int .i64 (c)))]))), (3, (AO.row 3 1 ([(nm .i64 (1)), (AV.lit (.int .i64 (q)))]))), (2, (AO.var 24 [(nm .i64 (2)), (AV.row 3), (AV.row 4)]))] Gd.none Wj_tZ24 rfl rfl rfl rfl rfl rfl ?_
  refine aops_end ?_
  refine hK1 _ ?_
  refine awp_wk (σ' := ⟨[(4, (AV.ref 2 (0)))], [(2, (AO.var 24 [(nm .i64 (2)), (AV.row 3), (AV.row 4)])), (3, (AO.row 3 1 ([(nm .i64 (1)), (AV.lit (.int .i64 (q)))]))), (4, (AO.row 3 1 ([(nm .i64 (0)), (AV.lit (.int .i64 (c)))])))]⟩) (Wk.sub (And.intro rfl (trivial)) (And.intro rfl (And.intro rfl (And.intro rfl (trivial))))) ?_
  refine awp_wk (σ' := ⟨[(4, (AV.ref 2 (0)))], [(2, (AO.var 24 [(nm .i64 (2)), (AV.sl 1 ([(nm .i64 (1)), (AV.lit (.int .i64 (q)))])), (AV.row 4)])), (4, (AO.row 3 1 ([(nm .i64 (0)), (AV.lit (.int .i64 (c)))])))]⟩) (Wk.freeze (id := 3) (e := 3) (sz := 1) (cs := ([(nm .i64 (1)), (AV.lit (.int .i64 (q)))])) rfl) ?_
  refine awp_wk (σ' := ⟨[(4, (AV.ref 2 (0)))], [(2, (AO.var 24 [(nm .i64 (2)), (AV.sl 1 ([(nm .i64 (1)), (AV.lit (.int .i64 (q)))])), (AV.sl 1 ([(nm .i64 (0)), (AV.lit (.int .i64 (c)))]))]))]⟩) (Wk.freeze (id := 4) (e := 3) (sz := 1) (cs := ([(nm .i64 (0)), (AV.lit (.int .i64 (c)))])) rfl) ?_
  refine awp_ret ?_
  refine post_ret ⟨[(mapV (kinM q c))], And.intro ⟨2, (AO.var 24 [(nm .i64 (2)), (AV.sl 1 ([(nm .i64 (1)), (AV.lit (.int .i64 (q)))])), (AV.sl 1 ([(nm .i64 (0)), (AV.lit (.int .i64 (c)))]))]), rfl, rfl, rfl, Or.inl ⟨Wj_tA24, AV.le_agg (LeL.cons (AV.le_refl _) (LeL.cons (AV.le_refl _) (LeL.cons (AV.le_refl _) (LeL.nil))))⟩⟩ (trivial), rfl, ?_⟩
  rfl

theorem c_sCollatz  : ECalls cx 78 [] (mapV (kinM 3 1)) := by
  refine ecalls_of_awp Tryd.func78 (c := _) rfl (Nat.le_of_ble_eq_true rfl) ?_
  show awp cx 2 _ (postF cx Tryd.f78 _) ⟨[], []⟩
  refine awp_seq fun K0 hK0 => ?_
  refine awp_region rfl ?_
  refine o_alloc 2 [(nm .i64 (0)), (AV.lit (.slice none 0 0)), (AV.lit (.slice none 0 0))] Gd.none Wj_tO24 rfl rfl rfl ?_
  refine aops_end ?_
  refine hK0 _ ?_
  refine awp_seq fun K1 hK1 => ?_
  refine awp_region rfl ?_
  refine o_call [(nm .i64 (3)), (nm .i64 (1))] (mapV (kinM ((3 : Int)) ((1 : Int)))) Gd.none Wj_tC92 rfl (c_skin ((3 : Int)) ((1 : Int))) ?_
  refine o_store [(2, (oM 24 (kinM ((3 : Int)) ((1 : Int)))))] Gd.none Wj_tZ24 rfl rfl rfl rfl rfl rfl ?_
  refine aops_end ?_
  refine hK1 _ ?_
  refine awp_ret ?_
  refine post_ret ⟨[(mapV (kinM ((3 : Int)) ((1 : Int))))], And.intro ⟨2, (oM 24 (kinM ((3 : Int)) ((1 : Int)))), rfl, rfl, rfl, Or.inl ⟨Wj_tA24, AV.le_refl _⟩⟩ (trivial), rfl, ?_⟩
  rfl

end Go.Proofs.YtbilndahjkimkaaDoor

set_option linter.unusedVariables false
namespace Go.Mth
open Go.Ab
def iterZ (m : MapM) : Nat → Int → Int
  | 0, z => z
  | k + 1, z => stepZ m (iterZ m k z)
def sbs (l : List ByteArray) : List AV := l.map fun s => .lit (.string s)
def strs (zs : List Int) : List AV := sbs (zs.map txt)
section
variable {C : Ctx} {ops : Array Oper} {s : List (Nat × AV)} {m : List (Nat × AO)} {os : List Oper} {K : List Eff → St → Prop} {d : Nat} {t : TypeId} {p : String} {af : Array Edge} {g : Option (Nat × Bool)}
theorem s_len {ty e : TypeId} {x : Operand} (xs : List ByteArray) (hg : Gd ops s g) (ht : C.P.underlying ty = some (.slice e)) (hx : ev s x = .sl 1 (sbs xs)) (kk : aops C ops ⟨(d, nm .i64 xs.length) :: s, m⟩ os fun es σ' => K ({ val := nm .i64 xs.length } :: es) σ') :
    aops C ops ⟨s, m⟩ (⟨some d, .call { callee := .builtin .len, args := #[x], argTypes := #[ty] }, t, p, af, g⟩ :: os) K := o_lenSl xs.length hg ht hx (by simp [sbs]) kk
theorem s_index {ty : TypeId} {x y : Operand} {e by' : Nat} {kk' : IntKind} (xs : List ByteArray) (i : Nat) (hg : Gd ops s g) (ht : tyElem C.P ty = some (e, 1, by')) (hx : ev s x = .sl 1 (sbs xs)) (hy : ev s y = nm kk' i) (h1 : i < xs.length)
    (kk : aops C ops ⟨(d, .ip ((sbs xs).drop i)) :: s, m⟩ os fun es σ' => K ({ val := .ip ((sbs xs).drop i) } :: es) σ') : aops C ops ⟨s, m⟩ (⟨some d, .indexAddr ty x y, t, p, af, g⟩ :: os) K :=
  o_index1 (i := (i : Int)) hg ht hx hy (by omega) (by simpa [sbs] using h1) kk
theorem s_loadI {ty : TypeId} {x : Operand} (xs : List ByteArray) (i : Nat) (hg : Gd ops s g) (ht : tySc C.P ty = true) (hx : ev s x = .ip ((sbs xs).drop i)) (h1 : i < xs.length)
    (kk : aops C ops ⟨(d, .lit (.string (xs.getD i { data := #[] }))) :: s, m⟩ os fun es σ' => K ({ val := .lit (.string (xs.getD i { data := #[] })) } :: es) σ') : aops C ops ⟨s, m⟩ (⟨some d, .load ty x, t, p, af, g⟩ :: os) K :=
  o_loadIS (.lit (.string (xs.getD i { data := #[] }))) hg ht hx (dropMap0 (f := fun s => AV.lit (.string s)) { data := #[] } h1) kk
end
theorem runZ_bad {m : MapM} {z : Int} (h : ¬ Fit z) : ∀ k, runZ m k z = z
  | 0 => rfl
  | k + 1 => by rw [runZ, if_neg h]
def orbQ (m : MapM) (a : ByteArray) (k : Int) : Prop := okM m = true ∧ okS a = true ∧ 0 ≤ k ∧ k ≤ 1000
open Classical in
noncomputable def orbS (m : MapM) (a : ByteArray) (k : Int) : List Int := if okM m = true ∧ okS a = true ∧ 0 ≤ k ∧ k ≤ 1000 ∧ Fit (runZ m k.toNat (numS a)) then orbZ m k.toNat (numS a) else []
open Classical in
noncomputable def orbE (m : MapM) (a : ByteArray) (k : Int) : Nat := if okM m = true ∧ okS a = true then if 0 ≤ k ∧ k ≤ 1000 then if Fit (runZ m k.toNat (numS a)) then 0 else 3 else 2 else 1
noncomputable def runS (m : MapM) (a : ByteArray) (k : Int) : ByteArray := if okM m = true ∧ okS a = true ∧ 0 ≤ k ∧ k ≤ 20000 then toldS (runZ m k.toNat (numS a)) else { data := #[] }
noncomputable def runE (m : MapM) (a : ByteArray) (k : Int) : Nat := if okM m = true ∧ okS a = true then if 0 ≤ k ∧ k ≤ 20000 then toldE (runZ m k.toNat (numS a)) else 2 else 1
def fallF (m : MapM) (a : ByteArray) (k : Int) : Nat × Int × Nat := fallZ m (numS a) k.toNat (numS a) 1
noncomputable def fallK (m : MapM) (a : ByteArray) (k : Int) : Nat := if okM m = true ∧ okS a = true ∧ 1 ≤ k ∧ k ≤ 20000 then (fallF m a k).1 else 0
noncomputable def fallT (m : MapM) (a : ByteArray) (k : Int) : ByteArray := if okM m = true ∧ okS a = true ∧ 1 ≤ k ∧ k ≤ 20000 ∧ (fallF m a k).2.2 = 0 then txt (fallF m a k).2.1 else { data := #[] }
noncomputable def fallE (m : MapM) (a : ByteArray) (k : Int) : Nat := if okM m = true ∧ okS a = true then if 1 ≤ k ∧ k ≤ 20000 then (fallF m a k).2.2 else 2 else 1
end Go.Mth

set_option linter.unusedVariables false
namespace Go.Mth
open Go.Ab
def bv : List Nat → Nat := fun l => l.foldl (fun v b => 10 * v + (b - 48)) 0
theorem bv_snoc (l : List Nat) (b : Nat) : bv (l ++ [b]) = 10 * bv l + (b - 48) := by simp [bv]
def DigB (l : List Nat) : Prop := ∀ x ∈ l, 48 ≤ x ∧ x ≤ 57
theorem decs_digB (n : Nat) : DigB (decs n) := by
  induction n using Nat.strongRecOn with
  | _ n ih =>
    by_cases h : n = 0
    · subst h; rw [decs_zero]; intro x hx; cases hx
    · rw [decs_pos (by omega)]
      intro x hx
      rcases List.mem_cons.1 hx with e | e
      · omega
      · exact ih (n / 10) (by omega) x e
theorem bv_decs (n : Nat) : bv (decs n).reverse = n := by
  induction n using Nat.strongRecOn with
  | _ n ih =>
    by_cases h : n = 0
    · subst h; rw [decs_zero]; rfl
    · rw [decs_pos (by omega), List.reverse_cons, bv_snoc, ih (n / 10) (by omega)]
      omega
theorem decs_last {n : Nat} (h : 0 < n) : ∃ l b, decs n = l ++ [b] ∧ b ≠ 48 := by
  induction n using Nat.strongRecOn with
  | _ n ih =>
    rw [decs_pos h]
    by_cases h10 : n / 10 = 0
    · rw [h10, decs_zero]
      exact ⟨[], _, rfl, by omega⟩
    · obtain ⟨l, b, e, hb⟩ := ih (n / 10) (by omega) (by omega)
      exact ⟨_ :: l, b, by rw [e]; rfl, hb⟩
theorem decs_bv : ∀ (l : List Nat), DigB l → (∀ b r, l = r ++ [b] → b ≠ 48) → decs (bv l.reverse) = l
  | [], _, _ => by simp [bv, decs_zero]
  | x :: l, hd, hl => by
    have hx := hd x (by simp)
    have ih := decs_bv l (fun y hy => hd y (by simp [hy])) (fun b r e => hl b (x :: r) (by rw [e]; rfl))
    rw [List.reverse_cons, bv_snoc]
    have hpos : 0 < 10 * bv l.reverse + (x - 48) := by
      cases l with
      | nil =>
        have := hl x [] rfl
        omega
      | cons y l =>
        have : bv (y :: l).reverse ≠ 0 := fun e => by rw [e, decs_zero] at ih; cases ih
        omega
    rw [decs_pos hpos, show (10 * bv l.reverse + (x - 48)) / 10 = bv l.reverse by omega, show (10 * bv l.reverse + (x - 48)) % 10 = x - 48 by omega, ih, show 48 + (x - 48) = x by omega]
theorem dvk_bv {a : ByteArray} {s : Nat} : ∀ {k : Nat}, s + k ≤ a.size → dvk a s k = bv (((byts a).drop s).take k)
  | 0, _ => by simp [dvk, bv]
  | k + 1, h => by
    have hl : s + k < (byts a).length := by rw [byts_len]; omega
    have e : ((byts a).drop s).take (k + 1) = ((byts a).drop s).take k ++ [(byts a).getD (s + k) 0] := by
      rw [List.take_add_one, List.getElem?_drop, List.getElem?_eq_getElem hl, List.getD_eq_getElem?_getD, List.getElem?_eq_getElem hl]
      rfl
    rw [dvk, dvk_bv (k := k) (by omega), e, bv_snoc, byt_byts]
theorem dvk_all {a : ByteArray} {s : Nat} (h : s ≤ a.size) : dvk a s (a.size - s) = bv ((byts a).drop s) := by
  rw [dvk_bv (by omega), List.take_of_length_le (by rw [List.length_drop, byts_len]; omega)]
theorem txt_len (z : Int) : (txt z).size = (txtL z).length := by rw [← byts_txt, byts_len]
theorem byt_txt (z : Int) (i : Nat) : byt (txt z) i = (txtL z).getD i 0 := by rw [byt_byts, byts_txt]
theorem txtL_pos {z : Int} (h : 0 < z) : txtL z = (decs z.natAbs).reverse := by unfold txtL; rw [if_neg (by omega), if_neg (by omega)]; rfl
theorem txtL_neg {z : Int} (h : z < 0) : txtL z = 45 :: (decs z.natAbs).reverse := by unfold txtL; rw [if_neg (by omega), if_pos h]; rfl
theorem decs_ne {n : Nat} (h : 0 < n) : 0 < (decs n).length := by rw [decs_pos h]; simp
theorem rev_head {n : Nat} (h : 0 < n) : 48 ≤ (decs n).reverse.getD 0 0 ∧ (decs n).reverse.getD 0 0 ≤ 57 ∧ (decs n).reverse.getD 0 0 ≠ 48 := by
  obtain ⟨l, b, e, hb⟩ := decs_last h
  have hd := decs_digB n b (by rw [e]; simp)
  rw [e]
  simp only [List.reverse_append, List.reverse_cons, List.reverse_nil, List.nil_append, List.cons_append, List.getD_cons_zero]
  exact ⟨hd.1, hd.2, hb⟩
theorem sgnAt_txt (z : Int) : sgnAt (txt z) = if z < 0 then 1 else 0 := by
  unfold sgnAt
  rw [byt_txt]
  by_cases hz : z < 0
  · rw [txtL_neg hz, if_pos hz]; rfl
  · rw [if_neg hz]
    by_cases h0 : z = 0
    · subst h0; rfl
    · rw [txtL_pos (by omega)]
      have := rev_head (n := z.natAbs) (by omega)
      rw [if_neg (by omega)]
theorem numS_txt (z : Int) : numS (txt z) = z := by
  unfold numS
  rw [sgnAt_txt]
  by_cases hz : z < 0
  · rw [if_pos hz]
    have hb : byt (txt z) 0 = 45 := by rw [byt_txt, txtL_neg hz]; rfl
    rw [hb, dvk_all (by rw [txt_len, txtL_neg hz]; simp), byts_txt, txtL_neg hz, List.drop_succ_cons, List.drop_zero, bv_decs]
    simp only [sg, decide_true, if_true]
    omega
  · rw [if_neg hz]
    have hb : ¬ byt (txt z) 0 = 45 := by
      intro h
      have := sgnAt_txt z
      unfold sgnAt at this
      rw [if_pos h, if_neg hz] at this
      cases this
    rw [decide_eq_false hb, dvk_all (by omega), byts_txt, List.drop_zero]
    by_cases h0 : z = 0
    · subst h0; rfl
    · rw [txtL_pos (by omega), bv_decs]
      simp only [sg, Bool.false_eq_true, if_false]
      omega
theorem okS_txt {z : Int} (hf : Fit z) : OkS (txt z) := by
  have hs := sgnAt_txt z
  by_cases hz : z < 0
  · rw [if_pos hz] at hs
    have hn : ndig z.natAbs = (decs z.natAbs).length := by unfold ndig; rw [if_neg (by omega)]
    unfold Fit at hf
    have hp := decs_ne (n := z.natAbs) (by omega)
    have hh := rev_head (n := z.natAbs) (by omega)
    refine ⟨by rw [hs, txt_len, txtL_neg hz]; simp; omega, by rw [hs, txt_len, txtL_neg hz]; simp; omega, fun h => ?_, fun i h1 h2 => ?_⟩
    · rw [hs, byt_txt, txtL_neg hz, List.getD_cons_succ] at h
      exact hh.2.2 h.1
    · rw [hs] at h1
      rw [txt_len, txtL_neg hz] at h2
      rw [byt_txt, txtL_neg hz]
      obtain ⟨j, rfl⟩ : ∃ j, i = j + 1 := ⟨i - 1, by omega⟩
      rw [List.getD_cons_succ]
      have hj : j < (decs z.natAbs).reverse.length := by simpa using h2
      rw [List.getD_eq_getElem?_getD, List.getElem?_eq_getElem hj]
      exact decs_digB _ _ (List.mem_reverse.1 (List.getElem_mem hj))
  · rw [if_neg hz] at hs
    by_cases h0 : z = 0
    · subst h0
      refine ⟨by rw [hs]; decide, by rw [hs]; decide, by rw [hs]; decide, fun i h1 h2 => ?_⟩
      have : i = 0 := by rw [txt_zero] at h2; simp [ByteArray.size] at h2; omega
      subst this
      rw [txt_zero]
      decide
    · have hn : ndig z.natAbs = (decs z.natAbs).length := by unfold ndig; rw [if_neg (by omega)]
      unfold Fit at hf
      have hp := decs_ne (n := z.natAbs) (by omega)
      have hh := rev_head (n := z.natAbs) (by omega)
      refine ⟨by rw [hs, txt_len, txtL_pos (by omega)]; simpa using hp, by rw [hs, txt_len, txtL_pos (by omega)]; simp; omega, fun h => ?_, fun i h1 h2 => ?_⟩
      · rw [hs, byt_txt, txtL_pos (by omega)] at h
        exact hh.2.2 h.1
      · rw [txt_len, txtL_pos (by omega)] at h2
        rw [byt_txt, txtL_pos (by omega), List.getD_eq_getElem?_getD, List.getElem?_eq_getElem h2]
        exact decs_digB _ _ (List.mem_reverse.1 (List.getElem_mem h2))
theorem txt_numS {a : ByteArray} (h : OkS a) : txt (numS a) = a := by
  obtain ⟨o1, o2, o3, o4⟩ := h
  refine byts_inj ?_
  rw [byts_txt]
  have hdig : DigB ((byts a).drop (sgnAt a)) := fun x hx => by
    obtain ⟨i, hi, rfl⟩ := List.mem_iff_getElem.1 hx
    rw [List.length_drop, byts_len] at hi
    have := o4 (sgnAt a + i) (by omega) (by omega)
    rw [byt_byts, List.getD_eq_getElem?_getD, List.getElem?_eq_getElem (by rw [byts_len]; omega)] at this
    simpa using this
  have hnum : numS a = sg (decide (byt a 0 = 45)) (bv ((byts a).drop (sgnAt a))) := by unfold numS; rw [dvk_all (by omega)]
  have hhead : ∀ (x : Nat) (r : List Nat), (byts a).drop (sgnAt a) = x :: r → x = byt a (sgnAt a) := fun x r e => by
    rw [byt_byts]
    have := congrArg (·[0]?) e
    simp only [List.getElem?_drop, Nat.add_zero, List.getElem?_cons_zero] at this
    rw [List.getD_eq_getElem?_getD, this]
    rfl
  have hne : (byts a).drop (sgnAt a) ≠ [] := by
    intro e
    have := congrArg List.length e
    rw [List.length_drop, byts_len] at this
    simp at this
    omega
  by_cases hz : a.size = 1 ∧ byt a 0 = 48
  · have hs : sgnAt a = 0 := by unfold sgnAt; rw [if_neg (by omega)]
    have hb : byts a = [48] := by
      obtain ⟨x, r, e⟩ : ∃ x r, byts a = x :: r := by
        cases e : byts a with
        | nil => rw [hs, List.drop_zero] at hne; exact absurd e hne
        | cons x r => exact ⟨x, r, rfl⟩
      have hl := congrArg List.length e
      rw [byts_len] at hl
      have hx := hhead x r (by rw [hs]; exact e)
      rw [hs] at hx
      have : r = [] := List.eq_nil_of_length_eq_zero (by simp at hl; omega)
      rw [e, this, hx, hz.2]
    rw [hnum, hs, hb]
    have : ¬ byt a 0 = 45 := by omega
    rw [decide_eq_false this]
    decide
  · have hcan : decs (bv ((byts a).drop (sgnAt a))) = ((byts a).drop (sgnAt a)).reverse := by
      have := decs_bv ((byts a).drop (sgnAt a)).reverse (fun x hx => hdig x (List.mem_reverse.1 hx)) (fun b r e => by
        have e2 : (byts a).drop (sgnAt a) = b :: r.reverse := by
          have := congrArg List.reverse e
          simpa using this
        have hb := hhead b _ e2
        intro h48
        have hl := congrArg List.length e2
        rw [List.length_drop, byts_len] at hl
        simp at hl
        by_cases hsz : 1 < a.size
        · exact o3 ⟨by omega, hsz⟩
        · have : sgnAt a = 0 := by omega
          rw [this] at hb
          exact hz ⟨by omega, by omega⟩)
      rw [List.reverse_reverse] at this
      exact this
    have hpos : 0 < bv ((byts a).drop (sgnAt a)) := by
      rcases Nat.eq_zero_or_pos (bv ((byts a).drop (sgnAt a))) with h0 | h0
      · rw [h0, decs_zero] at hcan
        have := congrArg List.length hcan
        simp at this
        rw [byts_len] at this
        omega
      · exact h0
    rw [hnum]
    by_cases hneg : byt a 0 = 45
    · have hs : sgnAt a = 1 := if_pos hneg
      rw [decide_eq_true hneg, txtL_neg (by simp [sg]; omega)]
      have e1 : (sg true (bv ((byts a).drop (sgnAt a)))).natAbs = bv ((byts a).drop (sgnAt a)) := by simp [sg]
      rw [e1, hcan, List.reverse_reverse, hs]
      cases e : byts a with
      | nil => rw [e] at hne; simp at hne
      | cons x r =>
        have : x = 45 := by rw [← hneg, byt_byts, e]; rfl
        rw [this]; rfl
    · have hs : sgnAt a = 0 := if_neg hneg
      rw [decide_eq_false hneg, txtL_pos (by simp [sg]; omega)]
      have e1 : (sg false (bv ((byts a).drop (sgnAt a)))).natAbs = bv ((byts a).drop (sgnAt a)) := by simp [sg]
      rw [e1, hcan, List.reverse_reverse, hs, List.drop_zero]
end Go.Mth

set_option linter.unusedVariables false
namespace Go.Mth
open Go.Ab
theorem okM_ex : okM (kinM 3 1) = true := by
  refine okM_yes ⟨by decide, by decide, by decide, by decide, fun r hr => ?_⟩
  have : r = 0 ∨ r = 1 := by simp only [kinM] at hr; omega
  rcases this with rfl | rfl <;> decide
theorem str_as {a b : ByteArray} (h : a = b) : AV.lit (.string a) = AV.lit (.string b) := by rw [h]
theorem runS_e {m : MapM} {a : ByteArray} {K : Int} (h : okM m = true ∧ okS a = true) (h2 : 0 ≤ K ∧ K ≤ 20000) : runS m a K = toldS (runZ m K.toNat (numS a)) := by unfold runS; rw [if_pos ⟨h.1, h.2, h2⟩]
theorem runE_e {m : MapM} {a : ByteArray} {K : Int} (h : okM m = true ∧ okS a = true) (h2 : 0 ≤ K ∧ K ≤ 20000) : runE m a K = toldE (runZ m K.toNat (numS a)) := by unfold runE; rw [if_pos h, if_pos h2]
theorem toldS_yes {z : Int} (h : Fit z) : toldS z = txt z := by unfold toldS; rw [if_pos h]
theorem toldE_yes {z : Int} (h : Fit z) : toldE z = 0 := by unfold toldE; rw [if_pos h]
theorem txt_sz {z : Int} (h : Fit z) : (txt z).size ≤ 9223372036854775807 := by
  obtain ⟨h1, h2, _⟩ := okS_txt h
  have : sgnAt (txt z) ≤ 1 := by unfold sgnAt; split <;> omega
  omega
end Go.Mth

set_option linter.unusedVariables false
set_option linter.unusedSimpArgs false
namespace Go.Mth
open Go.Ab
def freeM (m : MapM) : Prop := ∀ i, i < m.mul.length → Nat.gcd (m.mul.getD i 0).toNat m.mod.toNat ≤ 1
noncomputable instance (m : MapM) : Decidable (freeM m) := Classical.propDecidable _
def primeN (a b : Nat) : Prop := ∀ d, 2 ≤ d → d ≤ a → d ≤ b → ¬ (a % d = 0 ∧ b % d = 0)
noncomputable instance (a b : Nat) : Decidable (primeN a b) := Classical.propDecidable _
theorem gcd_nx {u v g : Nat} (h : Nat.gcd u v = g) : Nat.gcd v (u % v) = g := by rw [← h, Nat.gcd_comm u v, Nat.gcd_rec v u, Nat.gcd_comm]
theorem gcd_ed {u v g : Nat} (h : Nat.gcd u v = g) (hv : ¬ 0 < v) : g = u := by
  have : v = 0 := by omega
  subst this; simpa using h.symm
theorem prime_gcd {a b : Nat} (ha : 1 ≤ a) (hb : 1 ≤ b) : primeN a b ↔ Nat.gcd a b ≤ 1 := by
  constructor
  · intro h
    rcases Nat.lt_or_ge 1 (Nat.gcd a b) with g | g
    · exact absurd ⟨Nat.mod_eq_zero_of_dvd (Nat.gcd_dvd_left a b), Nat.mod_eq_zero_of_dvd (Nat.gcd_dvd_right a b)⟩ (h _ g (Nat.le_of_dvd (by omega) (Nat.gcd_dvd_left a b)) (Nat.le_of_dvd (by omega) (Nat.gcd_dvd_right a b)))
    · exact g
  · intro h d h2 _ _ ⟨h3, h4⟩
    have := Nat.le_of_dvd (Nat.gcd_pos_of_pos_left b (by omega)) (Nat.dvd_gcd (Nat.dvd_of_mod_eq_zero h3) (Nat.dvd_of_mod_eq_zero h4))
    omega
end Go.Mth

set_option linter.unusedVariables false
set_option linter.unusedSimpArgs false
namespace Go.Proofs.YtbilndahjkimkaaDoor
open Go Go.Ab Go.Mth
theorem Wz_tF24_1 : tyField cx.P 24 1 = some (1, 22) := by kernel_rfl
theorem Wz_tS22 : tySc cx.P 22 = true := by kernel_rfl
theorem Wz_tU22 : cx.P.underlying 22 = some (.slice 3) := by kernel_rfl
theorem Wz_tE22 : tyElem cx.P 22 = some (3, 1, 8) := by kernel_rfl
theorem Wz_tS3 : tySc cx.P 3 = true := by kernel_rfl
theorem Wz_tF24_0 : tyField cx.P 24 0 = some (0, 3) := by kernel_rfl
theorem Wz_tC85 : callable cx.P 85 = true := by kernel_rfl
theorem Wz_tC67 : callable cx.P 67 = true := by kernel_rfl
theorem c_sCommon (a b : Nat) : ECalls cx 85 [(nm .i64 (a)), (nm .i64 (b))] (nm .i64 (Nat.gcd a b)) := by
  refine ecalls_of_awp Tryd.func85 (c := _) rfl (Nat.le_of_ble_eq_true rfl) ?_
  show awp cx 12 _ (postF cx Tryd.f85 _) ⟨[(0, (nm .i64 (a))), (1, (nm .i64 (b)))], []⟩
  refine awp_seq fun K0 hK0 => ?_
  refine awp_region rfl ?_
  refine o_assign (nm .i64 (0)) Gd.none rfl ?_
  refine aops_end ?_
  refine hK0 _ ?_
  refine awp_seq fun K1 hK1 => ?_
  refine awp_block ?_
  refine awp_loopR (fun κ σ => ∃ (u : Nat), ∃ (v : Nat), (Nat.gcd u v = Nat.gcd a b) ∧ (v) = κ ∧ σ = ⟨[(0, (nm .i64 (u))), (1, (nm .i64 (v)))], []⟩) ⟨_, _, ⟨a, b, rfl, rfl, rfl⟩, ?wk0⟩ ?rd0
  case wk0 =>
    exact Wk.sub (And.intro (by first | rfl | exact congrArg (nm _) (by omega) | exact nm_int (by omega) | exact nm_int (by simp [IntKind.wrap, IntKind.bits, IntKind.signed]; omega)) (And.intro (by first | rfl | exact congrArg (nm _) (by omega) | exact nm_int (by omega) | exact nm_int (by simp [IntKind.wrap, IntKind.bits, IntKind.signed]; omega)) (trivial))) (trivial)
  rintro κ _ ⟨u, v, hg, rfl, rfl⟩
  refine awp_seq fun K2 hK2 => ?_
  refine awp_seq fun K3 hK3 => ?_
  refine awp_region rfl ?_
  refine o_move (nm .i64 (v)) Gd.none rfl ?_
  refine n_gtr (v) (0) Gd.none rfl rfl ?_
  refine aops_end ?_
  refine hK3 _ ?_
  refine awp_condQ (q := (0) < (v)) rfl (fun h1 => ?_) (fun h1 => ?_)
  · refine awp_skip ?_
    refine hK2 _ ?_
    refine awp_block ?_
    refine awp_regionD rfl ?_
    refine o_move (nm .i64 (v)) Gd.none rfl ?_
    refine o_move (nm .i64 (u)) Gd.none rfl ?_
    refine o_move (nm .i64 (v)) Gd.none rfl ?_
    refine n_rem (u) (v) Gd.none rfl rfl (by omega) ?_
    refine o_assign (nm .i64 (v)) Gd.none rfl ?_
    refine o_assign (nm .i64 ((u) % (v))) Gd.none rfl ?_
    refine aops_end ⟨by kernel_rfl, ?_⟩
    refine ⟨_, _, ?lt, ⟨v, u % v, (gcd_nx hg), rfl, rfl⟩, ?wk⟩
    case lt => exact Nat.mod_lt u (by assumption)
    case wk => exact Wk.sub (And.intro (by first | rfl | exact congrArg (nm _) (by omega) | exact nm_int (by omega) | exact nm_int (by simp [IntKind.wrap, IntKind.bits, IntKind.signed]; omega)) (And.intro (by first | rfl | exact congrArg (nm _) (by omega) | exact nm_int (by omega) | exact nm_int (by simp [IntKind.wrap, IntKind.bits, IntKind.signed]; omega)) (trivial))) (trivial)
  · refine awp_exit ?_
    refine hK1 _ ?_
    refine awp_seq fun K4 hK4 => ?_
    refine awp_region rfl ?_
    refine o_move (nm .i64 (u)) Gd.none rfl ?_
    refine o_assign (nm .i64 (u)) Gd.none rfl ?_
    refine aops_end ?_
    refine hK4 _ ?_
    refine awp_ret ?_
    refine post_ret ⟨[(nm .i64 (u))], And.intro (AV.le_refl _) (trivial), rfl, ?_⟩
    exact congrArg (nm _) (gcd_ed hg h1)

theorem c_sFree (m : MapM) (hM : OkM m) : ECalls cx 58 [(mapV m)] (bp (freeM m)) := by
  refine ecalls_of_awp Tryd.func58 (c := _) rfl (Nat.le_of_ble_eq_true rfl) ?_
  show awp cx 18 _ (postF cx Tryd.f58 _) ⟨[(0, (mapV m))], []⟩
  obtain ⟨o1, o2, o3, o4, o5⟩ := hM
  refine awp_seq fun K0 hK0 => ?_
  refine awp_region rfl ?_
  refine o_box 2 [(AV.lit (.int .i64 (m.mod))), (AV.sl 1 (is .i64 (m.mul))), (AV.sl 1 (is .i64 (m.add)))] Gd.none rfl rfl ?_
  refine o_assign (AV.lit (.bool false)) Gd.none rfl ?_
  refine aops_end ?_
  refine hK0 _ ?_
  refine awp_seq fun K1 hK1 => ?_
  refine awp_seq fun K2 hK2 => ?_
  refine awp_region rfl ?_
  refine o_fieldRef 1 Gd.none Wz_tF24_1 rfl rfl ?_
  refine o_loadS (AV.sl 1 (is .i64 (m.mul))) Gd.none Wz_tS22 rfl rfl rfl ?_
  refine i_len (m.mul) Gd.none Wz_tU22 rfl ?_
  refine o_move (nm .i64 (0)) Gd.none rfl ?_
  refine aops_end ?_
  refine hK2 _ ?_
  refine awp_block ?_
  refine awp_loopR (fun κ σ => ∃ (i : Nat), (i ≤ m.mul.length) ∧ (∀ k, k < i → Nat.gcd (m.mul.getD k 0).toNat m.mod.toNat ≤ 1) ∧ (m.mul.length - i) = κ ∧ σ = ⟨[(1, (AV.ref 2 (0))), (6, (AV.sl 1 (is .i64 (m.mul)))), (7, (nm .i64 ((m.mul).length))), (8, (nm .i64 (i)))], [(2, (oM 24 m))]⟩) ⟨_, _, ⟨0, (by omega), (fun k hk => by omega), rfl, rfl⟩, ?wk0⟩ ?rd0
  case wk0 =>
    exact Wk.sub (And.intro rfl (And.intro rfl (And.intro rfl (And.intro (by first | rfl | exact congrArg (nm _) (by omega) | exact nm_int (by omega) | exact nm_int (by simp [IntKind.wrap, IntKind.bits, IntKind.signed]; omega)) (trivial))))) (And.intro rfl (trivial))
  rintro κ _ ⟨i, hi, hf, rfl, rfl⟩
  refine awp_seq fun K3 hK3 => ?_
  refine awp_region rfl ?_
  refine n_lss (i) ((m.mul).length) Gd.none rfl rfl ?_
  refine aops_end ?_
  refine hK3 _ ?_
  refine awp_seq fun K4 hK4 => ?_
  refine awp_condQ (q := (i) < ((m.mul).length)) rfl (fun h1 => ?_) (fun h1 => ?_)
  · have hoi := o5 i (by omega)
    refine awp_skip ?_
    refine hK4 _ ?_
    refine awp_seq fun K5 hK5 => ?_
    refine awp_block ?_
    refine awp_seq fun K6 hK6 => ?_
    refine awp_region rfl ?_
    refine i_index (m.mul) (i) Gd.none Wz_tE22 rfl rfl (by omega) ?_
    refine i_loadI (m.mul) (i) Gd.none Wz_tS3 rfl (by omega) ?_
    refine o_assign (AV.lit (.int .i64 ((m.mul).getD (i) 0))) Gd.none rfl ?_
    refine aops_end ?_
    refine hK6 _ ?_
    refine awp_seq fun K7 hK7 => ?_
    refine awp_region rfl ?_
    refine o_move (AV.lit (.int .i64 ((m.mul).getD (i) 0))) Gd.none rfl ?_
    refine n_as (v' := (nm .i64 (((m.mul).getD (i) 0).toNat))) (nm_int (by omega)) ?_
    refine o_fieldRef 0 Gd.none Wz_tF24_0 rfl rfl ?_
    refine o_loadS (AV.lit (.int .i64 (m.mod))) Gd.none Wz_tS3 rfl rfl rfl ?_
    refine n_as (v' := (nm .i64 (m.mod.toNat))) (nm_int (by omega)) ?_
    refine o_call [(nm .i64 (((m.mul).getD (i) 0).toNat)), (nm .i64 (m.mod.toNat))] (nm .i64 (Nat.gcd (((m.mul).getD (i) 0).toNat) (m.mod.toNat))) Gd.none Wz_tC85 rfl (c_sCommon (((m.mul).getD (i) 0).toNat) (m.mod.toNat)) ?_
    refine n_gtr (Nat.gcd (((m.mul).getD (i) 0).toNat) (m.mod.toNat)) (1) Gd.none rfl rfl ?_
    refine aops_end ?_
    refine hK7 _ ?_
    refine awp_condQ (q := (1) < (Nat.gcd (((m.mul).getD (i) 0).toNat) (m.mod.toNat))) rfl (fun h2 => ?_) (fun h2 => ?_)
    · refine awp_seq fun K8 hK8 => ?_
      refine awp_region rfl ?_
      refine o_assign (AV.lit (.bool false)) Gd.none rfl ?_
      refine aops_end ?_
      refine hK8 _ ?_
      refine awp_ret ?_
      refine post_ret ⟨[(AV.lit (.bool false))], And.intro (AV.le_refl _) (trivial), rfl, ?_⟩
      exact (bl_bp (b := false) ⟨fun h => (by cases h), fun h => absurd h (fun hh => absurd (hh i h1) (by omega))⟩).symm
    · refine awp_skip ?_
      refine hK5 _ ?_
      refine awp_region rfl ?_
      refine n_add (i) (1) Gd.none rfl rfl (by simp only [topOf]; omega) ?_
      refine o_move (nm .i64 ((i) + (1))) Gd.none rfl ?_
      refine aops_end ?_
      refine ⟨_, _, ?lt, ⟨i + 1, (by omega), (fun k hk => by rcases Nat.lt_or_ge k i with e | e; exact hf k e; rw [show k = i by omega]; omega), rfl, rfl⟩, ?wk⟩
      case lt => omega
      case wk => exact Wk.sub (And.intro rfl (And.intro rfl (And.intro rfl (And.intro (by first | rfl | exact congrArg (nm _) (by omega) | exact nm_int (by omega) | exact nm_int (by simp [IntKind.wrap, IntKind.bits, IntKind.signed]; omega)) (trivial))))) (And.intro rfl (trivial))
  · refine awp_exit ?_
    refine hK1 _ ?_
    refine awp_seq fun K9 hK9 => ?_
    refine awp_region rfl ?_
    refine o_assign (AV.lit (.bool true)) Gd.none rfl ?_
    refine aops_end ?_
    refine hK9 _ ?_
    refine awp_ret ?_
    refine post_ret ⟨[(AV.lit (.bool true))], And.intro (AV.le_refl _) (trivial), rfl, ?_⟩
    exact (bl_bp (b := true) ⟨fun _ => (show freeM m from fun k hk => hf k (by omega)), fun _ => rfl⟩).symm

theorem c_gPrime (a b : Nat) (ha : a ≤ 1000000000) (hb : b ≤ 1000000000) : ECalls cx 67 [(nm .i64 (a)), (nm .i64 (b))] (bp (primeN a b)) := by
  refine ecalls_of_awp Tryd.func67 (c := _) rfl (Nat.le_of_ble_eq_true rfl) ?_
  show awp cx 26 _ (postF cx Tryd.f67 _) ⟨[(0, (nm .i64 (a))), (1, (nm .i64 (b)))], []⟩
  refine awp_seq fun K0 hK0 => ?_
  refine awp_region rfl ?_
  refine o_assign (AV.lit (.bool false)) Gd.none rfl ?_
  refine aops_end ?_
  refine hK0 _ ?_
  refine awp_seq fun K1 hK1 => ?_
  refine awp_seq fun K2 hK2 => ?_
  refine awp_region rfl ?_
  refine o_assign (nm .i64 (2)) Gd.none rfl ?_
  refine aops_end ?_
  refine hK2 _ ?_
  refine awp_block ?_
  refine awp_loopR (fun κ σ => ∃ (d : Nat), (2 ≤ d) ∧ (d ≤ max a 1 + 1) ∧ (∀ e, 2 ≤ e → e < d → ¬ (a % e = 0 ∧ b % e = 0)) ∧ (max a 1 + 1 - d) = κ ∧ σ = ⟨[(0, (nm .i64 (a))), (1, (nm .i64 (b))), (5, (nm .i64 (d)))], []⟩) ⟨_, _, ⟨2, (by omega), (by omega), (fun e h1 h2 => by omega), rfl, rfl⟩, ?wk0⟩ ?rd0
  case wk0 =>
    exact Wk.sub (And.intro rfl (And.intro rfl (And.intro (by first | rfl | exact congrArg (nm _) (by omega) | exact nm_int (by omega) | exact nm_int (by simp [IntKind.wrap, IntKind.bits, IntKind.signed]; omega)) (trivial)))) (trivial)
  rintro κ _ ⟨d, hd, hd2, hf, rfl, rfl⟩
  refine awp_seq fun K3 hK3 => ?_
  refine awp_seq fun K4 hK4 => ?_
  refine awp_region rfl ?_
  refine o_move (nm .i64 (d)) Gd.none rfl ?_
  refine o_move (nm .i64 (a)) Gd.none rfl ?_
  refine n_leq (d) (a) Gd.none rfl rfl ?_
  refine o_move (bp ((d) ≤ (a))) Gd.none rfl ?_
  refine o_splitP (q := (d) ≤ (a)) 9 rfl (fun h1 => ?_) (fun h1 => ?_)
  · refine o_move (nm .i64 (d)) (Gd.yes rfl rfl (decide_eq_true h1)) rfl ?_
    refine o_move (nm .i64 (b)) (Gd.yes rfl rfl (decide_eq_true h1)) rfl ?_
    refine n_leq (d) (b) (Gd.yes rfl rfl (decide_eq_true h1)) rfl rfl ?_
    refine o_pickT (b := decide ((d) ≤ (a))) (bp ((d) ≤ (b))) Gd.none rfl (decide_eq_true h1) rfl ?_
    refine aops_end ?_
    refine hK4 _ ?_
    refine awp_condQ (q := (d) ≤ (b)) rfl (fun h2 => ?_) (fun h2 => ?_)
    · refine awp_skip ?_
      refine hK3 _ ?_
      refine awp_seq fun K5 hK5 => ?_
      refine awp_block ?_
      refine awp_seq fun K6 hK6 => ?_
      refine awp_region rfl ?_
      refine o_move (nm .i64 (a)) Gd.none rfl ?_
      refine o_move (nm .i64 (d)) Gd.none rfl ?_
      refine n_rem (a) (d) Gd.none rfl rfl (by omega) ?_
      refine n_eql ((a) % (d)) (0) Gd.none rfl rfl ?_
      refine o_move (bp (((a) % (d)) = (0))) Gd.none rfl ?_
      refine o_splitP (q := ((a) % (d)) = (0)) 20 rfl (fun h3 => ?_) (fun h3 => ?_)
      · refine o_move (nm .i64 (b)) (Gd.yes rfl rfl (decide_eq_true h3)) rfl ?_
        refine o_move (nm .i64 (d)) (Gd.yes rfl rfl (decide_eq_true h3)) rfl ?_
        refine n_rem (b) (d) (Gd.yes rfl rfl (decide_eq_true h3)) rfl rfl (by omega) ?_
        refine n_eql ((b) % (d)) (0) (Gd.yes rfl rfl (decide_eq_true h3)) rfl rfl ?_
        refine o_pickT (b := decide (((a) % (d)) = (0))) (bp (((b) % (d)) = (0))) Gd.none rfl (decide_eq_true h3) rfl ?_
        refine aops_end ?_
        refine hK6 _ ?_
        refine awp_condQ (q := ((b) % (d)) = (0)) rfl (fun h4 => ?_) (fun h4 => ?_)
        · refine awp_seq fun K7 hK7 => ?_
          refine awp_region rfl ?_
          refine o_assign (AV.lit (.bool false)) Gd.none rfl ?_
          refine aops_end ?_
          refine hK7 _ ?_
          refine awp_ret ?_
          refine post_ret ⟨[(AV.lit (.bool false))], And.intro (AV.le_refl _) (trivial), rfl, ?_⟩
          exact (bl_bp (b := false) ⟨fun h => (by cases h), fun h => absurd h (fun hh => hh d hd h1 h2 ⟨h3, h4⟩)⟩).symm
        · refine awp_skip ?_
          refine hK5 _ ?_
          refine awp_region rfl ?_
          refine o_move (nm .i64 (d)) Gd.none rfl ?_
          refine n_add (d) (1) Gd.none rfl rfl (by simp only [topOf]; omega) ?_
          refine o_assign (nm .i64 ((d) + (1))) Gd.none rfl ?_
          refine aops_end ?_
          refine ⟨_, _, ?lt, ⟨d + 1, (by omega), (by omega), (fun e h1' h2' => by rcases Nat.lt_or_ge e d with hh | hh; exact hf e h1' hh; rw [show e = d by omega]; exact fun hc => h4 hc.2), rfl, rfl⟩, ?wk⟩
          case lt => omega
          case wk => exact Wk.sub (And.intro rfl (And.intro rfl (And.intro (by first | rfl | exact congrArg (nm _) (by omega) | exact nm_int (by omega) | exact nm_int (by simp [IntKind.wrap, IntKind.bits, IntKind.signed]; omega)) (trivial)))) (trivial)
      · refine o_skip (b := decide (((a) % (d)) = (0))) rfl rfl (decide_eq_false h3) ?_
        refine o_skip (b := decide (((a) % (d)) = (0))) rfl rfl (decide_eq_false h3) ?_
        refine o_skip (b := decide (((a) % (d)) = (0))) rfl rfl (decide_eq_false h3) ?_
        refine o_skip (b := decide (((a) % (d)) = (0))) rfl rfl (decide_eq_false h3) ?_
        refine o_pickF (b := decide (((a) % (d)) = (0))) (AV.lit (.bool false)) Gd.none rfl (decide_eq_false h3) rfl ?_
        refine aops_end ?_
        refine hK6 _ ?_
        refine awp_condB (b := false) rfl (fun hh => absurd (hh.symm.trans rfl) (by decide)) (fun _ => ?_)
        refine awp_skip ?_
        refine hK5 _ ?_
        refine awp_region rfl ?_
        refine o_move (nm .i64 (d)) Gd.none rfl ?_
        refine n_add (d) (1) Gd.none rfl rfl (by simp only [topOf]; omega) ?_
        refine o_assign (nm .i64 ((d) + (1))) Gd.none rfl ?_
        refine aops_end ?_
        refine ⟨_, _, ?lt, ⟨d + 1, (by omega), (by omega), (fun e h1' h2' => by rcases Nat.lt_or_ge e d with hh | hh; exact hf e h1' hh; rw [show e = d by omega]; exact fun hc => h3 hc.1), rfl, rfl⟩, ?wk⟩
        case lt => omega
        case wk => exact Wk.sub (And.intro rfl (And.intro rfl (And.intro (by first | rfl | exact congrArg (nm _) (by omega) | exact nm_int (by omega) | exact nm_int (by simp [IntKind.wrap, IntKind.bits, IntKind.signed]; omega)) (trivial)))) (trivial)
    · refine awp_exit ?_
      refine hK1 _ ?_
      refine awp_seq fun K8 hK8 => ?_
      refine awp_region rfl ?_
      refine o_assign (AV.lit (.bool true)) Gd.none rfl ?_
      refine aops_end ?_
      refine hK8 _ ?_
      refine awp_ret ?_
      refine post_ret ⟨[(AV.lit (.bool true))], And.intro (AV.le_refl _) (trivial), rfl, ?_⟩
      exact (bl_bp (b := true) ⟨fun _ => (show primeN a b from fun e h1' ha' hb' => hf e h1' (by omega)), fun _ => rfl⟩).symm
  · refine o_skip (b := decide ((d) ≤ (a))) rfl rfl (decide_eq_false h1) ?_
    refine o_skip (b := decide ((d) ≤ (a))) rfl rfl (decide_eq_false h1) ?_
    refine o_skip (b := decide ((d) ≤ (a))) rfl rfl (decide_eq_false h1) ?_
    refine o_pickF (b := decide ((d) ≤ (a))) (AV.lit (.bool false)) Gd.none rfl (decide_eq_false h1) rfl ?_
    refine aops_end ?_
    refine hK4 _ ?_
    refine awp_condB (b := false) rfl (fun hh => absurd (hh.symm.trans rfl) (by decide)) (fun _ => ?_)
    refine awp_exit ?_
    refine hK1 _ ?_
    refine awp_seq fun K9 hK9 => ?_
    refine awp_region rfl ?_
    refine o_assign (AV.lit (.bool true)) Gd.none rfl ?_
    refine aops_end ?_
    refine hK9 _ ?_
    refine awp_ret ?_
    refine post_ret ⟨[(AV.lit (.bool true))], And.intro (AV.le_refl _) (trivial), rfl, ?_⟩
    exact (bl_bp (b := true) ⟨fun _ => (show primeN a b from fun e h1' ha' hb' => hf e h1' (by omega)), fun _ => rfl⟩).symm

theorem c_gRegular (m : MapM) (hM : OkM m) : ECalls cx 25 [(mapV m)] (bp (freeM m)) := by
  refine ecalls_of_awp Tryd.func25 (c := _) rfl (Nat.le_of_ble_eq_true rfl) ?_
  show awp cx 19 _ (postF cx Tryd.f25 _) ⟨[(0, (mapV m))], []⟩
  obtain ⟨o1, o2, o3, o4, o5⟩ := hM
  refine awp_seq fun K0 hK0 => ?_
  refine awp_region rfl ?_
  refine o_box 2 [(AV.lit (.int .i64 (m.mod))), (AV.sl 1 (is .i64 (m.mul))), (AV.sl 1 (is .i64 (m.add)))] Gd.none rfl rfl ?_
  refine o_assign (AV.lit (.bool false)) Gd.none rfl ?_
  refine aops_end ?_
  refine hK0 _ ?_
  refine awp_seq fun K1 hK1 => ?_
  refine awp_seq fun K2 hK2 => ?_
  refine awp_region rfl ?_
  refine o_assign (nm .i64 (0)) Gd.none rfl ?_
  refine aops_end ?_
  refine hK2 _ ?_
  refine awp_block ?_
  refine awp_loopR (fun κ σ => ∃ (i : Nat), ((i : Int) ≤ m.mod) ∧ (∀ k, k < i → Nat.gcd (m.mul.getD k 0).toNat m.mod.toNat ≤ 1) ∧ (m.mod.toNat - i) = κ ∧ σ = ⟨[(1, (AV.ref 2 (0))), (3, (nm .i64 (i)))], [(2, (oM 24 m))]⟩) ⟨_, _, ⟨0, (by omega), (fun k hk => by omega), rfl, rfl⟩, ?wk0⟩ ?rd0
  case wk0 =>
    exact Wk.sub (And.intro rfl (And.intro (by first | rfl | exact congrArg (nm _) (by omega) | exact nm_int (by omega) | exact nm_int (by simp [IntKind.wrap, IntKind.bits, IntKind.signed]; omega)) (trivial))) (And.intro rfl (trivial))
  rintro κ _ ⟨i, hi, hf, rfl, rfl⟩
  refine awp_seq fun K3 hK3 => ?_
  refine awp_seq fun K4 hK4 => ?_
  refine awp_region rfl ?_
  refine o_move (nm .i64 (i)) Gd.none rfl ?_
  refine o_fieldRef 0 Gd.none Wz_tF24_0 rfl rfl ?_
  refine o_loadS (AV.lit (.int .i64 (m.mod))) Gd.none Wz_tS3 rfl rfl rfl ?_
  refine o_lss (a := (((i : Nat) : Int))) (c := (m.mod)) Gd.none rfl rfl ?_
  refine aops_end ?_
  refine hK4 _ ?_
  refine awp_condQ (q := (((i : Nat) : Int)) < (m.mod)) rfl (fun h1 => ?_) (fun h1 => ?_)
  · have hoi := o5 i (by omega)
    have hpg := prime_gcd (a := ((m.mul).getD (i) 0).toNat) (b := m.mod.toNat) (by omega) (by omega)
    refine awp_skip ?_
    refine hK3 _ ?_
    refine awp_seq fun K5 hK5 => ?_
    refine awp_block ?_
    refine awp_seq fun K6 hK6 => ?_
    refine awp_regionD rfl ?_
    refine o_fieldRef 1 Gd.none Wz_tF24_1 rfl rfl ?_
    refine o_loadS (AV.sl 1 (is .i64 (m.mul))) Gd.none Wz_tS22 rfl rfl rfl ?_
    refine o_move (nm .i64 (i)) Gd.none rfl ?_
    refine i_index (m.mul) (i) Gd.none Wz_tE22 rfl rfl (by omega) ?_
    refine i_loadI (m.mul) (i) Gd.none Wz_tS3 rfl (by omega) ?_
    refine n_as (v' := (nm .i64 (((m.mul).getD (i) 0).toNat))) (nm_int (by omega)) ?_
    refine o_fieldRef 0 Gd.none Wz_tF24_0 rfl rfl ?_
    refine o_loadS (AV.lit (.int .i64 (m.mod))) Gd.none Wz_tS3 rfl rfl rfl ?_
    refine n_as (v' := (nm .i64 (m.mod.toNat))) (nm_int (by omega)) ?_
    refine o_call [(nm .i64 (((m.mul).getD (i) 0).toNat)), (nm .i64 (m.mod.toNat))] (bp (primeN (((m.mul).getD (i) 0).toNat) (m.mod.toNat))) Gd.none Wz_tC67 rfl (c_gPrime (((m.mul).getD (i) 0).toNat) (m.mod.toNat) (by omega) (by omega)) ?_
    refine o_notP (q := primeN (((m.mul).getD (i) 0).toNat) (m.mod.toNat)) Gd.none rfl ?_
    refine aops_end ⟨by kernel_rfl, ?_⟩
    refine hK6 _ ?_
    refine awp_condQ (q := ¬ (primeN (((m.mul).getD (i) 0).toNat) (m.mod.toNat))) rfl (fun h2 => ?_) (fun h2 => ?_)
    · refine awp_seq fun K7 hK7 => ?_
      refine awp_region rfl ?_
      refine o_assign (AV.lit (.bool false)) Gd.none rfl ?_
      refine aops_end ?_
      refine hK7 _ ?_
      refine awp_ret ?_
      refine post_ret ⟨[(AV.lit (.bool false))], And.intro (AV.le_refl _) (trivial), rfl, ?_⟩
      exact (bl_bp (b := false) ⟨fun h => (by cases h), fun h => absurd h (fun hh => h2 (hpg.2 (hh i (by omega))))⟩).symm
    · refine awp_skip ?_
      refine hK5 _ ?_
      refine awp_region rfl ?_
      refine o_move (nm .i64 (i)) Gd.none rfl ?_
      refine n_add (i) (1) Gd.none rfl rfl (by simp only [topOf]; omega) ?_
      refine o_assign (nm .i64 ((i) + (1))) Gd.none rfl ?_
      refine aops_end ?_
      refine ⟨_, _, ?lt, ⟨i + 1, (by omega), (fun k hk => by rcases Nat.lt_or_ge k i with e | e; exact hf k e; rw [show k = i by omega]; exact hpg.1 (Decidable.not_not.1 h2)), rfl, rfl⟩, ?wk⟩
      case lt => omega
      case wk => exact Wk.sub (And.intro rfl (And.intro (by first | rfl | exact congrArg (nm _) (by omega) | exact nm_int (by omega) | exact nm_int (by simp [IntKind.wrap, IntKind.bits, IntKind.signed]; omega)) (trivial))) (And.intro rfl (trivial))
  · refine awp_exit ?_
    refine hK1 _ ?_
    refine awp_seq fun K8 hK8 => ?_
    refine awp_region rfl ?_
    refine o_assign (AV.lit (.bool true)) Gd.none rfl ?_
    refine aops_end ?_
    refine hK8 _ ?_
    refine awp_ret ?_
    refine post_ret ⟨[(AV.lit (.bool true))], And.intro (AV.le_refl _) (trivial), rfl, ?_⟩
    exact (bl_bp (b := true) ⟨fun _ => (show freeM m from fun k hk => hf k (by omega)), fun _ => rfl⟩).symm

end Go.Proofs.YtbilndahjkimkaaDoor

set_option linter.unusedVariables false
namespace Go.Mth
open Go.Ab
theorem run_iter {m : MapM} {n : Int} : ∀ (k i : Nat), (∀ j, i ≤ j → j < i + k → Fit (iterZ m j n)) → runZ m k (iterZ m i n) = iterZ m (i + k) n
  | 0, i, _ => rfl
  | k + 1, i, h => by
    rw [runZ, if_pos (h i (by omega) (by omega)), show stepZ m (iterZ m i n) = iterZ m (i + 1) n from rfl, run_iter k (i + 1) (fun j h1 h2 => h j (by omega) (by omega)), show i + 1 + k = i + (k + 1) by omega]
def prodZ (m : MapM) (z : Int) : Nat → Int
  | 0 => 1
  | i + 1 => prodZ m z i * m.mul.getD (iterZ m i z % m.mod).toNat 0
theorem stepZ_add {m : MapM} (hm : OkM m) (z c : Int) : stepZ m (z + m.mod * c) = stepZ m z + m.mul.getD (z % m.mod).toNat 0 * c := by
  have h2 : 2 ≤ m.mod := hm.1
  unfold stepZ
  rw [Int.add_mul_emod_self_left]
  have e : m.mul.getD (z % m.mod).toNat 0 * (z + m.mod * c) + m.add.getD (z % m.mod).toNat 0 = (m.mul.getD (z % m.mod).toNat 0 * z + m.add.getD (z % m.mod).toNat 0) + (m.mul.getD (z % m.mod).toNat 0 * c) * m.mod := by
    rw [Int.mul_add, Int.mul_assoc, Int.mul_comm c m.mod]
    omega
  rw [e, Int.add_mul_ediv_right _ _ (by omega)]
theorem alike {m : MapM} (hm : OkM m) (x d : Int) (k : Nat) : ∀ i, i ≤ k → iterZ m i (x + d * m.mod ^ k) = iterZ m i x + d * prodZ m x i * m.mod ^ (k - i)
  | 0, _ => by simp [iterZ, prodZ]
  | i + 1, h => by
    rw [iterZ, alike hm x d k i (by omega), show k - i = (k - (i + 1)) + 1 by omega, Int.pow_succ]
    rw [show d * prodZ m x i * (m.mod ^ (k - (i + 1)) * m.mod) = m.mod * (d * prodZ m x i * m.mod ^ (k - (i + 1))) by ac_rfl]
    rw [stepZ_add hm, iterZ, prodZ]
    congr 1
    ac_rfl
theorem alike_rest {m : MapM} (hm : OkM m) (x d : Int) {k i : Nat} (h : i < k) : iterZ m i (x + d * m.mod ^ k) % m.mod = iterZ m i x % m.mod := by
  rw [alike hm x d k i (by omega), show k - i = (k - (i + 1)) + 1 by omega, Int.pow_succ, ← Int.mul_assoc, Int.add_mul_emod_self_right]
theorem alike_end {m : MapM} (hm : OkM m) (x d : Int) (k : Nat) : iterZ m k (x + d * m.mod ^ k) - iterZ m k x = d * prodZ m x k := by
  rw [alike hm x d k k (Nat.le_refl _), Nat.sub_self, Int.pow_zero, Int.mul_one]; omega
end Go.Mth

set_option linter.unusedVariables false
set_option linter.unusedSimpArgs false
namespace Go.Mth
open Go.Ab
def wordZ (m : MapM) (z : Int) : Nat → List Int
  | 0 => []
  | k + 1 => wordZ m z k ++ [iterZ m k z % m.mod]
structure LinZ where
  mul : Int
  add : Int
  div : Int
def oneZ : LinZ := ⟨1, 0, 1⟩
def mulM (m : MapM) (r : Int) : Int := m.mul.getD r.toNat 0
def addM (m : MapM) (r : Int) : Int := m.add.getD r.toNat 0
def thenZ (m : MapM) (l : LinZ) (r : Int) : LinZ := ⟨mulM m r * l.mul, mulM m r * l.add + addM m r * l.div, l.div * m.mod⟩
def lineZ (m : MapM) (w : List Int) : LinZ := w.foldl (thenZ m) oneZ
theorem lineZ_snoc (m : MapM) (w : List Int) (r : Int) : lineZ m (w ++ [r]) = thenZ m (lineZ m w) r := by unfold lineZ; rw [List.foldl_append]; rfl
theorem wordZ_len (m : MapM) (z : Int) : ∀ k, (wordZ m z k).length = k
  | 0 => rfl
  | k + 1 => by rw [wordZ, List.length_append, wordZ_len m z k]; rfl
theorem snoc_ind {P : List Int → Prop} (h0 : P []) (hs : ∀ w r, P w → P (w ++ [r])) : ∀ w, P w := by
  intro w
  have h : ∀ l : List Int, P l.reverse := by
    intro l
    induction l with
    | nil => exact h0
    | cons x l ih => rw [List.reverse_cons]; exact hs _ _ ih
  have := h w.reverse
  rwa [List.reverse_reverse] at this
theorem lineZ_div (m : MapM) : ∀ w : List Int, (lineZ m w).div = m.mod ^ w.length := by
  refine snoc_ind (P := fun w => (lineZ m w).div = m.mod ^ w.length) (by simp [lineZ, oneZ]) fun w r ih => ?_
  show (lineZ m (w ++ [r])).div = m.mod ^ (w ++ [r]).length
  rw [lineZ_snoc, thenZ, ih, List.length_append, List.length_cons, List.length_nil, Int.pow_add]; simp [Int.pow_succ]
theorem getD_toNat {m : MapM} (hm : OkM m) (z : Int) : (stepZ m z) * m.mod = mulM m (z % m.mod) * z + addM m (z % m.mod) := by
  obtain ⟨o1, o2, o3, o4, o5⟩ := hm
  have hr0 := Int.emod_nonneg z (show m.mod ≠ 0 by omega)
  have hr1 := Int.emod_lt_of_pos z (show 0 < m.mod by omega)
  obtain ⟨_, _, _, _, h⟩ := o5 (z % m.mod).toNat (by omega)
  have hd := Int.dvd_of_tmod_eq_zero h
  unfold stepZ mulM addM
  refine Int.ediv_mul_cancel ?_
  have he := Int.mul_ediv_add_emod z m.mod
  have hz : m.mul.getD (z % m.mod).toNat 0 * z + m.add.getD (z % m.mod).toNat 0 = (m.mul.getD (z % m.mod).toNat 0 * ((z % m.mod).toNat : Int) + m.add.getD (z % m.mod).toNat 0) + m.mod * (m.mul.getD (z % m.mod).toNat 0 * (z / m.mod)) := by
    rw [show (((z % m.mod).toNat : Nat) : Int) = z % m.mod from Int.toNat_of_nonneg hr0, Int.mul_left_comm m.mod]
    have : m.mul.getD (z % m.mod).toNat 0 * z = m.mul.getD (z % m.mod).toNat 0 * (m.mod * (z / m.mod) + z % m.mod) := by rw [he]
    rw [this, Int.mul_add]
    omega
  rw [hz]
  exact Int.dvd_add hd (Int.dvd_mul_right _ _)
theorem line_iter {m : MapM} (hm : OkM m) (z : Int) : ∀ k, iterZ m k z * (lineZ m (wordZ m z k)).div = (lineZ m (wordZ m z k)).mul * z + (lineZ m (wordZ m z k)).add
  | 0 => by simp [wordZ, lineZ, oneZ, iterZ]
  | k + 1 => by
    have ih := line_iter hm z k
    have hs := getD_toNat hm (iterZ m k z)
    rw [wordZ, lineZ_snoc, iterZ]
    show stepZ m (iterZ m k z) * ((lineZ m (wordZ m z k)).div * m.mod) = mulM m (iterZ m k z % m.mod) * (lineZ m (wordZ m z k)).mul * z + (mulM m (iterZ m k z % m.mod) * (lineZ m (wordZ m z k)).add + addM m (iterZ m k z % m.mod) * (lineZ m (wordZ m z k)).div)
    rw [Int.mul_comm (lineZ m (wordZ m z k)).div, ← Int.mul_assoc, hs, Int.add_mul, Int.mul_assoc, ih, Int.mul_add, Int.mul_assoc]
    omega
theorem prod_free {m : MapM} (hm : OkM m) (hf : freeM m) (x : Int) : ∀ k, Nat.Coprime (prodZ m x k).natAbs m.mod.toNat
  | 0 => by simp [prodZ]
  | k + 1 => by
    have hm2 := hm
    obtain ⟨o1, o2, o3, o4, o5⟩ := hm2
    have hr0 := Int.emod_nonneg (iterZ m k x) (show m.mod ≠ 0 by omega)
    have hr1 := Int.emod_lt_of_pos (iterZ m k x) (show 0 < m.mod by omega)
    have h1 := hf (iterZ m k x % m.mod).toNat (by omega)
    obtain ⟨hq, _, _, _, _⟩ := o5 (iterZ m k x % m.mod).toNat (by omega)
    rw [prodZ, Int.natAbs_mul]
    refine Nat.Coprime.mul_left (prod_free hm hf x k) ?_
    have : (m.mul.getD (iterZ m k x % m.mod).toNat 0).natAbs = (m.mul.getD (iterZ m k x % m.mod).toNat 0).toNat := by omega
    rw [this]
    have hp := Nat.gcd_pos_of_pos_right (m.mul.getD (iterZ m k x % m.mod).toNat 0).toNat (show 0 < m.mod.toNat by omega)
    show Nat.gcd _ _ = 1
    omega
theorem word_rest {m : MapM} (hm : OkM m) (hf : freeM m) (x y : Int) : ∀ k, wordZ m x k = wordZ m y k ↔ ∃ e, y = x + e * m.mod ^ k
  | 0 => by
    constructor
    · intro _; exact ⟨y - x, by rw [Int.pow_zero]; omega⟩
    · intro _; rfl
  | k + 1 => by
    have hm2 := hm
    obtain ⟨o1, o2, o3, o4, o5⟩ := hm2
    have ih := word_rest hm hf x y k
    have hstep : ∀ e, y = x + e * m.mod ^ k → iterZ m k y = iterZ m k x + e * prodZ m x k := fun e he => by
      have := alike_end hm x e k
      rw [he]; omega
    rw [wordZ, wordZ]
    constructor
    · intro h
      have hl := List.append_inj h (by rw [wordZ_len, wordZ_len])
      obtain ⟨e, he⟩ := ih.1 hl.1
      have hr : iterZ m k x % m.mod = iterZ m k y % m.mod := by simpa using hl.2
      rw [hstep e he] at hr
      have hd : m.mod ∣ e * prodZ m x k := by
        have := Int.emod_emod_of_dvd (iterZ m k x) (Int.dvd_refl m.mod)
        have h2 := Int.emod_eq_emod_iff_emod_sub_eq_zero.1 hr.symm
        rw [show iterZ m k x + e * prodZ m x k - iterZ m k x = e * prodZ m x k by omega] at h2
        exact Int.dvd_of_emod_eq_zero h2
      have hn := Int.natAbs_dvd_natAbs.2 hd
      rw [Int.natAbs_mul] at hn
      have hmn : m.mod.natAbs = m.mod.toNat := by omega
      rw [hmn] at hn
      have he2 : m.mod.toNat ∣ e.natAbs := Nat.Coprime.dvd_of_dvd_mul_right ((prod_free hm hf x k).symm) hn
      rw [← hmn] at he2
      obtain ⟨d, hd2⟩ := Int.natAbs_dvd_natAbs.1 he2
      exact ⟨d, by rw [he, hd2, Int.pow_succ, Int.mul_comm (m.mod ^ k), ← Int.mul_assoc, Int.mul_comm d]⟩
    · rintro ⟨e, he⟩
      have he' : y = x + (e * m.mod) * m.mod ^ k := by rw [he, Int.pow_succ, Int.mul_comm (m.mod ^ k), Int.mul_assoc]
      rw [ih.2 ⟨_, he'⟩, hstep _ he', Int.mul_assoc, Int.mul_left_comm, Int.add_mul_emod_self_left]
theorem solve : ∀ n, n < 13 → ∀ p, p < n → Nat.gcd p n = 1 → ∀ a, a < n → ∀ r, r < n → ∃ t, t < n ∧ (a + t * p) % n = r := by decide +kernel
theorem prod_line (m : MapM) (z : Int) : ∀ k, prodZ m z k = (lineZ m (wordZ m z k)).mul
  | 0 => rfl
  | k + 1 => by
    rw [prodZ, wordZ, lineZ_snoc, prod_line m z k, Int.mul_comm]
    rfl
def lookT (p n a r : Int) : Nat := ((List.range n.toNat).find? fun (t : Nat) => decide ((a + (t : Int) * p) % n = r)).getD 0
theorem lookT_ok {p n a r : Int} (hn : 0 < n) (hn2 : n ≤ 12) (hp : Nat.gcd p.natAbs n.toNat = 1) (hr : 0 ≤ r) (hr2 : r < n) : (lookT p n a r : Int) < n ∧ (a + (lookT p n a r : Int) * p) % n = r := by
  have hp0 := Int.emod_nonneg p (show n ≠ 0 by omega)
  have hp1 := Int.emod_lt_of_pos p hn
  have ha0 := Int.emod_nonneg a (show n ≠ 0 by omega)
  have ha1 := Int.emod_lt_of_pos a hn
  have hg : Nat.gcd (p % n).toNat n.toNat = 1 := by
    have h1 : Int.gcd (p % n) n = Int.gcd p n := by
      rw [Int.gcd_comm, Int.gcd_comm p]
      have := Int.gcd_add_mul_left_right n (p % n) (p / n)
      rw [← this, Int.add_comm, Int.mul_ediv_add_emod]
    unfold Int.gcd at h1
    rw [show (p % n).natAbs = (p % n).toNat by omega, show n.natAbs = n.toNat by omega] at h1
    rw [h1]; exact hp
  obtain ⟨t, ht, he⟩ := solve n.toNat (by omega) (p % n).toNat (by omega) hg (a % n).toNat (by omega) r.toNat (by omega)
  have hz : (a + (t : Int) * p) % n = r := by
    have h2 : (((a % n).toNat + t * (p % n).toNat : Nat) : Int) % (n.toNat : Int) = (r.toNat : Int) := by rw [← Int.natCast_emod, he]
    rw [Int.toNat_of_nonneg (by omega), Int.toNat_of_nonneg hr, Int.natCast_add, Int.natCast_mul, Int.toNat_of_nonneg ha0, Int.toNat_of_nonneg hp0] at h2
    rw [← h2]
    simp [Int.add_emod, Int.mul_emod]
  have hs : ((List.range n.toNat).find? fun (t : Nat) => decide ((a + (t : Int) * p) % n = r)).isSome = true := by
    rw [List.find?_isSome]
    exact ⟨t, by simpa using ht, by simpa using hz⟩
  obtain ⟨u, hu⟩ := Option.isSome_iff_exists.1 hs
  unfold lookT
  rw [hu]
  have h1 := List.find?_some hu
  have h2 := List.mem_of_find?_eq_some hu
  simp at h1 h2
  exact ⟨by show (u : Int) < n; omega, h1⟩
def nextR (m : MapM) (s : Int × LinZ) (r : Int) : Int × LinZ := (s.1 + (lookT s.2.mul m.mod ((s.2.mul * s.1 + s.2.add) / s.2.div) r : Int) * s.2.div, thenZ m s.2 r)
def restZ (m : MapM) (w : List Int) : Int × LinZ := w.foldl (nextR m) (0, oneZ)
theorem restZ_snoc (m : MapM) (w : List Int) (r : Int) : restZ m (w ++ [r]) = nextR m (restZ m w) r := by unfold restZ; rw [List.foldl_append]; rfl
def IsW (m : MapM) (w : List Int) : Prop := ∀ r ∈ w, 0 ≤ r ∧ r < m.mod
theorem restZ_ok {m : MapM} (hm : OkM m) (hf : freeM m) : ∀ w : List Int, IsW m w → (restZ m w).2 = lineZ m w ∧ 0 ≤ (restZ m w).1 ∧ (restZ m w).1 < m.mod ^ w.length ∧ wordZ m (restZ m w).1 w.length = w := by
  refine snoc_ind (P := fun w => IsW m w → (restZ m w).2 = lineZ m w ∧ 0 ≤ (restZ m w).1 ∧ (restZ m w).1 < m.mod ^ w.length ∧ wordZ m (restZ m w).1 w.length = w) (fun _ => ⟨rfl, Int.le_refl 0, by simp [restZ], rfl⟩) fun w r ih hw => ?_
  have hw1 : IsW m w := fun x hx => hw x (by simp [hx])
  obtain ⟨hr0, hr1⟩ := hw r (by simp)
  obtain ⟨h1, h2, h3, h4⟩ := ih hw1
  have hm2 := hm
  obtain ⟨o1, o2, o3, o4, o5⟩ := hm2
  obtain ⟨R, hR⟩ : ∃ R, R = (restZ m w).1 := ⟨_, rfl⟩
  rw [← hR] at h2 h3 h4
  have hdiv := lineZ_div m w
  have hpos : 0 < m.mod ^ w.length := Int.pow_pos (by omega)
  have hli := line_iter hm R w.length
  rw [h4] at hli
  have hpl := prod_line m R w.length
  rw [h4] at hpl
  have ha : ((lineZ m w).mul * R + (lineZ m w).add) / (lineZ m w).div = iterZ m w.length R := by
    rw [← hli]
    exact Int.mul_ediv_cancel _ (by rw [hdiv]; omega)
  have hcop : Nat.gcd (lineZ m w).mul.natAbs m.mod.toNat = 1 := by rw [← hpl]; exact prod_free hm hf R w.length
  obtain ⟨ht1, ht2⟩ := lookT_ok (p := (lineZ m w).mul) (a := iterZ m w.length R) (by omega) o2 hcop hr0 hr1
  obtain ⟨t, ht⟩ : ∃ t : Nat, t = lookT (lineZ m w).mul m.mod (iterZ m w.length R) r := ⟨_, rfl⟩
  rw [← ht] at ht1 ht2
  have hs : restZ m (w ++ [r]) = (R + (t : Int) * m.mod ^ w.length, thenZ m (lineZ m w) r) := by
    rw [restZ_snoc]
    unfold nextR
    rw [h1, ← hR, ha, hdiv, ← ht]
  rw [hs, lineZ_snoc]
  have hlen : (w ++ [r]).length = w.length + 1 := by simp
  refine ⟨rfl, ?_, ?_, ?_⟩
  · show 0 ≤ R + (t : Int) * m.mod ^ w.length
    have := Int.mul_nonneg (show (0 : Int) ≤ (t : Int) by omega) (show 0 ≤ m.mod ^ w.length by omega)
    omega
  · show R + (t : Int) * m.mod ^ w.length < m.mod ^ (w ++ [r]).length
    rw [hlen, Int.pow_succ]
    have := Int.mul_le_mul_of_nonneg_left (show (t : Int) + 1 ≤ m.mod by omega) (show 0 ≤ m.mod ^ w.length by omega)
    rw [Int.mul_add, Int.mul_one, Int.mul_comm _ (t : Int)] at this
    omega
  · show wordZ m (R + (t : Int) * m.mod ^ w.length) (w ++ [r]).length = w ++ [r]
    rw [hlen, wordZ]
    have e1 : wordZ m (R + (t : Int) * m.mod ^ w.length) w.length = w := by
      rw [← (word_rest hm hf R (R + (t : Int) * m.mod ^ w.length) w.length).2 ⟨t, rfl⟩, h4]
    have e2 := alike_end hm R (t : Int) w.length
    have e3 : iterZ m w.length (R + (t : Int) * m.mod ^ w.length) = iterZ m w.length R + (t : Int) * (lineZ m w).mul := by rw [← hpl]; omega
    rw [e1, e3, ht2]
theorem terras {m : MapM} (hm : OkM m) (hf : freeM m) {w : List Int} (hw : IsW m w) (x : Int) : wordZ m x w.length = w ↔ x % m.mod ^ w.length = (restZ m w).1 := by
  obtain ⟨_, h2, h3, h4⟩ := restZ_ok hm hf w hw
  have h := word_rest hm hf (restZ m w).1 x w.length
  rw [h4] at h
  constructor
  · intro e
    obtain ⟨d, hd⟩ := h.1 e.symm
    rw [hd, Int.add_mul_emod_self_right]
    exact Int.emod_eq_of_lt h2 h3
  · intro e
    refine (h.2 ⟨x / m.mod ^ w.length, ?_⟩).symm
    have := Int.mul_ediv_add_emod x (m.mod ^ w.length)
    rw [e, Int.mul_comm] at this
    omega
end Go.Mth

set_option linter.unusedVariables false
set_option linter.unusedSimpArgs false
namespace Go.Proofs.YtbilndahjkimkaaDoor
open Go Go.Shelf Go.RowKit Go.Lib Go.Ab Go.Mth
theorem i122 : (Tryd.prog.info? 115).map (fun i => (i.zero, i.size, i.bytes)) = some (some (Value.int IntKind.u32 0), 1, 4) := by kernel_rfl
set_option maxHeartbeats 4000000 in
set_option maxRecDepth 100000 in
theorem insert_front (b off n vb voff vc : Nat) (cs : List Value) (x : Value) (w : World) (hn : 0 < n) (hbig : (n + 1) * 4 ≤ 140737488355328) (hcl : cs.length = n)
    (hcs : ∀ j v, cs[j]? = some v → w.cell? ⟨b, off + j, none⟩ = some v) (hx : w.cell? ⟨vb, voff, none⟩ = some x) (h1c : ∀ v ∈ cs, v.oneCell' = true) (h1x : x.oneCell' = true) :
    Calls Tryd.prog 96 #[.slice (some ⟨b, off, none⟩) n n, .int .i64 0, .slice (some ⟨vb, voff, none⟩) 1 vc] w fun e w' =>
      e = .returned (.slice (some ⟨w.heap.size, 0, none⟩) (n + 1) (grownCap w (n + 1) n 115)) ∧
      w' = (((w.alloc (.cells (Builtin.zeroCells (Value.int .u32 0).cells (n + 1) ++ Builtin.zeroCells (Value.int .u32 0).cells (grownCap w (n + 1) n 115 - (n + 1))) 115)).drew.setCells w.heap.size 0 [x]).drew).setCells w.heap.size 1 cs := by
  have t3 := Tryd.underlying3; have a3 := Tryd.isAgg3; have z3 := Tryd.sizeOf3; have v3 := Tryd.zeroValue3; have t4 := Tryd.underlying4; have a4 := Tryd.isAgg4; have z4 := Tryd.sizeOf4; have v4 := Tryd.zeroValue4
  have t87 := Tryd.underlying77; have a87 := Tryd.isAgg77; have z87 := Tryd.sizeOf77; have v87 := Tryd.zeroValue77; have t122 := Tryd.underlying115; have a122 := Tryd.isAgg115; have z122 := Tryd.sizeOf115; have v122 := Tryd.zeroValue115
  have u3 := run_underlying Tryd.underlying3; have u4 := run_underlying Tryd.underlying4; have u87 := run_underlying Tryd.underlying77; have u122 := run_underlying Tryd.underlying115
  have mixed := mixedT
  obtain ⟨i0, hi0, hz0, hzs, hzb⟩ := info_parts i122
  have hz2 : ¬ ((0 : Int) = (n : Int)) := by omega
  have hz3 : (n : Int) < (n : Int) + 1 := by omega
  have hsz : (Tryd.prog.info? 115).map (·.size) = some 1 := by rw [hi0]; simp [hzs]
  have hbw : b < w.heap.size := block_lt_of_cell (hcs 0 _ (List.getElem?_eq_getElem (by omega)))
  have hvw : vb < w.heap.size := block_lt_of_cell hx
  have hold : (Builtin.firstCells i0.size 0 (.slice (some ⟨b, off, none⟩) 0 n)).run Tryd.prog w.drew = .ok ([] : List Value).toArray w.drew := by
    rw [hzs]
    exact run_firstCells_some w.drew 1 0 ⟨b, off, none⟩ 0 n [] rfl (fun j v hj => by cases hj)
  have hrz : ∀ ty, (Builtin.append_ #[77, 3] ty #[.slice (some ⟨b, off, none⟩) 0 n, .int .i64 ((n : Int) + 1 - 0)]).run Tryd.prog w =
      .ok (.slice (some ⟨w.heap.size, 0, none⟩) (n + 1) (grownCap w (n + 1) n 115)) (w.drew.alloc (.cells (Builtin.zeroCells (Value.int .u32 0).cells (n + 1) ++ Builtin.zeroCells (Value.int .u32 0).cells (grownCap w (n + 1) n 115 - (n + 1))) 115)) := fun ty => by
    have h := Lib.run_append_grow_zeros w 77 3 ty 115 i0 _ .i64 .i64 Tryd.underlying77 Tryd.underlying3 hi0 hz0 (some ⟨b, off, none⟩) 0 n [] hold (n + 1) (by omega) (by omega) (by omega) (by omega) (by rw [hzb]; omega) (by rw [hzb, Nat.zero_add]; exact growslice_fits (by omega) hbig)
    rw [Nat.zero_add] at h
    simpa using h
  obtain ⟨G, hG⟩ : ∃ G, G = grownCap w (n + 1) n 115 := ⟨_, rfl⟩
  obtain ⟨ROW, hROW⟩ : ∃ ROW : Array Value, ROW = Builtin.zeroCells (Value.int .u32 0).cells (n + 1) ++ Builtin.zeroCells (Value.int .u32 0).cells (G - (n + 1)) := ⟨_, rfl⟩
  rw [← hG] at hrz ⊢
  rw [← hROW] at hrz ⊢
  have hRl : n + 1 ≤ ROW.size := by
    rw [hROW]
    simp [Builtin.zeroCells, Value.cells]
  obtain ⟨W1, hW1⟩ : ∃ W1, W1 = w.drew.alloc (.cells ROW 115) := ⟨_, rfl⟩
  rw [← hW1] at hrz
  have hN : ∀ j, j < n + 1 → (W1.cell? ⟨w.heap.size, j, none⟩).isSome = true := fun j hj => by
    rw [hW1, World.cell?_alloc_at (w := w.drew) ROW _ w.heap.size j rfl, Array.getElem?_eq_getElem (by omega)]; rfl
  have hNf : ∀ j, W1.frozen? ⟨w.heap.size, j, none⟩ = false := fun j => by rw [hW1]; exact World.frozen?_alloc_at (w := w.drew) ROW _ w.heap.size j rfl
  have hOb : ∀ j v, w.cell? ⟨b, j, none⟩ = some v → W1.cell? ⟨b, j, none⟩ = some v := fun j v h => by rw [hW1, World.cell?_alloc_past (w := w.drew) _ b j hbw]; exact h
  have hOv : ∀ j v, w.cell? ⟨vb, j, none⟩ = some v → W1.cell? ⟨vb, j, none⟩ = some v := fun j v h => by rw [hW1, World.cell?_alloc_past (w := w.drew) _ vb j hvw]; exact h
  have hcpA : ∀ (W : World), (∀ x, W.cell? x = W1.cell? x) → (∀ x, W.frozen? x = W1.frozen? x) → ∀ ty dc, (Builtin.copy_ #[77, 77] ty #[.slice (some ⟨w.heap.size, 0, none⟩) (n + 1) dc, .slice (some ⟨vb, voff, none⟩) 1 vc]).run Tryd.prog W = .ok (goInt [x].length) (W.setCells w.heap.size 0 [x]) := fun W hWc hWf ty dc =>
    run_copy_cells W _ _ ty 115 w.heap.size 0 (n + 1) dc ⟨vb, voff, none⟩ 1 vc [x] Tryd.underlying77 hsz (by simp only [List.length_cons, List.length_nil, Nat.min_def]; split <;> omega)
      (fun j v hj => by
        cases j with
        | zero => simp at hj; subst hj; rw [Addr.add_lit, hWc]; exact hOv _ _ hx
        | succ j => simp at hj)
      (fun j hj => by rw [hWc]; simp at hj; subst hj; exact hN _ (by omega)) (fun j hj => by rw [hWf]; exact hNf _) (fun v hv => by simp at hv; subst hv; exact h1x)
  have hGn : n + 1 ≤ G := by rw [hG]; exact grownCap_ge w _ _ _
  have hG63 : G ≤ 9223372036854775807 := by
    have := grownCap_le_maxLen w (n + 1) n 115 (by unfold maxLen; omega)
    rw [← hG] at this
    unfold maxLen at this
    omega
  have hbN : b ≠ w.heap.size := by omega
  have hcpB : ∀ (W : World), (∀ a, W.cell? a = (W1.setCells w.heap.size 0 [x]).cell? a) → (∀ a, W.frozen? a = (W1.setCells w.heap.size 0 [x]).frozen? a) → ∀ ty dc sc, (Builtin.copy_ #[77, 77] ty #[.slice (some ⟨w.heap.size, 1, none⟩) n dc, .slice (some ⟨b, off, none⟩) n sc]).run Tryd.prog W = .ok (goInt cs.length) (W.setCells w.heap.size 1 cs) := fun W hWc hWf ty dc sc =>
    run_copy_cells W _ _ ty 115 w.heap.size 1 n dc ⟨b, off, none⟩ n sc cs Tryd.underlying77 hsz (by rw [hcl]; simp only [Nat.min_def]; split <;> omega)
      (fun j v hj => by
        rw [Addr.add_lit, hWc, World.cell?_setCells_out _ _ _ _ _ (fun h _ => absurd h hbN)]
        exact hOb _ v (hcs j v hj))
      (fun j hj => by rw [hWc]; exact isSome_setCells _ _ _ _ (fun t ht => hN _ (by simp at ht; omega)) _ (hN _ (by omega)))
      (fun j hj => by rw [hWf, World.frozen?_setCells]; exact hNf _) (fun v hv => h1c v hv)
  subst hW1
  have hE1 : ∀ x, ((w.alloc (.cells ROW 115)).drew).cell? x = (w.drew.alloc (.cells ROW 115)).cell? x := fun x => rfl
  have hE2 : ∀ x, ((w.alloc (.cells ROW 115)).drew).frozen? x = (w.drew.alloc (.cells ROW 115)).frozen? x := fun x => rfl
  have hF1 : ∀ a, (((w.alloc (.cells ROW 115)).drew.setCells w.heap.size 0 [x]).drew).cell? a = ((w.drew.alloc (.cells ROW 115)).setCells w.heap.size 0 [x]).cell? a := fun x => rfl
  have hF2 : ∀ a, (((w.alloc (.cells ROW 115)).drew.setCells w.heap.size 0 [x]).drew).frozen? a = ((w.drew.alloc (.cells ROW 115)).setCells w.heap.size 0 [x]).frozen? a := fun x => rfl
  have hw1 : IntKind.i64.wrap ((n : Int) + 1) = (n : Int) + 1 := by rw [IntKind.wrap_i64]; omega
  have hw2 : IntKind.i64.wrap 1 = 1 := by decide
  have hG1 : ¬ (G = 1) := by omega
  have hb2 : (1 : Int) ≤ (n : Int) + 1 := by omega
  have hn0 : ¬ (n = 0) := by omega
  have hb1 : (0 : Int) ≤ (n : Int) := by omega
  clear hold hROW hG hRl
  go_enter Tryd.func96, Tryd.ntmps96
  go_wp2_with (first
    | (at_builtin; refine Lib.wpList_append_run _ rfl _ _ _ _ rfl _ _ rfl rfl _ _ (hrz _) ?_)
    | (at_builtin; refine wpList_copy_runI _ rfl _ _ 77 77 rfl _ _ rfl rfl (hcpA _ hE1 hE2 _ _) ?_)
    | (at_builtin; refine wpList_copy_runI _ rfl _ _ 77 77 rfl _ _ rfl rfl (hcpB _ (fun _ => rfl) (fun _ => rfl) _ _ _) ?_))
  go_region_law_o (refine step_copy_runI rfl _ _ 77 77 rfl (.slice (some ⟨w.heap.size, 1, none⟩) n (G - 1)) (.slice (some ⟨b, off, none⟩) n n) (by simp [Act.eval, Act.put]) (by simp [Act.eval, Act.put]) (hcpB _ hF1 hF2 3 (G - 1) n) ?_)
  go_wp2
  go_ret
  exact ⟨rfl, rfl⟩
set_option maxHeartbeats 4000000 in
set_option maxRecDepth 100000 in
theorem insert_empty (base : Option Addr) (vb voff vc : Nat) (x : Value) (w : World) (hx : w.cell? ⟨vb, voff, none⟩ = some x) (h1x : x.oneCell' = true) :
    Calls Tryd.prog 96 #[.slice base 0 0, .int .i64 0, .slice (some ⟨vb, voff, none⟩) 1 vc] w fun e w' =>
      e = .returned (.slice (some ⟨w.heap.size, 0, none⟩) 1 (grownCap w 1 0 115)) ∧ w' = w.drew.alloc (.cells ([x].toArray ++ Builtin.zeroCells (Value.int .u32 0).cells (grownCap w 1 0 115 - 1)) 115) := by
  have t3 := Tryd.underlying3; have a3 := Tryd.isAgg3; have z3 := Tryd.sizeOf3; have v3 := Tryd.zeroValue3; have t4 := Tryd.underlying4; have a4 := Tryd.isAgg4; have z4 := Tryd.sizeOf4; have v4 := Tryd.zeroValue4
  have t87 := Tryd.underlying77; have a87 := Tryd.isAgg77; have z87 := Tryd.sizeOf77; have v87 := Tryd.zeroValue77; have t122 := Tryd.underlying115; have a122 := Tryd.isAgg115; have z122 := Tryd.sizeOf115; have v122 := Tryd.zeroValue115
  have u3 := run_underlying Tryd.underlying3; have u4 := run_underlying Tryd.underlying4; have u87 := run_underlying Tryd.underlying77; have u122 := run_underlying Tryd.underlying115
  have mixed := mixedT
  obtain ⟨i0, hi0, hz0, hzs, hzb⟩ := info_parts i122
  have hsrc : Src Tryd.prog i0.size 77 (.slice (some ⟨vb, voff, none⟩) 1 vc) 1 [x] w := by
    rw [hzs]
    exact Src.ofSlice w Tryd.underlying77 ⟨vb, voff, none⟩ 1 vc [x] rfl (fun j u hj => by
      cases j with
      | zero => simp at hj; subst hj; rw [Addr.add_lit]; exact hx
      | succ j => simp at hj) (fun v hv => by simp at hv; subst hv; exact h1x)
  have hold : (Builtin.firstCells i0.size 0 (.slice base 0 0)).run Tryd.prog w.drew = .ok ([] : List Value).toArray w.drew := by
    rw [hzs]
    cases base with
    | none => exact run_firstCells_none w.drew 1 0 0 0
    | some a => exact run_firstCells_some w.drew 1 0 a 0 0 [] rfl (fun j v hj => by cases hj)
  have hrun : ∀ ty, (Builtin.append_ #[77, 77] ty #[.slice base 0 0, .slice (some ⟨vb, voff, none⟩) 1 vc]).run Tryd.prog w = _ := fun ty =>
    run_append_grow_src w 77 77 ty 115 i0 _ Tryd.underlying77 hi0 hz0 base 0 0 [] hold _ 1 [x] hsrc (by omega) (by omega) (by rw [hzb]; exact growslice_fits (by omega) (by omega))
  go_enter Tryd.func96, Tryd.ntmps96
  cases base with
  | none =>
    go_wp2_with (at_builtin; refine Lib.wpList_append_run _ rfl _ _ _ _ rfl _ _ rfl rfl _ _ (hrun _) ?_)
    go_ret
    exact ⟨rfl, rfl⟩
  | some a =>
    obtain ⟨ab, ao, asp⟩ := a
    go_wp2_with (at_builtin; refine Lib.wpList_append_run _ rfl _ _ _ _ rfl _ _ rfl rfl _ _ (hrun _) ?_)
    all_goals (go_ret; exact ⟨rfl, rfl⟩)
theorem setCells_below {B b : Nat} (hb : B ≤ b) {a : World} : ∀ (vs : List Value) (o : Nat) (w : World), Below B a w → Below B a (w.setCells b o vs)
  | [], _, _, h => h
  | v :: r, o, w, h => setCells_below hb r (o + 1) _ (h.setCell hb v)
theorem ret_row {H : Heap} {w w' : World} {xs : List Nat} {k : IntKind} {cap : Nat} (hH : ∀ b o, H b = some o → w.heap[b]? = some o) (hb : Below w.heap.size w w') (hl : 0 < xs.length) (hle : xs.length ≤ cap) (hcap : cap ≤ maxLen) (hbd : xs.length ≤ 140737488355328)
    (hc : ∀ (j x : Nat), xs[j]? = some x → w'.cell? ⟨w.heap.size, j, none⟩ = some (.int k x)) :
    ∃ H' v, (Ending.returned (.slice (some ⟨w.heap.size, 0, none⟩) xs.length cap)) = .returned v ∧ RepV H' (.sl 1 (ns k xs)) noLoc v ∧ Ext w.heap.size H H' ∧ (∀ b o, H' b = some o → w'.heap[b]? = some o) ∧ Below w.heap.size w w' := by
  obtain ⟨ob, hob, hcl⟩ := cells_of_cell (hc 0 _ (List.getElem?_eq_getElem hl))
  cases ob with
  | cells o t fr =>
    have hsm : ∀ b x, H b = some x → b < w.heap.size := fun b x h => (Array.getElem?_eq_some_iff.1 (hH b x h)).1
    have hcell : ∀ (j x : Nat), xs[j]? = some x → o[j]? = some (.int k x) := fun j x hj => by
      have := hc j x hj
      unfold World.cell? at this
      rw [hob] at this
      simpa using this
    refine ⟨fun b => if b = w.heap.size then some (.cells o t fr) else H b, _, rfl, ?_, ⟨fun b x h => ?_, fun b h => if_neg (by omega)⟩, fun b x h => ?_, hb⟩
    · simp only [RepV]
      refine ⟨_, _, _, rfl, hle, hcap, by omega, by simp [ns], ⟨by simpa [ns] using hbd, fun h => by cases h⟩, fun _ => ⟨_, _, o, t, fr, xs.map (fun (x : Nat) => Value.int k (x : Int)), rfl, if_pos rfl, fun j u hu => ?_, ?_, fun u hu => ?_⟩⟩
      · rw [List.getElem?_map] at hu
        cases hx : xs[j]? with
        | none => rw [hx] at hu; cases hu
        | some x => rw [hx] at hu; cases hu; rw [Nat.zero_add]; exact hcell j x hx
      · have := RepL.lits (H := fun b => if b = w.heap.size then some (.cells o t fr) else H b) noLoc (xs.map (fun (x : Nat) => Value.int k (x : Int)))
        rw [List.map_map] at this
        exact this
      · obtain ⟨x, _, rfl⟩ := List.mem_map.1 hu; rfl
    · show (if b = w.heap.size then _ else H b) = _
      rw [if_neg (by have := hsm b x h; omega)]; exact h
    · have h' : (if b = w.heap.size then some (Obj.cells o t fr) else H b) = some x := h
      split at h'
      · rename_i e; subst e; cases h'; exact hob
      · rw [hb.block b (hsm b x h')]; exact hH b x h'
  | _ => simp [Obj.isCells] at hcl
theorem c_insert (xs : List Nat) (x : Nat) (hxs : xs.length ≤ 1000000000) : ECalls cx 96 [.slc 1 (ns .u32 xs) xs.length, nm .i64 0, .sl 1 (ns .u32 [x])] (.sl 1 (ns .u32 (x :: xs))) := by
  intro H L vals w hG hH hr
  simp only [RepL, RepV, nm, ns_len, Nat.mul_one] at hr
  obtain ⟨v1, _, rfl, ⟨A, n1, rfl, _, _, _, hn1, ⟨_, hA⟩, h1⟩, v2, _, rfl, rfl, v3, _, rfl, ⟨B, n2, vc, rfl, _, _, _, hn2, ⟨_, hB⟩, h2⟩, rfl⟩ := hr
  subst hn1
  simp at hn2
  subst hn2
  obtain ⟨vb, voff, o2, t2, fr2, vs2, rfl, hb2, hc2, hr2, ho2⟩ := h2 (by omega)
  simp only [ns, List.map_cons, List.map_nil, RepL, RepV, nm] at hr2
  obtain ⟨_, _, rfl, rfl, rfl⟩ := hr2
  have hx : w.cell? ⟨vb, voff, none⟩ = some (.int .u32 (x : Int)) := by
    unfold World.cell?
    rw [hH vb _ hb2]
    have := hc2 0 _ rfl
    simpa using this
  by_cases h0 : xs.length = 0
  · have hx0 : xs = [] := List.length_eq_zero_iff.1 h0
    subst hx0
    refine (insert_empty A vb voff vc _ w hx rfl).mono ?_
    rintro e w' ⟨rfl, rfl⟩
    refine ret_row (xs := [x]) hH ?_ (by simp) (grownCap_ge w _ _ _) (grownCap_le_maxLen w 1 0 115 (by unfold maxLen; omega)) (by simp) ?_
    · exact (Below.refl _ _).drew.alloc (Nat.le_refl _) _
    · intro j y hj
      cases j with
      | zero =>
        simp at hj; subst hj
        rw [World.cell?_alloc_at (w := w.drew) _ _ w.heap.size 0 rfl, Array.getElem?_append_left (by simp)]
        rfl
      | succ j => simp at hj
  · obtain ⟨b1, off1, o1, t1, fr1, vs1, rfl, hb1, hc1, hr1, ho1⟩ := h1 (by omega)
    have hv1 : vs1 = xs.map (fun (x : Nat) => Value.int .u32 (x : Int)) := by
      have h : ∀ (l : List Nat) (vs : List Value), RepL H (ns .u32 l) noLoc vs → vs = l.map (fun (x : Nat) => Value.int .u32 (x : Int)) := by
        intro l
        induction l with
        | nil => intro vs h; simpa [ns, RepL] using h
        | cons y l ih =>
          intro vs h
          simp only [ns, List.map_cons, RepL, RepV, nm] at h
          obtain ⟨_, r, rfl, rfl, h⟩ := h
          rw [List.map_cons, ih r h]
      exact h xs vs1 hr1
    have hl1 : vs1.length = xs.length := by rw [hv1, List.length_map]
    have hcs : ∀ (j : Nat) (v : Value), vs1[j]? = some v → w.cell? ⟨b1, off1 + j, none⟩ = some v := fun j v hj => by
      unfold World.cell?
      rw [hH b1 _ hb1]
      have := hc1 j v hj
      simpa using this
    refine (insert_front b1 off1 xs.length vb voff vc vs1 _ w (by omega) (by omega) hl1 hcs hx ho1 rfl).mono ?_
    rintro e w' ⟨rfl, rfl⟩
    refine ret_row (xs := x :: xs) hH ?_ (by simp) (grownCap_ge w _ _ _) (grownCap_le_maxLen w (xs.length + 1) xs.length 115 (by unfold maxLen; omega)) (by simp; omega) ?_
    · exact setCells_below (Nat.le_refl _) _ _ _ (setCells_below (Nat.le_refl _) _ _ _ ((Below.refl _ _).alloc (Nat.le_refl _) _).drew).drew
    · obtain ⟨ROW, hROW⟩ : ∃ ROW : Array Value, ROW = Builtin.zeroCells (Value.int .u32 0).cells (xs.length + 1) ++ Builtin.zeroCells (Value.int .u32 0).cells (grownCap w (xs.length + 1) xs.length 115 - (xs.length + 1)) := ⟨_, rfl⟩
      have hRl : xs.length + 1 ≤ ROW.size := by rw [hROW]; simp [Builtin.zeroCells, Value.cells]
      rw [← hROW]
      have hN : ∀ j, j < xs.length + 1 → ((w.drew.alloc (.cells ROW 115)).cell? ⟨w.heap.size, j, none⟩).isSome = true := fun j hj => by
        rw [World.cell?_alloc_at (w := w.drew) ROW _ w.heap.size j rfl, Array.getElem?_eq_getElem (by omega)]; rfl
      intro j y hj
      cases j with
      | zero =>
        simp at hj; subst hj
        rw [World.cell?_setCells_out _ _ _ _ _ (fun _ _ => .inl (by simp))]
        have := World.cell?_setCells_in w.heap.size [Value.int .u32 (x : Int)] 0 (w.drew.alloc (.cells ROW 115)) (fun j hj => hN _ (by simp at hj; omega)) 0 (by simp)
        rw [Nat.add_zero] at this
        exact this
      | succ j =>
        simp at hj
        have hjl : j < xs.length := (List.getElem?_eq_some_iff.1 hj).1
        have := World.cell?_setCells_in w.heap.size vs1 1 (((w.alloc (.cells ROW 115)).drew.setCells w.heap.size 0 [Value.int .u32 (x : Int)]).drew) (fun j hj => isSome_setCells _ _ _ _ (fun t ht => hN _ (by simp at ht; omega)) _ (hN _ (by omega))) j (by omega)
        rw [Nat.add_comm j 1, this]
        subst hv1
        rw [List.getElem_map]
        congr 2
        exact congrArg _ (List.getElem?_eq_some_iff.1 hj).2
end Go.Proofs.YtbilndahjkimkaaDoor

set_option linter.unusedVariables false
set_option linter.unusedSimpArgs false
namespace Go.Ab
open Go.Mth
theorem AV.le_nilc' {sz c : Nat} {xs : List AV} (h : 0 < sz) (e : xs = []) (e2 : c = 0) : AV.le (.lit (.slice none 0 0)) (.slc sz xs c) := by subst e; subst e2; exact AV.le_nilc h
def intC (z : Int) : AV := .agg [bp (z < 0), .slc 1 (ns .u32 (digs z.natAbs)) (digs z.natAbs).length]
theorem intC_of {a : AV} {l : List Nat} {c : Nat} {z : Int} (h : AV.agg [a, .sl 1 (ns .u32 l)] = intW z) (hc : c = l.length) : AV.agg [a, .slc 1 (ns .u32 l) c] = intC z := by
  unfold intW intK at h
  simp only [AV.agg.injEq, List.cons.injEq, AV.sl.injEq, and_true, true_and] at h
  have hl := congrArg List.length h.2
  simp only [ns_len] at hl
  unfold intC
  rw [h.1, h.2, hc, hl]
theorem trimc_fin {neg : Bool} {xs : List Nat} {n : Nat} (hx : Dig xs) (hn : n ≤ xs.length) (hv : val (xs.take n) = val xs) (h : n = 0 ∨ xs.getD (n - 1) 0 ≠ 0) :
    AV.agg [AV.lit (.bool (neg && decide (0 < n))), .slc 1 (ns .u32 ((xs.drop 0).take (n - 0))) (n - 0)] = intC (sg neg (val xs)) :=
  intC_of (trim_fin (k := .u32) hx hn hv h) (by rw [List.length_take, List.drop_zero, Nat.sub_zero]; omega)
theorem nc_sg {X n : Nat} (h : n = X) : AV.slc 1 (ns .u32 (digs (sg false n).natAbs)) (digs (sg false n).natAbs).length = AV.slc 1 (ns .u32 (digs X)) (digs X).length := by subst h; rw [sg_abs]
end Go.Ab
namespace Go.Mth
theorem times_step {r a : List Nat} {i c n t : Nat} (hl : r.length = i) (hv : val r + 1000000000 ^ i * c = val (a.take i) * n) (ht : t = a.getD i 0 * n + c) :
    val (r ++ [t % 1000000000]) + 1000000000 ^ (i + 1) * (t / 1000000000) = val (a.take (i + 1)) * n := by
  rw [val_snoc, val_take_succ, hl, Nat.add_assoc, carry, ht, Nat.add_mul, ← hv, Nat.mul_add, ← Nat.mul_assoc]
  omega
theorem times_fin {r : List Nat} {m n c i : Nat} (hi : i = (digs m).length) (hl : r.length = i) (hv : val r + 1000000000 ^ i * c = val ((digs m).take i) * n) : val (r ++ [c]) = m * n := by
  rw [val_snoc, hl, hv, hi, List.take_length, val_digs]
theorem set_zero {o : List Nat} {j : Nat} (h : o.getD j 0 = 0) : o.set j 0 = o := by
  apply List.ext_getElem?
  intro k
  rw [List.getElem?_set]
  split
  · rename_i e; subst e
    split
    · rename_i hl
      rw [List.getD_eq_getElem?_getD, List.getElem?_eq_getElem hl] at h
      rw [List.getElem?_eq_getElem hl]
      exact congrArg some (by simpa using h.symm)
    · rename_i hl; rw [List.getElem?_eq_none (by omega)]
  · rfl
theorem getD_set_off {o : List Nat} {j k v : Nat} (h : j ≠ k) : (o.set j v).getD k 0 = o.getD k 0 := by
  rw [List.getD_eq_getElem?_getD, List.getD_eq_getElem?_getD, List.getElem?_set_ne h]
theorem quo_top {a b r : Nat} (ha : a < 1000000000) (hr : r < b) : a + 1000000000 * r < b * 1000000000 := by
  have : 1000000000 * r + 1000000000 ≤ 1000000000 * b := by
    have := Nat.mul_le_mul_left 1000000000 (show r + 1 ≤ b by omega)
    omega
  omega
theorem quo_at {X n l : Nat} (h1 : n * l ≤ X) (h2 : X < n * (l + 1)) : X / n = l ∧ X % n = X - n * l := by
  have hn : 0 < n := by rcases Nat.eq_zero_or_pos n with e | e; subst e; simp at h2; exact e
  have hq : X / n = l := by
    apply Nat.le_antisymm
    · exact Nat.le_of_lt_succ ((Nat.div_lt_iff_lt_mul hn).2 (by rw [Nat.mul_comm]; exact h2))
    · exact (Nat.le_div_iff_mul_le hn).2 (by rw [Nat.mul_comm]; exact h1)
  refine ⟨hq, ?_⟩
  have := Nat.div_add_mod X n
  rw [hq] at this
  omega
theorem cmpN_le {m n : Nat} (h : cmpN m n ≤ 0) : m ≤ n := by unfold cmpN at h; split at h; omega; split at h <;> omega
theorem cmpN_nle {m n : Nat} (h : ¬ cmpN m n ≤ 0) : n < m := by unfold cmpN at h; split at h; omega; split at h <;> omega
theorem cmpN_neg {m n : Nat} (h : cmpN m n < 0) : m < n := by unfold cmpN at h; split at h; omega; split at h <;> omega
theorem cmpN_nneg {m n : Nat} (h : ¬ cmpN m n < 0) : n ≤ m := by unfold cmpN at h; split at h; omega; split at h <;> omega
theorem quo_skip {a o : List Nat} {j n r : Nat} (hj : j < a.length) (hl : o.length = a.length) (hv : val (a.drop (j + 1)) = n * val (o.drop (j + 1)) + r) (hz : o.getD j 0 = 0) (hX : a.getD j 0 + 1000000000 * r < n) :
    val (a.drop j) = n * val (o.drop j) + (a.getD j 0 + 1000000000 * r) := by
  have h := div_step hj hl (show 0 < n by omega) hv (x := a.getD j 0 + 1000000000 * r) (by omega)
  rw [Nat.div_eq_of_lt hX, Nat.mod_eq_of_lt hX, set_zero hz] at h
  exact h
theorem quo_put {a o : List Nat} {j n r l : Nat} (hj : j < a.length) (hl : o.length = a.length) (hv : val (a.drop (j + 1)) = n * val (o.drop (j + 1)) + r) (h1 : n * l ≤ a.getD j 0 + 1000000000 * r) (h2 : a.getD j 0 + 1000000000 * r < n * (l + 1)) :
    val (a.drop j) = n * val ((o.set j l).drop j) + (a.getD j 0 + 1000000000 * r - n * l) := by
  have hn : 0 < n := by rcases Nat.eq_zero_or_pos n with e | e; subst e; simp at h2; exact e
  have h := div_step hj hl hn hv (x := a.getD j 0 + 1000000000 * r) (by omega)
  have hq := quo_at h1 h2
  rw [hq.1, hq.2] at h
  exact h
theorem quo_rest {X n l : Nat} (h1 : n * l ≤ X) (h2 : X < n * (l + 1)) : X - n * l < n := by rw [Nat.mul_add] at h2; omega
theorem digs_mul_len (m n : Nat) : (digs (m * n)).length ≤ (digs m).length + (digs n).length := by
  apply digs_len_of_lt
  rw [Nat.pow_add]
  have h1 := digs_hi m
  have h2 := digs_hi n
  rcases Nat.eq_zero_or_pos n with e | e
  · subst e; rw [Nat.mul_zero]; exact Nat.mul_pos (by omega) (by omega)
  · exact Nat.lt_of_lt_of_le (Nat.mul_lt_mul_of_pos_right h1 e) (Nat.mul_le_mul_left _ (Nat.le_of_lt h2))
theorem dgn_val (k n : Nat) (h : n < 1000000000 ^ k) : val (dgn k n) = n := by rw [val_dgn, Nat.mod_eq_of_lt h]
theorem val_quo (m n : Nat) : val (dgn (digs m).length (m / n)) = m / n := dgn_val _ _ (Nat.lt_of_le_of_lt (Nat.div_le_self m n) (digs_hi m))
end Go.Mth

set_option linter.unusedVariables false
set_option linter.unusedSimpArgs false
namespace Go.Mth
open Go.Ab
abbrev qN (x y : Int) : Nat := val (dgn (digs x.natAbs).length (x.natAbs / y.natAbs))
abbrev rN (x y : Int) : Nat := val (digs (x.natAbs % y.natAbs))
theorem qN_eq (x y : Int) : qN x y = x.natAbs / y.natAbs := val_quo _ _
theorem rN_eq (x y : Int) : rN x y = x.natAbs % y.natAbs := val_digs _
theorem len_qN (b : Bool) (x y : Int) : (digs (sg b (qN x y)).natAbs).length ≤ (digs x.natAbs).length := by
  rw [sg_abs, qN_eq]; exact digs_len_le (Nat.div_le_self _ _)
theorem len_rN (b : Bool) (x y : Int) : (digs (sg b (rN x y)).natAbs).length ≤ (digs x.natAbs).length := by
  rw [sg_abs, rN_eq]; exact digs_len_le (Nat.mod_le _ _)
theorem div1 {x y : Int} (hx : ¬ x < 0) (hy : 0 < y) : x / y = sg false (qN x y) ∧ x % y = sg false (rN x y) := by
  have h := part1 (d := y.natAbs) hx (by omega) (qN_eq x y) (rN_eq x y)
  rw [show ((y.natAbs : Nat) : Int) = y by omega] at h
  exact ⟨h.1, h.2⟩
theorem sgn_neg {z : Int} : sgn z < 0 ↔ z < 0 := by unfold sgn; repeat' split <;> omega
theorem sgn_le {z : Int} : sgn z ≤ 0 ↔ z ≤ 0 := by unfold sgn; repeat' split <;> omega
theorem div2 {x y : Int} (hx : x < 0) (hy : 0 < y) (h : sgn (sg true (rN x y)) < 0) : x / y = sg true (qN x y) - 1 ∧ x % y = sg true (rN x y) + y := by
  have h0 := (sg_neg true _).1 (sgn_neg.1 h)
  have h := part3 (d := y.natAbs) hx (by omega) (qN_eq x y) (rN_eq x y) (by omega)
  rw [show ((y.natAbs : Nat) : Int) = y by omega] at h
  simp only [sg, if_true]
  exact ⟨h.1, by rw [h.2]; omega⟩
theorem div3 {x y : Int} (hx : x < 0) (hy : 0 < y) (h : ¬ sgn (sg true (rN x y)) < 0) : x / y = sg true (qN x y) ∧ x % y = sg true (rN x y) := by
  have h0 : rN x y = 0 := by
    rcases Nat.eq_zero_or_pos (rN x y) with e | e
    · exact e
    · exact absurd (sgn_neg.2 ((sg_neg true _).2 ⟨rfl, e⟩)) h
  have h := part2 (d := y.natAbs) hx (by omega) (qN_eq x y) (rN_eq x y) h0
  rw [show ((y.natAbs : Nat) : Int) = y by omega] at h
  simp only [sg, if_true]
  exact ⟨h.1, by rw [h.2, h0]; rfl⟩
end Go.Mth

set_option linter.unusedVariables false
set_option linter.unusedSimpArgs false
namespace Go.Mth
open Go.Ab
theorem decs_hi (n : Nat) : n < 10 ^ (decs n).length := by
  induction n using Nat.strongRecOn with
  | _ n ih =>
    by_cases h : n = 0
    · subst h; rw [decs_zero]; decide
    · rw [decs_pos (by omega), List.length_cons, Nat.pow_succ]
      have := ih (n / 10) (by omega)
      omega
theorem ndig_mono {m n : Nat} (h : m ≤ n) : ndig m ≤ ndig n := by
  unfold ndig
  split
  · split
    · exact Nat.le_refl _
    · exact decs_ne (by omega)
  · rw [if_neg (by omega)]
    exact decs_len_lt (Nat.lt_of_le_of_lt h (decs_hi n))
theorem fit_le {x y : Int} (h : x.natAbs ≤ y.natAbs) (hy : Fit y) : Fit x := Nat.le_trans (ndig_mono h) hy
noncomputable def divQ (a b : ByteArray) : ByteArray := if okS a = true ∧ okS b = true ∧ 0 < numS b then txt (numS a / numS b) else { data := #[] }
noncomputable def divR (a b : ByteArray) : ByteArray := if okS a = true ∧ okS b = true ∧ 0 < numS b then txt (numS a % numS b) else { data := #[] }
noncomputable def divE (a b : ByteArray) : Nat := if okS a = true ∧ okS b = true then (if 0 < numS b then 0 else 2) else 1
def powIn (n : Int) : Prop := 0 ≤ n ∧ n ≤ 10000
instance (n : Int) : Decidable (powIn n) := inferInstanceAs (Decidable (0 ≤ n ∧ n ≤ 10000))
noncomputable def powS (a : ByteArray) (n : Int) : ByteArray := if okS a = true ∧ powIn n then toldS (numS a ^ n.toNat) else { data := #[] }
noncomputable def powE (a : ByteArray) (n : Int) : Nat := if okS a = true then (if powIn n then toldE (numS a ^ n.toNat) else 2) else 1
def rstIn (d : Int) : Prop := 1 ≤ d ∧ d ≤ 2147483647
instance (d : Int) : Decidable (rstIn d) := inferInstanceAs (Decidable (1 ≤ d ∧ d ≤ 2147483647))
noncomputable def rstV (a : ByteArray) (d : Int) : Int := if okS a = true ∧ rstIn d then numS a % d else 0
noncomputable def rstE (a : ByteArray) (d : Int) : Nat := if okS a = true then (if rstIn d then 0 else 2) else 1
theorem pow_yes {a : ByteArray} {n : Int} (h : okS a = true) (hn : powIn n) : powS a n = toldS (numS a ^ n.toNat) ∧ powE a n = toldE (numS a ^ n.toNat) := ⟨if_pos ⟨h, hn⟩, by unfold powE; rw [if_pos h, if_pos hn]⟩
theorem told_fit {z : Int} (h : Fit z) : toldS z = txt z ∧ toldE z = 0 := ⟨if_pos h, if_pos h⟩
theorem txt_one : txt 1 = ⟨#[49]⟩ := by
  simp [txt, txtL, decs, strN]
  rfl
theorem pow_zero {a : ByteArray} (h : okS a = true) : powS a 0 = { data := #[49] } ∧ powE a 0 = 0 := by
  have := pow_yes h (n := 0) ⟨by decide, by decide⟩
  rw [this.1, this.2]
  show toldS (numS a ^ 0) = _ ∧ toldE (numS a ^ 0) = _
  rw [Int.pow_zero]
  have hf : Fit 1 := fit_of_pow (k := 1) (by decide) (by decide) (by decide)
  exact ⟨(told_fit hf).1.trans txt_one, (told_fit hf).2⟩
end Go.Mth

set_option linter.unusedVariables false
set_option linter.unusedSimpArgs false
namespace Go.Mth
open Go.Ab
noncomputable def sumS (a b : ByteArray) : ByteArray := if okS a && okS b then toldS (numS a + numS b) else { data := #[] }
noncomputable def proS (a b : ByteArray) : ByteArray := if okS a && okS b then toldS (numS a * numS b) else { data := #[] }
def alikeS (a b : ByteArray) : Prop := a = { data := #[] } ∨ b = { data := #[] } ∨ a = b
noncomputable instance (a b : ByteArray) : Decidable (alikeS a b) := Classical.propDecidable _
def divsS (d n : ByteArray) : Prop := divE n d = 0 ∧ divR n d = ⟨#[48]⟩
noncomputable instance (d n : ByteArray) : Decidable (divsS d n) := Classical.propDecidable _
end Go.Mth

set_option linter.unusedVariables false
set_option linter.unusedSimpArgs false
namespace Go.Mth
open Go.Ab
variable {a b c : ByteArray}
noncomputable abbrev gG (a b : ByteArray) : ByteArray := if okS a && okS b then toldS ((Int.gcd (numS a) (numS b) : Nat) : Int) else { data := #[] }
end Go.Mth

