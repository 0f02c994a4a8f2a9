/- What the proof of a row of this seat leans on (part 4 of 5): a library of abstract values, walks of functions, and plain laws. -/
import Derived.Test.YtbilndahjkimkaaDoorPkWordAppliesc
set_option linter.unusedVariables false
set_option linter.unusedSimpArgs false
namespace Go.Proofs.YtbilndahjkimkaaDoor
open Go Go.Ab Go.Mth
theorem We_tT9 : cx.P.underlying 9 = some .string := by kernel_rfl
theorem We_tO36 : tyZero cx.P 36 = some [(Go.Value.bool false), (Go.Value.slice none 0 0)] := by kernel_rfl
theorem We_tI5 : tyInt cx.P 5 = some .u8 := by kernel_rfl
theorem We_tI3 : tyInt cx.P 3 = some .i64 := by kernel_rfl
theorem We_tE22 : tyElem cx.P 22 = some (3, 1, 8) := by kernel_rfl
theorem We_tO3 : tyZero cx.P 3 = some [(Go.Value.int IntKind.i64 0)] := by kernel_rfl
theorem We_tC54 : callable cx.P 54 = true := by kernel_rfl
theorem We_tZ36 : tySize cx.P 36 = some 2 := by kernel_rfl
theorem We_tA36 : tyAgg cx.P 36 = some 2 := by kernel_rfl
theorem c_rValid (a : ByteArray) (hsz : a.size ≤ 9223372036854775807) : ECalls cx 15 [(AV.lit (.string (a)))] (.lit (.bool (okS a))) := by
  refine ecalls_of_awp Tryd.func15 (c := _) rfl (Nat.le_of_ble_eq_true rfl) ?_
  show awp cx 51 _ (postF cx Tryd.f15 _) ⟨[(0, (AV.lit (.string (a))))], []⟩
  refine awp_seq fun K0 hK0 => ?_
  refine awp_region rfl ?_
  refine o_assign (AV.lit (.bool false)) Gd.none rfl ?_
  refine aops_end ?_
  refine hK0 _ ?_
  refine awp_seq fun K1 hK1 => ?_
  refine awp_region rfl ?_
  refine o_move (AV.lit (.string (a))) Gd.none rfl ?_
  refine n_lenS (a) Gd.none rfl We_tT9 ?_
  refine o_assign (nm .i64 ((a).size)) Gd.none rfl ?_
  refine aops_end ?_
  refine hK1 _ ?_
  refine awp_seq fun K2 hK2 => ?_
  refine awp_region rfl ?_
  refine o_assign (nm .i64 (0)) Gd.none rfl ?_
  refine aops_end ?_
  refine hK2 _ ?_
  refine awp_seqJ (J := fun σ => True ∧ σ = ⟨[(0, (AV.lit (.string (a)))), (3, (nm .i64 (a.size - sgnAt a))), (4, (nm .i64 (sgnAt a)))], []⟩) ?ja0 ?jb0
  case ja0 =>
    refine awp_seq fun K3 hK3 => ?_
    refine awp_region rfl ?_
    refine o_move (AV.lit (.string (a))) Gd.none rfl ?_
    refine o_neqS (a := (a)) (c := (({data := #[]} : ByteArray))) Gd.none rfl rfl ?_
    refine o_move (bp ((a).toList ≠ (({data := #[]} : ByteArray)).toList)) Gd.none rfl ?_
    refine o_splitP (q := (a).toList ≠ (({data := #[]} : ByteArray)).toList) 10 rfl (fun h1 => ?_) (fun h1 => ?_)
    · refine o_move (AV.lit (.string (a))) (Gd.yes rfl rfl (decide_eq_true h1)) rfl ?_
      refine n_indexS (a) (0) (Gd.yes rfl rfl (decide_eq_true h1)) We_tT9 rfl rfl (by have := mt str_nil.2 h1; omega) ?_
      refine n_eql (byt (a) (0)) (45) (Gd.yes rfl rfl (decide_eq_true h1)) rfl rfl ?_
      refine o_pickT (b := decide ((a).toList ≠ (({data := #[]} : ByteArray)).toList)) (bp ((byt (a) (0)) = (45))) Gd.none rfl (decide_eq_true h1) rfl ?_
      refine aops_end ?_
      refine hK3 _ ?_
      refine awp_condQ (q := (byt (a) (0)) = (45)) rfl (fun h2 => ?_) (fun h2 => ?_)
      · refine awp_seq fun K4 hK4 => ?_
        refine awp_region rfl ?_
        refine o_move (nm .i64 ((a).size)) Gd.none rfl ?_
        refine n_sub ((a).size) (1) Gd.none rfl rfl (by have := mt str_nil.2 h1; omega) (by simp only [topOf]; omega) ?_
        refine o_assign (nm .i64 (((a).size) - (1))) Gd.none rfl ?_
        refine aops_end ?_
        refine hK4 _ ?_
        refine awp_region rfl ?_
        refine o_assign (nm .i64 (1)) Gd.none rfl ?_
        refine aops_end ?_
        have hs : sgnAt a = 1 := if_pos h2
        have hne := mt str_nil.2 h1
        exact ⟨_, ⟨trivial, rfl⟩, Wk.sub (And.intro (by exact rfl) (And.intro (by first | rfl | exact congrArg (nm _) (by omega) | exact nm_int (by omega) | exact nm_int (by simp [IntKind.wrap, IntKind.bits, IntKind.signed]; omega)) (And.intro (by first | rfl | exact congrArg (nm _) (by omega) | exact nm_int (by omega) | exact nm_int (by simp [IntKind.wrap, IntKind.bits, IntKind.signed]; omega)) (trivial)))) (trivial)⟩
      · refine awp_skip ?_
        have hs : sgnAt a = 0 := if_neg h2
        exact ⟨_, ⟨trivial, rfl⟩, Wk.sub (And.intro (by exact rfl) (And.intro (by first | rfl | exact congrArg (nm _) (by omega) | exact nm_int (by omega) | exact nm_int (by simp [IntKind.wrap, IntKind.bits, IntKind.signed]; omega)) (And.intro (by first | rfl | exact congrArg (nm _) (by omega) | exact nm_int (by omega) | exact nm_int (by simp [IntKind.wrap, IntKind.bits, IntKind.signed]; omega)) (trivial)))) (trivial)⟩
    · refine o_skip (b := decide ((a).toList ≠ (({data := #[]} : ByteArray)).toList)) rfl rfl (decide_eq_false h1) ?_
      refine o_skip (b := decide ((a).toList ≠ (({data := #[]} : ByteArray)).toList)) rfl rfl (decide_eq_false h1) ?_
      refine o_skip (b := decide ((a).toList ≠ (({data := #[]} : ByteArray)).toList)) rfl rfl (decide_eq_false h1) ?_
      refine o_pickF (b := decide ((a).toList ≠ (({data := #[]} : ByteArray)).toList)) (AV.lit (.bool false)) Gd.none rfl (decide_eq_false h1) rfl ?_
      refine aops_end ?_
      refine hK3 _ ?_
      refine awp_condB (b := false) rfl (fun hh => absurd (hh.symm.trans rfl) (by decide)) (fun _ => ?_)
      refine awp_skip ?_
      have hs : sgnAt a = 0 := if_neg (by rw [byt_nil (str_nil.1 (Decidable.not_not.1 h1))]; decide)
      exact ⟨_, ⟨trivial, rfl⟩, Wk.sub (And.intro (by exact rfl) (And.intro (by first | rfl | exact congrArg (nm _) (by omega) | exact nm_int (by omega) | exact nm_int (by simp [IntKind.wrap, IntKind.bits, IntKind.signed]; omega)) (And.intro (by first | rfl | exact congrArg (nm _) (by omega) | exact nm_int (by omega) | exact nm_int (by simp [IntKind.wrap, IntKind.bits, IntKind.signed]; omega)) (trivial)))) (trivial)⟩
  rintro _ ⟨-, rfl⟩
  have hs1 : sgnAt a ≤ 1 := by unfold sgnAt; split <;> omega
  refine awp_seq fun K5 hK5 => ?_
  refine awp_seq fun K6 hK6 => ?_
  refine awp_region rfl ?_
  refine o_move (nm .i64 (a.size - sgnAt a)) Gd.none rfl ?_
  refine n_lss (a.size - sgnAt a) (1) Gd.none rfl rfl ?_
  refine o_move (bp ((a.size - sgnAt a) < (1))) Gd.none rfl ?_
  refine o_splitP (q := (a.size - sgnAt a) < (1)) 19 rfl (fun h3 => ?_) (fun h3 => ?_)
  · refine o_skip (b := decide ((a.size - sgnAt a) < (1))) rfl rfl (decide_eq_true h3) ?_
    refine o_skip (b := decide ((a.size - sgnAt a) < (1))) rfl rfl (decide_eq_true h3) ?_
    refine o_pickT (b := decide ((a.size - sgnAt a) < (1))) (AV.lit (.bool true)) Gd.none rfl (decide_eq_true h3) rfl ?_
    refine o_move (AV.lit (.bool true)) Gd.none rfl ?_
    refine o_skip (b := true) rfl rfl rfl ?_
    refine o_skip (b := true) rfl rfl rfl ?_
    refine o_skip (b := true) rfl rfl rfl ?_
    refine o_skip (b := true) rfl rfl rfl ?_
    refine o_skip (b := true) rfl rfl rfl ?_
    refine o_skipU rfl rfl ?_
    refine o_skipU rfl rfl ?_
    refine o_skipU rfl rfl ?_
    refine o_skip (b := true) rfl rfl rfl ?_
    refine o_pickT (b := true) (AV.lit (.bool true)) Gd.none rfl rfl rfl ?_
    refine aops_end ?_
    refine hK6 _ ?_
    refine awp_condB (b := true) rfl (fun _ => ?_) (fun hh => absurd (hh.symm.trans rfl) (by decide))
    refine awp_seq fun K7 hK7 => ?_
    refine awp_region rfl ?_
    refine o_assign (AV.lit (.bool false)) Gd.none rfl ?_
    refine aops_end ?_
    refine hK7 _ ?_
    refine awp_ret ?_
    refine post_ret ⟨[(AV.lit (.bool false))], And.intro (AV.le_refl _) (trivial), rfl, ?_⟩
    refine bl_eq (okS_no fun h => ?_)
    obtain ⟨o1, o2, o3, o4⟩ := h
    first | omega | (have := o4 i (by omega) (by omega); omega)
  · refine o_move (nm .i64 (a.size - sgnAt a)) (Gd.yes rfl rfl (decide_eq_false h3)) rfl ?_
    refine n_gtr (a.size - sgnAt a) (2000) (Gd.yes rfl rfl (decide_eq_false h3)) rfl rfl ?_
    refine o_pickF (b := decide ((a.size - sgnAt a) < (1))) (bp ((2000) < (a.size - sgnAt a))) Gd.none rfl (decide_eq_false h3) rfl ?_
    refine o_move (bp ((2000) < (a.size - sgnAt a))) Gd.none rfl ?_
    refine o_splitP (q := (2000) < (a.size - sgnAt a)) 23 rfl (fun h4 => ?_) (fun h4 => ?_)
    · refine o_skip (b := decide ((2000) < (a.size - sgnAt a))) rfl rfl (decide_eq_true h4) ?_
      refine o_skip (b := decide ((2000) < (a.size - sgnAt a))) rfl rfl (decide_eq_true h4) ?_
      refine o_skip (b := decide ((2000) < (a.size - sgnAt a))) rfl rfl (decide_eq_true h4) ?_
      refine o_skip (b := decide ((2000) < (a.size - sgnAt a))) rfl rfl (decide_eq_true h4) ?_
      refine o_skip (b := decide ((2000) < (a.size - sgnAt a))) rfl rfl (decide_eq_true h4) ?_
      refine o_skipU rfl rfl ?_
      refine o_skipU rfl rfl ?_
      refine o_skipU rfl rfl ?_
      refine o_skip (b := decide ((2000) < (a.size - sgnAt a))) rfl rfl (decide_eq_true h4) ?_
      refine o_pickT (b := decide ((2000) < (a.size - sgnAt a))) (AV.lit (.bool true)) Gd.none rfl (decide_eq_true h4) rfl ?_
      refine aops_end ?_
      refine hK6 _ ?_
      refine awp_condB (b := true) rfl (fun _ => ?_) (fun hh => absurd (hh.symm.trans rfl) (by decide))
      refine awp_seq fun K8 hK8 => ?_
      refine awp_region rfl ?_
      refine o_assign (AV.lit (.bool false)) Gd.none rfl ?_
      refine aops_end ?_
      refine hK8 _ ?_
      refine awp_ret ?_
      refine post_ret ⟨[(AV.lit (.bool false))], And.intro (AV.le_refl _) (trivial), rfl, ?_⟩
      refine bl_eq (okS_no fun h => ?_)
      obtain ⟨o1, o2, o3, o4⟩ := h
      first | omega | (have := o4 i (by omega) (by omega); omega)
    · refine o_move (AV.lit (.string (a))) (Gd.yes rfl rfl (decide_eq_false h4)) rfl ?_
      refine o_move (nm .i64 (sgnAt a)) (Gd.yes rfl rfl (decide_eq_false h4)) rfl ?_
      refine n_indexS (a) (sgnAt a) (Gd.yes rfl rfl (decide_eq_false h4)) We_tT9 rfl rfl (by omega) ?_
      refine n_eql (byt (a) (sgnAt a)) (48) (Gd.yes rfl rfl (decide_eq_false h4)) rfl rfl ?_
      refine o_move (bp ((byt (a) (sgnAt a)) = (48))) (Gd.yes rfl rfl (decide_eq_false h4)) rfl ?_
      refine o_splitP (q := (byt (a) (sgnAt a)) = (48)) 28 rfl (fun h5 => ?_) (fun h5 => ?_)
      · refine o_move (AV.lit (.string (a))) (Gd.yes rfl rfl (decide_eq_true h5)) rfl ?_
        refine n_lenS (a) (Gd.yes rfl rfl (decide_eq_true h5)) rfl We_tT9 ?_
        refine n_gtr ((a).size) (1) (Gd.yes rfl rfl (decide_eq_true h5)) rfl rfl ?_
        refine o_pickT (b := decide ((byt (a) (sgnAt a)) = (48))) (bp ((1) < ((a).size))) (Gd.yes rfl rfl (decide_eq_false h4)) rfl (decide_eq_true h5) rfl ?_
        refine o_pickF (b := decide ((2000) < (a.size - sgnAt a))) (bp ((1) < ((a).size))) Gd.none rfl (decide_eq_false h4) rfl ?_
        refine aops_end ?_
        refine hK6 _ ?_
        refine awp_condQ (q := (1) < ((a).size)) rfl (fun h6 => ?_) (fun h6 => ?_)
        · refine awp_seq fun K9 hK9 => ?_
          refine awp_region rfl ?_
          refine o_assign (AV.lit (.bool false)) Gd.none rfl ?_
          refine aops_end ?_
          refine hK9 _ ?_
          refine awp_ret ?_
          refine post_ret ⟨[(AV.lit (.bool false))], And.intro (AV.le_refl _) (trivial), rfl, ?_⟩
          refine bl_eq (okS_no fun h => ?_)
          obtain ⟨o1, o2, o3, o4⟩ := h
          first | omega | (have := o4 i (by omega) (by omega); omega)
        · refine awp_skip ?_
          refine hK5 _ ?_
          refine awp_seq fun K10 hK10 => ?_
          refine awp_seq fun K11 hK11 => ?_
          refine awp_region rfl ?_
          refine o_move (nm .i64 (sgnAt a)) Gd.none rfl ?_
          refine o_assign (nm .i64 (sgnAt a)) Gd.none rfl ?_
          refine aops_end ?_
          refine hK11 _ ?_
          refine awp_block ?_
          refine awp_loopR (fun κ σ => ∃ (i : Nat), (sgnAt a ≤ i) ∧ (i ≤ a.size) ∧ (∀ k, sgnAt a ≤ k → k < i → 48 ≤ byt a k ∧ byt a k ≤ 57) ∧ (a.size - i) = κ ∧ σ = ⟨[(0, (AV.lit (.string (a)))), (5, (nm .i64 (i)))], []⟩) ⟨_, _, ⟨sgnAt a, (by omega), (by omega), (fun k h1 h2 => by omega), rfl, rfl⟩, ?wk1⟩ ?rd1
          case wk1 =>
            exact Wk.sub (And.intro (by exact rfl) (And.intro (by first | rfl | exact congrArg (nm _) (by omega) | exact nm_int (by omega) | exact nm_int (by simp [IntKind.wrap, IntKind.bits, IntKind.signed]; omega)) (trivial))) (trivial)
          rintro κ _ ⟨i, hi, hi2, hv, rfl, rfl⟩
          refine awp_seq fun K12 hK12 => ?_
          refine awp_seq fun K13 hK13 => ?_
          refine awp_region rfl ?_
          refine o_move (nm .i64 (i)) Gd.none rfl ?_
          refine o_move (AV.lit (.string (a))) Gd.none rfl ?_
          refine n_lenS (a) Gd.none rfl We_tT9 ?_
          refine n_lss (i) ((a).size) Gd.none rfl rfl ?_
          refine aops_end ?_
          refine hK13 _ ?_
          refine awp_condQ (q := (i) < ((a).size)) rfl (fun h7 => ?_) (fun h7 => ?_)
          · refine awp_skip ?_
            refine hK12 _ ?_
            refine awp_seq fun K14 hK14 => ?_
            refine awp_block ?_
            refine awp_seq fun K15 hK15 => ?_
            refine awp_region rfl ?_
            refine o_move (AV.lit (.string (a))) Gd.none rfl ?_
            refine o_move (nm .i64 (i)) Gd.none rfl ?_
            refine n_indexS (a) (i) Gd.none We_tT9 rfl rfl (by omega) ?_
            refine n_lss (byt (a) (i)) (48) Gd.none rfl rfl ?_
            refine o_move (bp ((byt (a) (i)) < (48))) Gd.none rfl ?_
            refine o_splitP (q := (byt (a) (i)) < (48)) 45 rfl (fun h8 => ?_) (fun h8 => ?_)
            · refine o_skip (b := decide ((byt (a) (i)) < (48))) rfl rfl (decide_eq_true h8) ?_
              refine o_skip (b := decide ((byt (a) (i)) < (48))) rfl rfl (decide_eq_true h8) ?_
              refine o_skip (b := decide ((byt (a) (i)) < (48))) rfl rfl (decide_eq_true h8) ?_
              refine o_skip (b := decide ((byt (a) (i)) < (48))) rfl rfl (decide_eq_true h8) ?_
              refine o_pickT (b := decide ((byt (a) (i)) < (48))) (AV.lit (.bool true)) Gd.none rfl (decide_eq_true h8) rfl ?_
              refine aops_end ?_
              refine hK15 _ ?_
              refine awp_condB (b := true) rfl (fun _ => ?_) (fun hh => absurd (hh.symm.trans rfl) (by decide))
              refine awp_seq fun K16 hK16 => ?_
              refine awp_region rfl ?_
              refine o_assign (AV.lit (.bool false)) Gd.none rfl ?_
              refine aops_end ?_
              refine hK16 _ ?_
              refine awp_ret ?_
              refine post_ret ⟨[(AV.lit (.bool false))], And.intro (AV.le_refl _) (trivial), rfl, ?_⟩
              refine bl_eq (okS_no fun h => ?_)
              obtain ⟨o1, o2, o3, o4⟩ := h
              first | omega | (have := o4 i (by omega) (by omega); omega)
            · refine o_move (AV.lit (.string (a))) (Gd.yes rfl rfl (decide_eq_false h8)) rfl ?_
              refine o_move (nm .i64 (i)) (Gd.yes rfl rfl (decide_eq_false h8)) rfl ?_
              refine n_indexS (a) (i) (Gd.yes rfl rfl (decide_eq_false h8)) We_tT9 rfl rfl (by omega) ?_
              refine n_gtr (byt (a) (i)) (57) (Gd.yes rfl rfl (decide_eq_false h8)) rfl rfl ?_
              refine o_pickF (b := decide ((byt (a) (i)) < (48))) (bp ((57) < (byt (a) (i)))) Gd.none rfl (decide_eq_false h8) rfl ?_
              refine aops_end ?_
              refine hK15 _ ?_
              refine awp_condQ (q := (57) < (byt (a) (i))) rfl (fun h9 => ?_) (fun h9 => ?_)
              · refine awp_seq fun K17 hK17 => ?_
                refine awp_region rfl ?_
                refine o_assign (AV.lit (.bool false)) Gd.none rfl ?_
                refine aops_end ?_
                refine hK17 _ ?_
                refine awp_ret ?_
                refine post_ret ⟨[(AV.lit (.bool false))], And.intro (AV.le_refl _) (trivial), rfl, ?_⟩
                refine bl_eq (okS_no fun h => ?_)
                obtain ⟨o1, o2, o3, o4⟩ := h
                first | omega | (have := o4 i (by omega) (by omega); omega)
              · refine awp_skip ?_
                refine hK14 _ ?_
                refine awp_region rfl ?_
                refine o_move (nm .i64 (i)) Gd.none rfl ?_
                refine n_add (i) (1) Gd.none rfl rfl (by simp only [topOf]; omega) ?_
                refine o_assign (nm .i64 ((i) + (1))) Gd.none rfl ?_
                refine aops_end ?_
                refine ⟨_, _, ?lt, ⟨i + 1, (by omega), (by omega), (fun k hk1 hk2 => by by_cases e : k = i; subst e; omega; exact hv k hk1 (by omega)), rfl, rfl⟩, ?wk⟩
                case lt => omega
                case wk => exact Wk.sub (And.intro (by exact rfl) (And.intro (by first | rfl | exact congrArg (nm _) (by omega) | exact nm_int (by omega) | exact nm_int (by simp [IntKind.wrap, IntKind.bits, IntKind.signed]; omega)) (trivial))) (trivial)
          · refine awp_exit ?_
            refine hK10 _ ?_
            refine awp_seq fun K18 hK18 => ?_
            refine awp_region rfl ?_
            refine o_assign (AV.lit (.bool true)) Gd.none rfl ?_
            refine aops_end ?_
            refine hK18 _ ?_
            refine awp_ret ?_
            refine post_ret ⟨[(AV.lit (.bool true))], And.intro (AV.le_refl _) (trivial), rfl, ?_⟩
            refine bl_eq (okS_yes ⟨by omega, by omega, by omega, fun k hk1 hk2 => hv k hk1 (by omega)⟩)
      · refine o_skip (b := decide ((byt (a) (sgnAt a)) = (48))) rfl rfl (decide_eq_false h5) ?_
        refine o_skip (b := decide ((byt (a) (sgnAt a)) = (48))) rfl rfl (decide_eq_false h5) ?_
        refine o_skip (b := decide ((byt (a) (sgnAt a)) = (48))) rfl rfl (decide_eq_false h5) ?_
        refine o_pickF (b := decide ((byt (a) (sgnAt a)) = (48))) (AV.lit (.bool false)) (Gd.yes rfl rfl (decide_eq_false h4)) rfl (decide_eq_false h5) rfl ?_
        refine o_pickF (b := decide ((2000) < (a.size - sgnAt a))) (AV.lit (.bool false)) Gd.none rfl (decide_eq_false h4) rfl ?_
        refine aops_end ?_
        refine hK6 _ ?_
        refine awp_condB (b := false) rfl (fun hh => absurd (hh.symm.trans rfl) (by decide)) (fun _ => ?_)
        refine awp_skip ?_
        refine hK5 _ ?_
        refine awp_seq fun K19 hK19 => ?_
        refine awp_seq fun K20 hK20 => ?_
        refine awp_region rfl ?_
        refine o_move (nm .i64 (sgnAt a)) Gd.none rfl ?_
        refine o_assign (nm .i64 (sgnAt a)) Gd.none rfl ?_
        refine aops_end ?_
        refine hK20 _ ?_
        refine awp_block ?_
        refine awp_loopR (fun κ σ => ∃ (i : Nat), (sgnAt a ≤ i) ∧ (i ≤ a.size) ∧ (∀ k, sgnAt a ≤ k → k < i → 48 ≤ byt a k ∧ byt a k ≤ 57) ∧ (a.size - i) = κ ∧ σ = ⟨[(0, (AV.lit (.string (a)))), (5, (nm .i64 (i)))], []⟩) ⟨_, _, ⟨sgnAt a, (by omega), (by omega), (fun k h1 h2 => by omega), rfl, rfl⟩, ?wk2⟩ ?rd2
        case wk2 =>
          exact Wk.sub (And.intro (by exact rfl) (And.intro (by first | rfl | exact congrArg (nm _) (by omega) | exact nm_int (by omega) | exact nm_int (by simp [IntKind.wrap, IntKind.bits, IntKind.signed]; omega)) (trivial))) (trivial)
        rintro κ _ ⟨i, hi, hi2, hv, rfl, rfl⟩
        refine awp_seq fun K21 hK21 => ?_
        refine awp_seq fun K22 hK22 => ?_
        refine awp_region rfl ?_
        refine o_move (nm .i64 (i)) Gd.none rfl ?_
        refine o_move (AV.lit (.string (a))) Gd.none rfl ?_
        refine n_lenS (a) Gd.none rfl We_tT9 ?_
        refine n_lss (i) ((a).size) Gd.none rfl rfl ?_
        refine aops_end ?_
        refine hK22 _ ?_
        refine awp_condQ (q := (i) < ((a).size)) rfl (fun h10 => ?_) (fun h10 => ?_)
        · refine awp_skip ?_
          refine hK21 _ ?_
          refine awp_seq fun K23 hK23 => ?_
          refine awp_block ?_
          refine awp_seq fun K24 hK24 => ?_
          refine awp_region rfl ?_
          refine o_move (AV.lit (.string (a))) Gd.none rfl ?_
          refine o_move (nm .i64 (i)) Gd.none rfl ?_
          refine n_indexS (a) (i) Gd.none We_tT9 rfl rfl (by omega) ?_
          refine n_lss (byt (a) (i)) (48) Gd.none rfl rfl ?_
          refine o_move (bp ((byt (a) (i)) < (48))) Gd.none rfl ?_
          refine o_splitP (q := (byt (a) (i)) < (48)) 45 rfl (fun h11 => ?_) (fun h11 => ?_)
          · refine o_skip (b := decide ((byt (a) (i)) < (48))) rfl rfl (decide_eq_true h11) ?_
            refine o_skip (b := decide ((byt (a) (i)) < (48))) rfl rfl (decide_eq_true h11) ?_
            refine o_skip (b := decide ((byt (a) (i)) < (48))) rfl rfl (decide_eq_true h11) ?_
            refine o_skip (b := decide ((byt (a) (i)) < (48))) rfl rfl (decide_eq_true h11) ?_
            refine o_pickT (b := decide ((byt (a) (i)) < (48))) (AV.lit (.bool true)) Gd.none rfl (decide_eq_true h11) rfl ?_
            refine aops_end ?_
            refine hK24 _ ?_
            refine awp_condB (b := true) rfl (fun _ => ?_) (fun hh => absurd (hh.symm.trans rfl) (by decide))
            refine awp_seq fun K25 hK25 => ?_
            refine awp_region rfl ?_
            refine o_assign (AV.lit (.bool false)) Gd.none rfl ?_
            refine aops_end ?_
            refine hK25 _ ?_
            refine awp_ret ?_
            refine post_ret ⟨[(AV.lit (.bool false))], And.intro (AV.le_refl _) (trivial), rfl, ?_⟩
            refine bl_eq (okS_no fun h => ?_)
            obtain ⟨o1, o2, o3, o4⟩ := h
            first | omega | (have := o4 i (by omega) (by omega); omega)
          · refine o_move (AV.lit (.string (a))) (Gd.yes rfl rfl (decide_eq_false h11)) rfl ?_
            refine o_move (nm .i64 (i)) (Gd.yes rfl rfl (decide_eq_false h11)) rfl ?_
            refine n_indexS (a) (i) (Gd.yes rfl rfl (decide_eq_false h11)) We_tT9 rfl rfl (by omega) ?_
            refine n_gtr (byt (a) (i)) (57) (Gd.yes rfl rfl (decide_eq_false h11)) rfl rfl ?_
            refine o_pickF (b := decide ((byt (a) (i)) < (48))) (bp ((57) < (byt (a) (i)))) Gd.none rfl (decide_eq_false h11) rfl ?_
            refine aops_end ?_
            refine hK24 _ ?_
            refine awp_condQ (q := (57) < (byt (a) (i))) rfl (fun h12 => ?_) (fun h12 => ?_)
            · refine awp_seq fun K26 hK26 => ?_
              refine awp_region rfl ?_
              refine o_assign (AV.lit (.bool false)) Gd.none rfl ?_
              refine aops_end ?_
              refine hK26 _ ?_
              refine awp_ret ?_
              refine post_ret ⟨[(AV.lit (.bool false))], And.intro (AV.le_refl _) (trivial), rfl, ?_⟩
              refine bl_eq (okS_no fun h => ?_)
              obtain ⟨o1, o2, o3, o4⟩ := h
              first | omega | (have := o4 i (by omega) (by omega); omega)
            · refine awp_skip ?_
              refine hK23 _ ?_
              refine awp_region rfl ?_
              refine o_move (nm .i64 (i)) Gd.none rfl ?_
              refine n_add (i) (1) Gd.none rfl rfl (by simp only [topOf]; omega) ?_
              refine o_assign (nm .i64 ((i) + (1))) Gd.none rfl ?_
              refine aops_end ?_
              refine ⟨_, _, ?lt, ⟨i + 1, (by omega), (by omega), (fun k hk1 hk2 => by by_cases e : k = i; subst e; omega; exact hv k hk1 (by omega)), rfl, rfl⟩, ?wk⟩
              case lt => omega
              case wk => exact Wk.sub (And.intro (by exact rfl) (And.intro (by first | rfl | exact congrArg (nm _) (by omega) | exact nm_int (by omega) | exact nm_int (by simp [IntKind.wrap, IntKind.bits, IntKind.signed]; omega)) (trivial))) (trivial)
        · refine awp_exit ?_
          refine hK19 _ ?_
          refine awp_seq fun K27 hK27 => ?_
          refine awp_region rfl ?_
          refine o_assign (AV.lit (.bool true)) Gd.none rfl ?_
          refine aops_end ?_
          refine hK27 _ ?_
          refine awp_ret ?_
          refine post_ret ⟨[(AV.lit (.bool true))], And.intro (AV.le_refl _) (trivial), rfl, ?_⟩
          refine bl_eq (okS_yes ⟨by omega, by omega, by omega, fun k hk1 hk2 => hv k hk1 (by omega)⟩)

theorem c_rParse (a : ByteArray) (hok : OkS a) : ECalls cx 18 [(AV.lit (.string (a)))] (intR (numS a)) := by
  refine ecalls_of_awp Tryd.func18 (c := _) rfl (Nat.le_of_ble_eq_true rfl) ?_
  show awp cx 44 _ (postF cx Tryd.f18 _) ⟨[(0, (AV.lit (.string (a))))], []⟩
  obtain ⟨o1, o2, o3, o4⟩ := hok
  have hs1 : sgnAt a ≤ 1 := by unfold sgnAt; split <;> omega
  refine awp_seq fun K0 hK0 => ?_
  refine awp_region rfl ?_
  refine o_alloc 2 [(AV.lit (.bool false)), (AV.lit (.slice none 0 0))] Gd.none We_tO36 rfl rfl rfl ?_
  refine aops_end ?_
  refine hK0 _ ?_
  refine awp_seq fun K1 hK1 => ?_
  refine awp_region rfl ?_
  refine o_move (AV.lit (.string (a))) Gd.none rfl ?_
  refine n_indexS (a) (0) Gd.none We_tT9 rfl rfl (by omega) ?_
  refine n_eql (byt (a) (0)) (45) Gd.none rfl rfl ?_
  refine o_assign (bp ((byt (a) (0)) = (45))) Gd.none rfl ?_
  refine aops_end ?_
  refine hK1 _ ?_
  refine awp_seq fun K2 hK2 => ?_
  refine awp_region rfl ?_
  refine o_assign (nm .i64 (0)) Gd.none rfl ?_
  refine aops_end ?_
  refine hK2 _ ?_
  refine awp_seqJ (J := fun σ => True ∧ σ = ⟨[(0, (AV.lit (.string (a)))), (2, (AV.ref 2 (0))), (3, (bp (byt a 0 = 45))), (4, (nm .i64 (sgnAt a)))], [(2, (AO.var 36 [(AV.lit (.bool false)), (AV.lit (.slice none 0 0))]))]⟩) ?ja0 ?jb0
  case ja0 =>
    refine awp_seq fun K3 hK3 => ?_
    refine awp_region rfl ?_
    refine o_move (bp ((byt (a) (0)) = (45))) Gd.none rfl ?_
    refine aops_end ?_
    refine hK3 _ ?_
    refine awp_condQ (q := (byt (a) (0)) = (45)) rfl (fun h1 => ?_) (fun h1 => ?_)
    · refine awp_region rfl ?_
      refine o_assign (nm .i64 (1)) Gd.none rfl ?_
      refine aops_end ?_
      have hs : sgnAt a = 1 := if_pos h1
      exact ⟨_, ⟨trivial, rfl⟩, Wk.sub (And.intro (by exact rfl) (And.intro (by exact rfl) (And.intro (by first | rfl | exact bp_congr (by first | omega | simp) | exact bl_bp (by first | omega | simp)) (And.intro (by first | rfl | exact congrArg (nm _) (by omega) | exact nm_int (by omega) | exact nm_int (by simp [IntKind.wrap, IntKind.bits, IntKind.signed]; omega)) (trivial))))) (And.intro (by first | rfl | exact row_ns (by simp) | exact congrArg (fun x => some (AO.blk (.stringIter _ x))) (by omega)) (trivial))⟩
    · refine awp_skip ?_
      have hs : sgnAt a = 0 := if_neg h1
      exact ⟨_, ⟨trivial, rfl⟩, Wk.sub (And.intro (by exact rfl) (And.intro (by exact rfl) (And.intro (by first | rfl | exact bp_congr (by first | omega | simp) | exact bl_bp (by first | omega | simp)) (And.intro (by first | rfl | exact congrArg (nm _) (by omega) | exact nm_int (by omega) | exact nm_int (by simp [IntKind.wrap, IntKind.bits, IntKind.signed]; omega)) (trivial))))) (And.intro (by first | rfl | exact row_ns (by simp) | exact congrArg (fun x => some (AO.blk (.stringIter _ x))) (by omega)) (trivial))⟩
  rintro _ ⟨-, rfl⟩
  refine awp_seq fun K4 hK4 => ?_
  refine awp_region rfl ?_
  refine o_assign (AV.lit (.slice none 0 0)) Gd.none rfl ?_
  refine aops_end ?_
  refine hK4 _ ?_
  refine awp_seq fun K5 hK5 => ?_
  refine awp_seq fun K6 hK6 => ?_
  refine awp_region rfl ?_
  refine o_move (AV.lit (.string (a))) Gd.none rfl ?_
  refine n_lenS (a) Gd.none rfl We_tT9 ?_
  refine o_assign (nm .i64 ((a).size)) Gd.none rfl ?_
  refine aops_end ?_
  refine hK6 _ ?_
  refine awp_block ?_
  refine awp_loopR (fun κ σ => ∃ (E : Int), ∃ (L : List Nat), (E ≤ a.size) ∧ (Dig L) ∧ ((sgnAt a : Int) < E → L.length * 9 = a.size - E.toNat) ∧ (L.length ≤ 2000) ∧ (val L = dvk a (max (sgnAt a) E.toNat) (a.size - max (sgnAt a) E.toNat)) ∧ (E.toNat) = κ ∧ σ = ⟨[(0, (AV.lit (.string (a)))), (2, (AV.ref 2 (0))), (3, (bp (byt a 0 = 45))), (4, (nm .i64 (sgnAt a))), (5, (AV.row 3)), (6, (AV.lit (.int .i64 (E))))], [(2, (AO.var 36 [(AV.lit (.bool false)), (AV.lit (.slice none 0 0))])), (3, (AO.row 3 1 (ns .i64 (L))))]⟩) ⟨_, _, ⟨(a.size : Int), [], (by omega), Dig.nil, (by intro _; simp), (by simp), (by rw [show max (sgnAt a) (a.size : Int).toNat = a.size by omega]; simp [val, dvk]), rfl, rfl⟩, ?wk1⟩ ?rd1
  case wk1 =>
    exact Wk.trans (Wk.newNil (i := 5) (id := 601) (e := 3) (sz := 1) rfl rfl (by decide)) (Wk.trans (Wk.sub (σ' := ⟨[(0, (AV.lit (.string (a)))), (2, (AV.ref 2 (0))), (3, (bp (byt a 0 = 45))), (4, (nm .i64 (sgnAt a))), (5, (AV.row 601)), (6, (nm .i64 ((a).size)))], [(2, (AO.var 36 [(AV.lit (.bool false)), (AV.lit (.slice none 0 0))])), (601, (AO.row 3 1 (ns .i64 ([]))))]⟩) (And.intro rfl (And.intro rfl (And.intro rfl (And.intro rfl (And.intro rfl (And.intro rfl (trivial))))))) (And.intro rfl (And.intro rfl (trivial)))) (Wk.trans (Wk.ren (id := 601) (id' := 3) rfl) (Wk.sub (And.intro (by exact rfl) (And.intro (by exact rfl) (And.intro (by exact rfl) (And.intro (by exact rfl) (And.intro (by first | rfl | (simp)) (And.intro (by first | rfl | exact int_eq (by omega) | exact int_nm (by omega)) (trivial))))))) (And.intro (by first | rfl | exact row_ns (by simp) | exact congrArg (fun x => some (AO.blk (.stringIter _ x))) (by omega)) (And.intro (by first | rfl | exact row_ns (by simp) | exact congrArg (fun x => some (AO.blk (.stringIter _ x))) (by omega)) (trivial))))))
  rintro κ _ ⟨E, L, hE, hd, hl, hl2, hv, rfl, rfl⟩
  refine awp_seq fun K7 hK7 => ?_
  refine awp_seq fun K8 hK8 => ?_
  refine awp_region rfl ?_
  refine o_move (AV.lit (.int .i64 (E))) Gd.none rfl ?_
  refine o_move (nm .i64 (sgnAt a)) Gd.none rfl ?_
  refine o_gtr (a := (E)) (c := (((sgnAt a : Nat) : Int))) Gd.none rfl rfl ?_
  refine aops_end ?_
  refine hK8 _ ?_
  refine awp_condQ (q := (((sgnAt a : Nat) : Int)) < (E)) rfl (fun h2 => ?_) (fun h2 => ?_)
  · refine awp_wk (Wk.slot (i := 6) (y := (nm .i64 (E.toNat))) (AV.le_eq (by exact nm_int (by omega)))) ?_
    refine awp_skip ?_
    refine hK7 _ ?_
    refine awp_seq fun K9 hK9 => ?_
    refine awp_block ?_
    refine awp_seq fun K10 hK10 => ?_
    refine awp_region rfl ?_
    refine o_assign (nm .i64 (0)) Gd.none rfl ?_
    refine aops_end ?_
    refine hK10 _ ?_
    refine awp_seq fun K11 hK11 => ?_
    refine awp_seq fun K12 hK12 => ?_
    refine awp_region rfl ?_
    refine o_move (nm .i64 (sgnAt a)) Gd.none rfl ?_
    refine o_move (nm .i64 (E.toNat)) Gd.none rfl ?_
    refine o_sub (a := (((E.toNat : Nat) : Int))) (c := (((9 : Nat) : Int))) Gd.none rfl rfl (by exact wrap64 (by omega) (by omega)) ?_
    refine o_max (a := ((sgnAt a : Nat) : Int)) (c := (((E.toNat : Nat) : Int)) - (((9 : Nat) : Int))) Gd.none rfl rfl (fun w => run_max _ _ w) ?_
    refine n_as (v' := (nm .i64 (max (sgnAt a) (E.toNat - 9)))) (nm_int (by omega)) ?_
    refine o_assign (nm .i64 (max (sgnAt a) (E.toNat - 9))) Gd.none rfl ?_
    refine aops_end ?_
    refine hK12 _ ?_
    refine awp_block ?_
    refine awp_loopR (fun κ σ => ∃ (i : Nat), ∃ (q : Nat), (max (sgnAt a) (E.toNat - 9) ≤ i) ∧ (i ≤ E.toNat) ∧ (q = dvk a (max (sgnAt a) (E.toNat - 9)) (i - (max (sgnAt a) (E.toNat - 9)))) ∧ (E.toNat - i) = κ ∧ σ = ⟨[(0, (AV.lit (.string (a)))), (2, (AV.ref 2 (0))), (3, (bp (byt a 0 = 45))), (4, (nm .i64 (sgnAt a))), (5, (AV.row 3)), (6, (nm .i64 (E.toNat))), (7, (nm .i64 (q))), (8, (nm .i64 (i)))], [(2, (AO.var 36 [(AV.lit (.bool false)), (AV.lit (.slice none 0 0))])), (3, (AO.row 3 1 (ns .i64 (L))))]⟩) ⟨_, _, ⟨max (sgnAt a) (E.toNat - 9), 0, (by omega), (by omega), (by simp [dvk]), rfl, rfl⟩, ?wk2⟩ ?rd2
    case wk2 =>
      exact Wk.sub (And.intro (by exact rfl) (And.intro (by exact rfl) (And.intro (by exact rfl) (And.intro (by exact rfl) (And.intro (by exact rfl) (And.intro (by exact rfl) (And.intro (by first | rfl | exact congrArg (nm _) (by omega) | exact nm_int (by omega) | exact nm_int (by simp [IntKind.wrap, IntKind.bits, IntKind.signed]; omega)) (And.intro (by first | rfl | exact congrArg (nm _) (by omega) | exact nm_int (by omega) | exact nm_int (by simp [IntKind.wrap, IntKind.bits, IntKind.signed]; omega)) (trivial))))))))) (And.intro (by first | rfl | exact row_ns (by simp) | exact congrArg (fun x => some (AO.blk (.stringIter _ x))) (by omega)) (And.intro (by first | rfl | exact row_ns (by simp) | exact congrArg (fun x => some (AO.blk (.stringIter _ x))) (by omega)) (trivial)))
    rintro κ _ ⟨i, q, hi, hi2, hq0, rfl, rfl⟩
    have hdl := dvk_lt (a := a) (s := max (sgnAt a) (E.toNat - 9)) (k := i - (max (sgnAt a) (E.toNat - 9))) fun j h1 h2 => o4 j (by omega) (by omega)
    rw [← hq0] at hdl
    have hq2 : q < 1000000000 := Nat.lt_of_lt_of_le hdl (by have := Nat.pow_le_pow_right (n := 10) (by decide) (show i - (max (sgnAt a) (E.toNat - 9)) ≤ 9 by omega); simpa using this)
    have hb := fun h => o4 i (by omega) h
    refine awp_seq fun K13 hK13 => ?_
    refine awp_seq fun K14 hK14 => ?_
    refine awp_region rfl ?_
    refine o_move (nm .i64 (i)) Gd.none rfl ?_
    refine o_move (nm .i64 (E.toNat)) Gd.none rfl ?_
    refine n_lss (i) (E.toNat) Gd.none rfl rfl ?_
    refine aops_end ?_
    refine hK14 _ ?_
    refine awp_condQ (q := (i) < (E.toNat)) rfl (fun h3 => ?_) (fun h3 => ?_)
    · refine awp_skip ?_
      refine hK13 _ ?_
      refine awp_seq fun K15 hK15 => ?_
      refine awp_block ?_
      refine awp_region rfl ?_
      refine o_move (nm .i64 (q)) Gd.none rfl ?_
      refine n_mul (10) (q) Gd.none rfl rfl (by simp only [topOf]; omega) ?_
      refine o_move (AV.lit (.string (a))) Gd.none rfl ?_
      refine o_move (nm .i64 (i)) Gd.none rfl ?_
      refine n_indexS (a) (i) Gd.none We_tT9 rfl rfl (by omega) ?_
      refine n_sub (byt (a) (i)) (48) Gd.none rfl rfl (by have := hb (by omega); omega) (by have := byt_lt a i; simp only [topOf]; omega) ?_
      refine n_conv ((byt (a) (i)) - (48)) Gd.none rfl We_tI5 We_tI3 (by have := byt_lt a i; simp only [topOf]; omega) ?_
      refine n_add ((10) * (q)) ((byt (a) (i)) - (48)) Gd.none rfl rfl (by have := byt_lt a i; simp only [topOf]; omega) ?_
      refine o_assign (nm .i64 (((10) * (q)) + ((byt (a) (i)) - (48)))) Gd.none rfl ?_
      refine aops_end ?_
      refine hK15 _ ?_
      refine awp_region rfl ?_
      refine o_move (nm .i64 (i)) Gd.none rfl ?_
      refine n_add (i) (1) Gd.none rfl rfl (by simp only [topOf]; omega) ?_
      refine o_assign (nm .i64 ((i) + (1))) Gd.none rfl ?_
      refine aops_end ?_
      refine ⟨_, _, ?lt, ⟨i + 1, ((10) * (q)) + ((byt (a) (i)) - (48)), (by omega), (by omega), (by rw [show i + 1 - (max (sgnAt a) (E.toNat - 9)) = (i - (max (sgnAt a) (E.toNat - 9))) + 1 by omega, dvk, ← hq0, show max (sgnAt a) (E.toNat - 9) + (i - (max (sgnAt a) (E.toNat - 9))) = i by omega]), rfl, rfl⟩, ?wk⟩
      case lt => omega
      case wk => exact Wk.sub (And.intro (by exact rfl) (And.intro (by exact rfl) (And.intro (by exact rfl) (And.intro (by exact rfl) (And.intro (by exact rfl) (And.intro (by exact rfl) (And.intro (by first | rfl | exact congrArg (nm _) (by omega) | exact nm_int (by omega) | exact nm_int (by simp [IntKind.wrap, IntKind.bits, IntKind.signed]; omega)) (And.intro (by first | rfl | exact congrArg (nm _) (by omega) | exact nm_int (by omega) | exact nm_int (by simp [IntKind.wrap, IntKind.bits, IntKind.signed]; omega)) (trivial))))))))) (And.intro (by first | rfl | exact row_ns (by simp) | exact congrArg (fun x => some (AO.blk (.stringIter _ x))) (by omega)) (And.intro (by first | rfl | exact row_ns (by simp) | exact congrArg (fun x => some (AO.blk (.stringIter _ x))) (by omega)) (trivial)))
    · have hq : q = dvk a (max (sgnAt a) (E.toNat - 9)) (E.toNat - (max (sgnAt a) (E.toNat - 9))) := by rw [hq0, show i = E.toNat by omega]
      refine awp_exit ?_
      refine hK11 _ ?_
      refine awp_region rfl ?_
      refine o_move (AV.row 3) Gd.none rfl ?_
      refine o_move (nm .i64 (q)) Gd.none rfl ?_
      refine o_buildSlice 301 (ns .i64 ([q])) [(0, [(nm .i64 (q))])] Gd.none We_tE22 rfl We_tO3 rfl rfl rfl rfl rfl rfl rfl ?_
      refine n_append 302 (L) ([q]) [(301, (AO.row 3 1 (ns .i64 ([q])))), (2, (AO.var 36 [(AV.lit (.bool false)), (AV.lit (.slice none 0 0))]))] Gd.none We_tE22 We_tO3 rfl rfl rfl rfl rfl (by simp only [List.length_append, List.length_cons, List.length_nil]; omega) (by decide) rfl rfl ?_
      refine o_assign (AV.row 302) Gd.none rfl ?_
      refine aops_end ?_
      refine hK9 _ ?_
      refine awp_region rfl ?_
      refine o_move (nm .i64 (E.toNat)) Gd.none rfl ?_
      refine o_sub (a := (((E.toNat : Nat) : Int))) (c := (((9 : Nat) : Int))) Gd.none rfl rfl (by exact wrap64 (by omega) (by omega)) ?_
      refine o_assign (AV.lit (.int .i64 ((((E.toNat : Nat) : Int)) - (((9 : Nat) : Int))))) Gd.none rfl ?_
      refine aops_end ?_
      refine ⟨_, _, ?lt, ⟨(E.toNat : Int) - 9, (L) ++ ([q]), (by omega), (hd.snoc hq2), (by intro h; have := hl (by omega); simp only [List.length_append, List.length_cons, List.length_nil]; omega), (by have := hl (by omega); simp only [List.length_append, List.length_cons, List.length_nil]; omega), (by rw [hq]; rw [show max (sgnAt a) E.toNat = E.toNat by omega] at hv; have hh := parse_step (s := max (sgnAt a) (E.toNat - 9)) (by omega) (by omega) (hl (by omega)) hv; rw [show max (sgnAt a) ((E.toNat : Int) - 9).toNat = max (sgnAt a) (E.toNat - 9) by omega]; exact hh), rfl, rfl⟩, ?wk⟩
      case lt => omega
      case wk => exact Wk.trans (Wk.sub (σ' := ⟨[(0, (AV.lit (.string (a)))), (2, (AV.ref 2 (0))), (3, (bp (byt a 0 = 45))), (4, (nm .i64 (sgnAt a))), (5, (AV.row 302)), (6, (AV.lit (.int .i64 ((((E.toNat : Nat) : Int)) - (((9 : Nat) : Int))))))], [(2, (AO.var 36 [(AV.lit (.bool false)), (AV.lit (.slice none 0 0))])), (302, (AO.row 3 1 (ns .i64 ((L) ++ ([q])))))]⟩) (And.intro rfl (And.intro rfl (And.intro rfl (And.intro rfl (And.intro rfl (And.intro rfl (trivial))))))) (And.intro rfl (And.intro rfl (trivial)))) (Wk.trans (Wk.ren (id := 302) (id' := 3) rfl) (Wk.sub (And.intro (by exact rfl) (And.intro (by exact rfl) (And.intro (by exact rfl) (And.intro (by exact rfl) (And.intro (by first | rfl | (simp)) (And.intro (by first | rfl | exact int_eq (by omega) | exact int_nm (by omega)) (trivial))))))) (And.intro (by first | rfl | exact row_ns (by simp) | exact congrArg (fun x => some (AO.blk (.stringIter _ x))) (by omega)) (And.intro (by first | rfl | exact row_ns (by simp) | exact congrArg (fun x => some (AO.blk (.stringIter _ x))) (by omega)) (trivial)))))
  · refine awp_exit ?_
    refine hK5 _ ?_
    refine awp_seq fun K16 hK16 => ?_
    refine awp_region rfl ?_
    refine o_move (bp (byt a 0 = 45)) Gd.none rfl ?_
    refine o_move (AV.row 3) Gd.none rfl ?_
    refine o_callG [(3, 1, (ns .i64 (L)))] [(bp (byt a 0 = 45)), (AV.sl 1 (ns .i64 (L)))] _ (intR ((sg (decide (byt a 0 = 45)) (val (L))))) [(2, (AO.var 36 [(AV.lit (.bool false)), (AV.lit (.slice none 0 0))]))] Gd.none We_tC54 rfl (And.intro ⟨_, rfl⟩ (trivial)) rfl rfl (LeL.cons (AV.le_refl _) (LeL.cons (AV.le_refl _) (LeL.nil))) (c_rTrim (decide (byt a 0 = 45)) (L) (by first | assumption | exact dgn_dig _ _ | exact digs_dig _ | exact Dig.snoc (by assumption) (by assumption) | exact Dig.cons (by omega) (digs_dig _))) rfl ?_
    refine o_store [(2, (AO.var 36 [(bp ((sg (decide (byt a 0 = 45)) (val (L))) < 0)), (AV.sl 1 (ns .i64 (digs ((sg (decide (byt a 0 = 45)) (val (L)))).natAbs)))]))] Gd.none We_tZ36 rfl rfl rfl rfl rfl rfl ?_
    refine aops_end ?_
    refine hK16 _ ?_
    refine awp_ret ?_
    refine post_ret ⟨[(AV.agg [(bp ((sg (decide (byt a 0 = 45)) (val (L))) < 0)), (AV.sl 1 (ns .i64 (digs ((sg (decide (byt a 0 = 45)) (val (L)))).natAbs)))])], And.intro ⟨2, (AO.var 36 [(bp ((sg (decide (byt a 0 = 45)) (val (L))) < 0)), (AV.sl 1 (ns .i64 (digs ((sg (decide (byt a 0 = 45)) (val (L)))).natAbs)))]), rfl, rfl, rfl, Or.inl ⟨We_tA36, AV.le_refl _⟩⟩ (trivial), rfl, ?_⟩
    refine congrArg (intK .i64) ?_
    rw [hv, show max (sgnAt a) E.toNat = sgnAt a by omega]
    rfl

end Go.Proofs.YtbilndahjkimkaaDoor

set_option linter.unusedVariables false
set_option linter.unusedSimpArgs false
namespace Go.Proofs.YtbilndahjkimkaaDoor
open Go Go.Ab Go.Mth
theorem Wg_tC93 : callable cx.P 93 = true := by kernel_rfl
theorem Wg_tN112 : cx.P.underlying 112 = some (.interface #[("Error", 97)]) := by kernel_rfl
theorem Wg_tO79 : tyZero cx.P 79 = some [(Go.Value.bool false), (Go.Value.slice none 0 0)] := by kernel_rfl
theorem Wg_tT9 : cx.P.underlying 9 = some .string := by kernel_rfl
theorem Wg_tC80 : callable cx.P 80 = true := by kernel_rfl
theorem Wg_tI110 : tyInt cx.P 110 = some .u64 := by kernel_rfl
theorem Wg_tI115 : tyInt cx.P 115 = some .u32 := by kernel_rfl
theorem Wg_tE77 : tyElem cx.P 77 = some (115, 1, 4) := by kernel_rfl
theorem Wg_tO115 : tyZero cx.P 115 = some [(Go.Value.int IntKind.u32 0)] := by kernel_rfl
theorem Wg_tC81 : callable cx.P 81 = true := by kernel_rfl
theorem Wg_tZ79 : tySize cx.P 79 = some 2 := by kernel_rfl
theorem Wg_tA79 : tyAgg cx.P 79 = some 2 := by kernel_rfl
theorem Wg_tF79_1 : tyField cx.P 79 1 = some (1, 77) := by kernel_rfl
theorem Wg_tS77 : tySc cx.P 77 = true := by kernel_rfl
theorem Wg_tU77 : cx.P.underlying 77 = some (.slice 115) := by kernel_rfl
theorem Wg_tS115 : tySc cx.P 115 = true := by kernel_rfl
theorem Wg_tI3 : tyInt cx.P 3 = some .i64 := by kernel_rfl
theorem Wg_tC82 : callable cx.P 82 = true := by kernel_rfl
theorem Wg_tE101 : tyElem cx.P 101 = some (5, 1, 1) := by kernel_rfl
theorem Wg_tO5 : tyZero cx.P 5 = some [(Go.Value.int IntKind.u8 0)] := by kernel_rfl
theorem Wg_tF79_0 : tyField cx.P 79 0 = some (0, 4) := by kernel_rfl
theorem Wg_tS4 : tySc cx.P 4 = true := by kernel_rfl
theorem Wg_tW5 : tyZ1 cx.P 5 = some (.int .u8 0) := by kernel_rfl
theorem Wg_tU101 : cx.P.underlying 101 = some (.slice 5) := by kernel_rfl
theorem Wg_tQ5 : cx.P.underlying 5 = some (.int .u8) := by kernel_rfl
theorem c_parse (a : ByteArray) (h0 : 0 < a.size) (h9 : a.size ≤ 9) (h : ∀ i, i < a.size → 48 ≤ byt a i ∧ byt a i ≤ 57) : ECalls cx 80 [(AV.lit (.string (a))), (nm .i64 (10)), (nm .i64 (32))] (.tup [nm .u64 (dvk a 0 a.size), .lit .nilIface]) := by
  refine ecalls_of_awp Tryd.func80 (c := _) rfl (Nat.le_of_ble_eq_true rfl) ?_
  show awp cx 26 _ (postF cx Tryd.f80 _) ⟨[(0, (AV.lit (.string (a)))), (1, (nm .i64 (10))), (2, (nm .i64 (32)))], []⟩
  refine awp_seq fun K0 hK0 => ?_
  refine awp_region rfl ?_
  refine o_assign (nm .u64 (0)) Gd.none rfl ?_
  refine o_assign (AV.lit .nilIface) Gd.none rfl ?_
  refine aops_end ?_
  refine hK0 _ ?_
  refine awp_seq fun K1 hK1 => ?_
  refine awp_region rfl ?_
  refine o_move (AV.lit (.string (a))) Gd.none rfl ?_
  refine o_move (nm .i64 (10)) Gd.none rfl ?_
  refine o_move (nm .i64 (32)) Gd.none rfl ?_
  refine o_call [(AV.lit (.string (a))), (nm .i64 (10)), (nm .i64 (32))] (AV.tup [(nm .u64 (dvk (a) 0 (a).size)), (AV.lit .nilIface)]) Gd.none Wg_tC93 rfl (c_iparse (a) (by omega) (by omega) (by assumption)) ?_
  refine o_move (AV.tup [(nm .u64 (dvk (a) 0 (a).size)), (AV.lit .nilIface)]) Gd.none rfl ?_
  refine o_extract (nm .u64 (dvk (a) 0 (a).size)) Gd.none rfl rfl ?_
  refine o_extract (AV.lit .nilIface) Gd.none rfl rfl ?_
  refine o_assign (nm .u64 (dvk (a) 0 (a).size)) Gd.none rfl ?_
  refine o_assign (AV.lit .nilIface) Gd.none rfl ?_
  refine aops_end ?_
  refine hK1 _ ?_
  refine awp_seq fun K2 hK2 => ?_
  refine awp_seq fun K3 hK3 => ?_
  refine awp_region rfl ?_
  refine o_move (AV.lit .nilIface) Gd.none rfl ?_
  refine o_neqNil Gd.none rfl Wg_tN112 ?_
  refine aops_end ?_
  refine hK3 _ ?_
  refine awp_condB (b := false) rfl (fun hh => absurd (hh.symm.trans rfl) (by decide)) (fun _ => ?_)
  refine awp_skip ?_
  refine hK2 _ ?_
  refine awp_seq fun K4 hK4 => ?_
  refine awp_region rfl ?_
  refine o_move (nm .u64 (dvk (a) 0 (a).size)) Gd.none rfl ?_
  refine o_assign (nm .u64 (dvk (a) 0 (a).size)) Gd.none rfl ?_
  refine o_assign (AV.lit .nilIface) Gd.none rfl ?_
  refine aops_end ?_
  refine hK4 _ ?_
  refine awp_ret ?_
  refine post_ret ⟨[(nm .u64 (dvk (a) 0 (a).size)), (AV.lit .nilIface)], And.intro (AV.le_refl _) (And.intro (AV.le_refl _) (trivial)), rfl, ?_⟩
  rfl

theorem c_wParse (a : ByteArray) (hok : OkS a) : ECalls cx 48 [(AV.lit (.string (a)))] (intW (numS a)) := by
  refine ecalls_of_awp Tryd.func48 (c := _) rfl (Nat.le_of_ble_eq_true rfl) ?_
  show awp cx 38 _ (postF cx Tryd.f48 _) ⟨[(0, (AV.lit (.string (a))))], []⟩
  obtain ⟨o1, o2, o3, o4⟩ := hok
  have hs1 : sgnAt a ≤ 1 := by unfold sgnAt; split <;> omega
  refine awp_seq fun K0 hK0 => ?_
  refine awp_region rfl ?_
  refine o_alloc 2 [(AV.lit (.bool false)), (AV.lit (.slice none 0 0))] Gd.none Wg_tO79 rfl rfl rfl ?_
  refine aops_end ?_
  refine hK0 _ ?_
  refine awp_seq fun K1 hK1 => ?_
  refine awp_region rfl ?_
  refine o_move (AV.lit (.string (a))) Gd.none rfl ?_
  refine n_indexS (a) (0) Gd.none Wg_tT9 rfl rfl (by omega) ?_
  refine n_eql (byt (a) (0)) (45) Gd.none rfl rfl ?_
  refine o_assign (bp ((byt (a) (0)) = (45))) Gd.none rfl ?_
  refine aops_end ?_
  refine hK1 _ ?_
  refine awp_seqJ (J := fun σ => ∃ (b : ByteArray), (b.size = a.size - sgnAt a) ∧ (∀ i, i < b.size → byt b i = byt a (sgnAt a + i)) ∧ True ∧ σ = ⟨[(0, (AV.lit (.string (b)))), (2, (AV.ref 2 (0))), (3, (bp (byt a 0 = 45)))], [(2, (AO.var 79 [(AV.lit (.bool false)), (AV.lit (.slice none 0 0))]))]⟩) ?ja0 ?jb0
  case ja0 =>
    refine awp_seq fun K2 hK2 => ?_
    refine awp_region rfl ?_
    refine o_move (bp ((byt (a) (0)) = (45))) Gd.none rfl ?_
    refine aops_end ?_
    refine hK2 _ ?_
    refine awp_condQ (q := (byt (a) (0)) = (45)) rfl (fun h1 => ?_) (fun h1 => ?_)
    · refine awp_region rfl ?_
      refine o_move (AV.lit (.string (a))) Gd.none rfl ?_
      refine n_sliceSL (a) (1) ((a).size) Gd.none Wg_tT9 rfl rfl (by omega) (by omega) ?_
      refine o_assign (AV.lit (.string ((a).extract (1) ((a).size)))) Gd.none rfl ?_
      refine aops_end ?_
      have hs : sgnAt a = 1 := if_pos h1
      exact ⟨_, ⟨(a).extract (1) ((a).size), (by rw [extract_size a (by omega) (by omega)]; omega), (fun i hi => by rw [extract_size a (by omega) (by omega)] at hi; rw [byt_extract a (by omega) (by omega), hs]), trivial, rfl⟩, Wk.sub (And.intro (by first | rfl | (simp)) (And.intro (by exact rfl) (And.intro (by first | rfl | exact bp_congr (by first | omega | simp) | exact bl_bp (by first | omega | simp)) (trivial)))) (And.intro (by first | rfl | exact row_ns (by simp) | exact congrArg (fun x => some (AO.blk (.stringIter _ x))) (by omega)) (trivial))⟩
    · refine awp_skip ?_
      have hs : sgnAt a = 0 := if_neg h1
      exact ⟨_, ⟨a, (by omega), (fun i hi => by rw [hs, Nat.zero_add]), trivial, rfl⟩, Wk.sub (And.intro (by first | rfl | (simp)) (And.intro (by exact rfl) (And.intro (by first | rfl | exact bp_congr (by first | omega | simp) | exact bl_bp (by first | omega | simp)) (trivial)))) (And.intro (by first | rfl | exact row_ns (by simp) | exact congrArg (fun x => some (AO.blk (.stringIter _ x))) (by omega)) (trivial))⟩
  rintro _ ⟨b, hbs, hb, -, rfl⟩
  have hbd : ∀ i, i < b.size → 48 ≤ byt b i ∧ byt b i ≤ 57 := fun i hi => by rw [hb i hi]; exact o4 _ (by omega) (by omega)
  refine awp_seq fun K3 hK3 => ?_
  refine awp_region rfl ?_
  refine o_assign (AV.lit (.slice none 0 0)) Gd.none rfl ?_
  refine aops_end ?_
  refine hK3 _ ?_
  refine awp_seq fun K4 hK4 => ?_
  refine awp_seq fun K5 hK5 => ?_
  refine awp_region rfl ?_
  refine o_move (AV.lit (.string (b))) Gd.none rfl ?_
  refine n_lenS (b) Gd.none rfl Wg_tT9 ?_
  refine o_assign (nm .i64 ((b).size)) Gd.none rfl ?_
  refine aops_end ?_
  refine hK5 _ ?_
  refine awp_block ?_
  refine awp_loopR (fun κ σ => ∃ (E : Int), ∃ (L : List Nat), (E ≤ b.size) ∧ (Dig L) ∧ (0 < E → L.length * 9 = b.size - E.toNat) ∧ (L.length ≤ 2000) ∧ (val L = dvk b E.toNat (b.size - E.toNat)) ∧ (E.toNat) = κ ∧ σ = ⟨[(0, (AV.lit (.string (b)))), (2, (AV.ref 2 (0))), (3, (bp (byt a 0 = 45))), (4, (AV.row 3)), (5, (AV.lit (.int .i64 (E))))], [(2, (AO.var 79 [(AV.lit (.bool false)), (AV.lit (.slice none 0 0))])), (3, (AO.row 115 1 (ns .u32 (L))))]⟩) ⟨_, _, ⟨(b.size : Int), [], (by omega), Dig.nil, (by intro _; simp), (by simp), (by simp [val, dvk]), rfl, rfl⟩, ?wk1⟩ ?rd1
  case wk1 =>
    exact Wk.trans (Wk.newNil (i := 4) (id := 601) (e := 115) (sz := 1) rfl rfl (by decide)) (Wk.trans (Wk.sub (σ' := ⟨[(0, (AV.lit (.string (b)))), (2, (AV.ref 2 (0))), (3, (bp (byt a 0 = 45))), (4, (AV.row 601)), (5, (nm .i64 ((b).size)))], [(2, (AO.var 79 [(AV.lit (.bool false)), (AV.lit (.slice none 0 0))])), (601, (AO.row 115 1 (ns .u32 ([]))))]⟩) (And.intro rfl (And.intro rfl (And.intro rfl (And.intro rfl (And.intro rfl (trivial)))))) (And.intro rfl (And.intro rfl (trivial)))) (Wk.trans (Wk.ren (id := 601) (id' := 3) rfl) (Wk.sub (And.intro (by exact rfl) (And.intro (by exact rfl) (And.intro (by exact rfl) (And.intro (by first | rfl | (simp)) (And.intro (by first | rfl | exact int_eq (by omega) | exact int_nm (by omega)) (trivial)))))) (And.intro (by first | rfl | exact row_ns (by simp) | exact congrArg (fun x => some (AO.blk (.stringIter _ x))) (by omega)) (And.intro (by first | rfl | exact row_ns (by simp) | exact congrArg (fun x => some (AO.blk (.stringIter _ x))) (by omega)) (trivial))))))
  rintro κ _ ⟨E, L, hE, hd, hl, hl2, hv, rfl, rfl⟩
  refine awp_seq fun K6 hK6 => ?_
  refine awp_seq fun K7 hK7 => ?_
  refine awp_region rfl ?_
  refine o_move (AV.lit (.int .i64 (E))) Gd.none rfl ?_
  refine o_gtr (a := (E)) (c := (((0 : Nat) : Int))) Gd.none rfl rfl ?_
  refine aops_end ?_
  refine hK7 _ ?_
  refine awp_condQ (q := (((0 : Nat) : Int)) < (E)) rfl (fun h2 => ?_) (fun h2 => ?_)
  · have hps : (b.extract (E.toNat - 9) E.toNat).size = E.toNat - (E.toNat - 9) := extract_size b (by omega) (by omega)
    have hpb : ∀ i, i < (b.extract (E.toNat - 9) E.toNat).size → byt (b.extract (E.toNat - 9) E.toNat) i = byt b (E.toNat - 9 + i) := fun i hi => byt_extract b (by omega) (by omega)
    have hpd : ∀ i, i < (b.extract (E.toNat - 9) E.toNat).size → 48 ≤ byt (b.extract (E.toNat - 9) E.toNat) i ∧ byt (b.extract (E.toNat - 9) E.toNat) i ≤ 57 := fun i hi => by rw [hpb i hi]; exact hbd _ (by omega)
    have hq : dvk (b.extract (E.toNat - 9) E.toNat) 0 (b.extract (E.toNat - 9) E.toNat).size = dvk b (E.toNat - 9) (E.toNat - (E.toNat - 9)) := by rw [dvk_congr (t := E.toNat - 9) (b := b) (fun i hi => by rw [Nat.zero_add]; exact hpb i hi), hps]
    have hql := dvk_lt (a := b) (s := E.toNat - 9) (k := E.toNat - (E.toNat - 9)) fun j h1 h2 => hbd j (by omega)
    have hq9 : dvk b (E.toNat - 9) (E.toNat - (E.toNat - 9)) < 1000000000 := Nat.lt_of_lt_of_le hql (by have := Nat.pow_le_pow_right (n := 10) (by decide) (show E.toNat - (E.toNat - 9) ≤ 9 by omega); simpa using this)
    refine awp_wk (Wk.slot (i := 5) (y := (nm .i64 (E.toNat))) (AV.le_eq (by exact nm_int (by omega)))) ?_
    refine awp_skip ?_
    refine hK6 _ ?_
    refine awp_seq fun K8 hK8 => ?_
    refine awp_block ?_
    refine awp_seq fun K9 hK9 => ?_
    refine awp_region rfl ?_
    refine o_move (AV.lit (.string (b))) Gd.none rfl ?_
    refine o_move (nm .i64 (E.toNat)) Gd.none rfl ?_
    refine o_sub (a := (((E.toNat : Nat) : Int))) (c := (((9 : Nat) : Int))) Gd.none rfl rfl (by exact wrap64 (by omega) (by omega)) ?_
    refine o_max (a := ((0 : Nat) : Int)) (c := (((E.toNat : Nat) : Int)) - (((9 : Nat) : Int))) Gd.none rfl rfl (fun w => run_max _ _ w) ?_
    refine n_as (v' := (nm .i64 (E.toNat - 9))) (nm_int (by omega)) ?_
    refine o_move (nm .i64 (E.toNat)) Gd.none rfl ?_
    refine n_sliceSLH (b) (E.toNat - 9) (E.toNat) Gd.none Wg_tT9 rfl rfl rfl (by omega) (by omega) ?_
    refine o_call [(AV.lit (.string ((b).extract (E.toNat - 9) (E.toNat)))), (nm .i64 (10)), (nm .i64 (32))] (AV.tup [(nm .u64 (dvk ((b).extract (E.toNat - 9) (E.toNat)) 0 ((b).extract (E.toNat - 9) (E.toNat)).size)), (AV.lit .nilIface)]) Gd.none Wg_tC80 rfl (c_parse ((b).extract (E.toNat - 9) (E.toNat)) (by omega) (by omega) (by assumption)) ?_
    refine o_move (AV.tup [(nm .u64 (dvk ((b).extract (E.toNat - 9) (E.toNat)) 0 ((b).extract (E.toNat - 9) (E.toNat)).size)), (AV.lit .nilIface)]) Gd.none rfl ?_
    refine o_extract (nm .u64 (dvk ((b).extract (E.toNat - 9) (E.toNat)) 0 ((b).extract (E.toNat - 9) (E.toNat)).size)) Gd.none rfl rfl ?_
    refine n_as (v' := (nm .u64 (dvk b (E.toNat - 9) (E.toNat - (E.toNat - 9))))) (congrArg (nm _) (by exact hq)) ?_
    refine o_extract (AV.lit .nilIface) Gd.none rfl rfl ?_
    refine o_assign (nm .u64 (dvk b (E.toNat - 9) (E.toNat - (E.toNat - 9)))) Gd.none rfl ?_
    refine o_assign (AV.lit .nilIface) Gd.none rfl ?_
    refine aops_end ?_
    refine hK9 _ ?_
    refine awp_region rfl ?_
    refine o_move (AV.row 3) Gd.none rfl ?_
    refine o_move (nm .u64 (dvk b (E.toNat - 9) (E.toNat - (E.toNat - 9)))) Gd.none rfl ?_
    refine n_conv (dvk b (E.toNat - 9) (E.toNat - (E.toNat - 9))) Gd.none rfl Wg_tI110 Wg_tI115 (by simp only [topOf]; omega) ?_
    refine o_buildSlice 201 (ns .u32 ([dvk b (E.toNat - 9) (E.toNat - (E.toNat - 9))])) [(0, [(nm .u32 (dvk b (E.toNat - 9) (E.toNat - (E.toNat - 9))))])] Gd.none Wg_tE77 rfl Wg_tO115 rfl rfl rfl rfl rfl rfl rfl ?_
    refine n_append 202 (L) ([dvk b (E.toNat - 9) (E.toNat - (E.toNat - 9))]) [(201, (AO.row 115 1 (ns .u32 ([dvk b (E.toNat - 9) (E.toNat - (E.toNat - 9))])))), (2, (AO.var 79 [(AV.lit (.bool false)), (AV.lit (.slice none 0 0))]))] Gd.none Wg_tE77 Wg_tO115 rfl rfl rfl rfl rfl (by simp only [List.length_append, List.length_cons, List.length_nil]; omega) (by decide) rfl rfl ?_
    refine o_assign (AV.row 202) Gd.none rfl ?_
    refine aops_end ?_
    refine hK8 _ ?_
    refine awp_region rfl ?_
    refine o_move (nm .i64 (E.toNat)) Gd.none rfl ?_
    refine o_sub (a := (((E.toNat : Nat) : Int))) (c := (((9 : Nat) : Int))) Gd.none rfl rfl (by exact wrap64 (by omega) (by omega)) ?_
    refine o_assign (AV.lit (.int .i64 ((((E.toNat : Nat) : Int)) - (((9 : Nat) : Int))))) Gd.none rfl ?_
    refine aops_end ?_
    refine ⟨_, _, ?lt, ⟨(E.toNat : Int) - 9, (L) ++ ([dvk b (E.toNat - 9) (E.toNat - (E.toNat - 9))]), (by omega), (hd.snoc hq9), (by intro h; have := hl (by omega); simp only [List.length_append, List.length_cons, List.length_nil]; omega), (by have := hl (by omega); simp only [List.length_append, List.length_cons, List.length_nil]; omega), (by have hh := parse_step (s := E.toNat - 9) (by omega) (by omega) (hl (by omega)) hv; rw [show ((E.toNat : Int) - 9).toNat = E.toNat - 9 by omega]; exact hh), rfl, rfl⟩, ?wk⟩
    case lt => omega
    case wk => exact Wk.trans (Wk.sub (σ' := ⟨[(0, (AV.lit (.string (b)))), (2, (AV.ref 2 (0))), (3, (bp (byt a 0 = 45))), (4, (AV.row 202)), (5, (AV.lit (.int .i64 ((((E.toNat : Nat) : Int)) - (((9 : Nat) : Int))))))], [(2, (AO.var 79 [(AV.lit (.bool false)), (AV.lit (.slice none 0 0))])), (202, (AO.row 115 1 (ns .u32 ((L) ++ ([dvk b (E.toNat - 9) (E.toNat - (E.toNat - 9))])))))]⟩) (And.intro rfl (And.intro rfl (And.intro rfl (And.intro rfl (And.intro rfl (trivial)))))) (And.intro rfl (And.intro rfl (trivial)))) (Wk.trans (Wk.ren (id := 202) (id' := 3) rfl) (Wk.sub (And.intro (by exact rfl) (And.intro (by exact rfl) (And.intro (by exact rfl) (And.intro (by first | rfl | (simp)) (And.intro (by first | rfl | exact int_eq (by omega) | exact int_nm (by omega)) (trivial)))))) (And.intro (by first | rfl | exact row_ns (by simp) | exact congrArg (fun x => some (AO.blk (.stringIter _ x))) (by omega)) (And.intro (by first | rfl | exact row_ns (by simp) | exact congrArg (fun x => some (AO.blk (.stringIter _ x))) (by omega)) (trivial)))))
  · refine awp_exit ?_
    refine hK4 _ ?_
    refine awp_seq fun K10 hK10 => ?_
    refine awp_region rfl ?_
    refine o_move (bp (byt a 0 = 45)) Gd.none rfl ?_
    refine o_move (AV.row 3) Gd.none rfl ?_
    refine o_callG [(3, 1, (ns .u32 (L)))] [(bp (byt a 0 = 45)), (AV.sl 1 (ns .u32 (L)))] _ (intW ((sg (decide (byt a 0 = 45)) (val (L))))) [(2, (AO.var 79 [(AV.lit (.bool false)), (AV.lit (.slice none 0 0))]))] Gd.none Wg_tC81 rfl (And.intro ⟨_, rfl⟩ (trivial)) rfl rfl (LeL.cons (AV.le_refl _) (LeL.cons (AV.le_refl _) (LeL.nil))) (c_wTrim (decide (byt a 0 = 45)) (L) (by first | assumption | exact dgn_dig _ _ | exact digs_dig _ | exact Dig.snoc (by assumption) (by assumption) | exact Dig.cons (by omega) (digs_dig _))) rfl ?_
    refine o_store [(2, (AO.var 79 [(bp ((sg (decide (byt a 0 = 45)) (val (L))) < 0)), (AV.sl 1 (ns .u32 (digs ((sg (decide (byt a 0 = 45)) (val (L)))).natAbs)))]))] Gd.none Wg_tZ79 rfl rfl rfl rfl rfl rfl ?_
    refine aops_end ?_
    refine hK10 _ ?_
    refine awp_ret ?_
    refine post_ret ⟨[(AV.agg [(bp ((sg (decide (byt a 0 = 45)) (val (L))) < 0)), (AV.sl 1 (ns .u32 (digs ((sg (decide (byt a 0 = 45)) (val (L)))).natAbs)))])], And.intro ⟨2, (AO.var 79 [(bp ((sg (decide (byt a 0 = 45)) (val (L))) < 0)), (AV.sl 1 (ns .u32 (digs ((sg (decide (byt a 0 = 45)) (val (L)))).natAbs)))]), rfl, rfl, rfl, Or.inl ⟨Wg_tA79, AV.le_refl _⟩⟩ (trivial), rfl, ?_⟩
    refine congrArg (intK .u32) ?_
    rw [hv, show E.toNat = 0 by omega]
    unfold numS
    congr 1
    rw [← hbs]
    exact (dvk_congr fun i hi => by rw [Nat.zero_add]; exact (hb i (by omega))).symm

theorem c_wDigits (z : Int) (hz : (digs z.natAbs).length ≤ 1000000000) : ECalls cx 49 [(intW (z))] (nm .i64 (ndig z.natAbs)) := by
  refine ecalls_of_awp Tryd.func49 (c := _) rfl (Nat.le_of_ble_eq_true rfl) ?_
  show awp cx 24 _ (postF cx Tryd.f49 _) ⟨[(0, (intW (z)))], []⟩
  refine awp_seq fun K0 hK0 => ?_
  refine awp_region rfl ?_
  refine o_box 2 [(bp (z < 0)), (AV.sl 1 (ns .u32 (digs (z).natAbs)))] Gd.none rfl rfl ?_
  refine o_assign (nm .i64 (0)) Gd.none rfl ?_
  refine aops_end ?_
  refine hK0 _ ?_
  refine awp_seq fun K1 hK1 => ?_
  refine awp_seq fun K2 hK2 => ?_
  refine awp_region rfl ?_
  refine o_fieldRef 1 Gd.none Wg_tF79_1 rfl rfl ?_
  refine o_loadS (AV.sl 1 (ns .u32 (digs (z).natAbs))) Gd.none Wg_tS77 rfl rfl rfl ?_
  refine n_len (digs (z).natAbs) Gd.none Wg_tU77 rfl ?_
  refine n_eql ((digs (z).natAbs).length) (0) Gd.none rfl rfl ?_
  refine aops_end ?_
  refine hK2 _ ?_
  refine awp_condQ (q := ((digs (z).natAbs).length) = (0)) rfl (fun h1 => ?_) (fun h1 => ?_)
  · refine awp_seq fun K3 hK3 => ?_
    refine awp_region rfl ?_
    refine o_assign (nm .i64 (1)) Gd.none rfl ?_
    refine aops_end ?_
    refine hK3 _ ?_
    refine awp_ret ?_
    refine post_ret ⟨[(nm .i64 (1))], And.intro (AV.le_refl _) (trivial), rfl, ?_⟩
    refine congrArg (nm .i64) ?_
    unfold ndig
    rw [if_pos (digs_len_zero.1 h1)]
  · have hn0 : 0 < z.natAbs := by rcases Nat.eq_zero_or_pos z.natAbs with e | e; exact absurd (digs_len_zero.2 e) h1; exact e
    have ht := ndig_top hn0
    have htl := (digs_dig z.natAbs).getD ((digs z.natAbs).length - 1)
    have hsz := txt_size ((digs z.natAbs).getD ((digs z.natAbs).length - 1) 0)
    have hsm := ndig_small htl
    refine awp_skip ?_
    refine hK1 _ ?_
    refine awp_seq fun K4 hK4 => ?_
    refine awp_regionD rfl ?_
    refine o_fieldRef 1 Gd.none Wg_tF79_1 rfl rfl ?_
    refine o_loadS (AV.sl 1 (ns .u32 (digs (z).natAbs))) Gd.none Wg_tS77 rfl rfl rfl ?_
    refine n_len (digs (z).natAbs) Gd.none Wg_tU77 rfl ?_
    refine n_sub ((digs (z).natAbs).length) (1) Gd.none rfl rfl (by omega) (by simp only [topOf]; omega) ?_
    refine n_mul (9) (((digs (z).natAbs).length) - (1)) Gd.none rfl rfl (by simp only [topOf]; omega) ?_
    refine o_fieldRef 1 Gd.none Wg_tF79_1 rfl rfl ?_
    refine o_loadS (AV.sl 1 (ns .u32 (digs (z).natAbs))) Gd.none Wg_tS77 rfl rfl rfl ?_
    refine o_fieldRef 1 Gd.none Wg_tF79_1 rfl rfl ?_
    refine o_loadS (AV.sl 1 (ns .u32 (digs (z).natAbs))) Gd.none Wg_tS77 rfl rfl rfl ?_
    refine n_len (digs (z).natAbs) Gd.none Wg_tU77 rfl ?_
    refine n_sub ((digs (z).natAbs).length) (1) Gd.none rfl rfl (by omega) (by simp only [topOf]; omega) ?_
    refine n_index (digs (z).natAbs) (((digs (z).natAbs).length) - (1)) Gd.none Wg_tE77 rfl rfl (by omega) ?_
    refine n_loadI (digs (z).natAbs) (((digs (z).natAbs).length) - (1)) Gd.none Wg_tS115 rfl (by omega) ?_
    refine n_conv ((digs (z).natAbs).getD (((digs (z).natAbs).length) - (1)) 0) Gd.none rfl Wg_tI115 Wg_tI3 (by simp only [topOf]; omega) ?_
    refine o_call [(nm .i64 ((digs (z).natAbs).getD (((digs (z).natAbs).length) - (1)) 0))] (AV.lit (.string (txt (((digs (z).natAbs).getD (((digs (z).natAbs).length) - (1)) 0 : Nat) : Int)))) Gd.none Wg_tC82 rfl (c_itoa ((digs (z).natAbs).getD (((digs (z).natAbs).length) - (1)) 0) (by omega)) ?_
    refine n_lenS (txt (((digs (z).natAbs).getD (((digs (z).natAbs).length) - (1)) 0 : Nat) : Int)) Gd.none rfl Wg_tT9 ?_
    refine n_add ((9) * (((digs (z).natAbs).length) - (1))) ((txt (((digs (z).natAbs).getD (((digs (z).natAbs).length) - (1)) 0 : Nat) : Int)).size) Gd.none rfl rfl (by simp only [topOf]; omega) ?_
    refine o_assign (nm .i64 (((9) * (((digs (z).natAbs).length) - (1))) + ((txt (((digs (z).natAbs).getD (((digs (z).natAbs).length) - (1)) 0 : Nat) : Int)).size))) Gd.none rfl ?_
    refine aops_end ⟨by kernel_rfl, ?_⟩
    refine hK4 _ ?_
    refine awp_ret ?_
    refine post_ret ⟨[(nm .i64 (((9) * (((digs (z).natAbs).length) - (1))) + ((txt (((digs (z).natAbs).getD (((digs (z).natAbs).length) - (1)) 0 : Nat) : Int)).size)))], And.intro (AV.le_refl _) (trivial), rfl, ?_⟩
    refine congrArg (nm .i64) ?_
    rw [hsz]
    have hp := val_drop_pos (n := z.natAbs) (j := (digs z.natAbs).length - 1) (by omega)
    rw [val_drop_succ (by omega), val_drop_all (xs := digs z.natAbs) (j := (digs z.natAbs).length - 1 + 1) (by omega)] at hp
    unfold ndig
    rw [if_neg (by omega), if_neg (by omega), ht]

theorem c_wText (z : Int) (hz : (digs z.natAbs).length ≤ 1000000000) : ECalls cx 64 [(intW (z))] (.lit (.string (txt z))) := by
  refine ecalls_of_awp Tryd.func64 (c := _) rfl (Nat.le_of_ble_eq_true rfl) ?_
  show awp cx 54 _ (postF cx Tryd.f64 _) ⟨[(0, (intW (z)))], []⟩
  refine awp_seq fun K0 hK0 => ?_
  refine awp_region rfl ?_
  refine o_box 2 [(bp (z < 0)), (AV.sl 1 (ns .u32 (digs (z).natAbs)))] Gd.none rfl rfl ?_
  refine o_assign (AV.lit (.string (({data := #[]} : ByteArray)))) Gd.none rfl ?_
  refine aops_end ?_
  refine hK0 _ ?_
  refine awp_seq fun K1 hK1 => ?_
  refine awp_seq fun K2 hK2 => ?_
  refine awp_region rfl ?_
  refine o_fieldRef 1 Gd.none Wg_tF79_1 rfl rfl ?_
  refine o_loadS (AV.sl 1 (ns .u32 (digs (z).natAbs))) Gd.none Wg_tS77 rfl rfl rfl ?_
  refine n_len (digs (z).natAbs) Gd.none Wg_tU77 rfl ?_
  refine n_eql ((digs (z).natAbs).length) (0) Gd.none rfl rfl ?_
  refine aops_end ?_
  refine hK2 _ ?_
  refine awp_condQ (q := ((digs (z).natAbs).length) = (0)) rfl (fun h1 => ?_) (fun h1 => ?_)
  · refine awp_seq fun K3 hK3 => ?_
    refine awp_region rfl ?_
    refine o_assign (AV.lit (.string (({data := #[48]} : ByteArray)))) Gd.none rfl ?_
    refine aops_end ?_
    refine hK3 _ ?_
    refine awp_ret ?_
    refine post_ret ⟨[(AV.lit (.string (({data := #[48]} : ByteArray))))], And.intro (AV.le_refl _) (trivial), rfl, ?_⟩
    rw [show z = 0 by have := digs_len_zero.1 h1; omega]
    rfl
  · have hz0 : z.natAbs ≠ 0 := fun e => h1 (digs_len_zero.2 e)
    refine awp_skip ?_
    refine hK1 _ ?_
    refine awp_seq fun K4 hK4 => ?_
    refine awp_region rfl ?_
    refine o_buildSlice 3 (ns .u8 ([])) [] Gd.none Wg_tE101 rfl Wg_tO5 rfl rfl rfl rfl rfl rfl rfl ?_
    refine o_assign (AV.row 3) Gd.none rfl ?_
    refine aops_end ?_
    refine hK4 _ ?_
    refine awp_seqJ (J := fun σ => ∃ (o0 : List Nat), (o0 = (if z < 0 then [45] else [] : List Nat)) ∧ True ∧ σ = ⟨[(1, (AV.ref 2 (0))), (3, (AV.row 3))], [(2, (AO.var 79 [(bp (z < 0)), (AV.sl 1 (ns .u32 (digs (z).natAbs)))])), (3, (AO.row 5 1 (ns .u8 (o0))))]⟩) ?ja0 ?jb0
    case ja0 =>
      refine awp_seq fun K5 hK5 => ?_
      refine awp_region rfl ?_
      refine o_fieldRef 0 Gd.none Wg_tF79_0 rfl rfl ?_
      refine o_loadS (bp (z < 0)) Gd.none Wg_tS4 rfl rfl rfl ?_
      refine aops_end ?_
      refine hK5 _ ?_
      refine awp_condQ (q := z < 0) rfl (fun h2 => ?_) (fun h2 => ?_)
      · refine awp_region rfl ?_
        refine o_move (AV.row 3) Gd.none rfl ?_
        refine o_buildSlice 4 (ns .u8 ([45])) [(0, [(nm .u8 (45))])] Gd.none Wg_tE101 rfl Wg_tO5 rfl rfl rfl rfl rfl rfl rfl ?_
        refine n_append 5 ([]) ([45]) [(4, (AO.row 5 1 (ns .u8 ([45])))), (2, (AO.var 79 [(bp (z < 0)), (AV.sl 1 (ns .u32 (digs (z).natAbs)))]))] Gd.none Wg_tE101 Wg_tO5 rfl rfl rfl rfl rfl (by simp) (by decide) rfl rfl ?_
        refine o_assign (AV.row 5) Gd.none rfl ?_
        refine aops_end ?_
        exact ⟨_, ⟨([]) ++ ([45]), (by simp [*]), trivial, rfl⟩, Wk.trans (Wk.sub (σ' := ⟨[(1, (AV.ref 2 (0))), (3, (AV.row 5))], [(2, (AO.var 79 [(bp (z < 0)), (AV.sl 1 (ns .u32 (digs (z).natAbs)))])), (5, (AO.row 5 1 (ns .u8 (([]) ++ ([45])))))]⟩) (And.intro rfl (And.intro rfl (trivial))) (And.intro rfl (And.intro rfl (trivial)))) (Wk.trans (Wk.ren (id := 5) (id' := 3) rfl) (Wk.sub (And.intro (by exact rfl) (And.intro (by first | rfl | (simp)) (trivial))) (And.intro (by first | rfl | exact row_ns (by simp) | exact congrArg (fun x => some (AO.blk (.stringIter _ x))) (by omega)) (And.intro (by first | rfl | exact row_ns (by simp) | exact congrArg (fun x => some (AO.blk (.stringIter _ x))) (by omega)) (trivial)))))⟩
      · refine awp_skip ?_
        exact ⟨_, ⟨[], (by simp [*]), trivial, rfl⟩, Wk.sub (And.intro (by exact rfl) (And.intro (by exact rfl) (trivial))) (And.intro (by first | rfl | exact row_ns (by simp) | exact congrArg (fun x => some (AO.blk (.stringIter _ x))) (by omega)) (And.intro (by first | rfl | exact row_ns (by simp) | exact congrArg (fun x => some (AO.blk (.stringIter _ x))) (by omega)) (trivial)))⟩
    rintro _ ⟨o0, ho0, -, rfl⟩
    have hol : o0.length ≤ 1 := by rw [ho0]; split <;> simp
    refine awp_seq fun K6 hK6 => ?_
    refine awp_seq fun K7 hK7 => ?_
    refine awp_region rfl ?_
    refine o_fieldRef 1 Gd.none Wg_tF79_1 rfl rfl ?_
    refine o_loadS (AV.sl 1 (ns .u32 (digs (z).natAbs))) Gd.none Wg_tS77 rfl rfl rfl ?_
    refine n_len (digs (z).natAbs) Gd.none Wg_tU77 rfl ?_
    refine o_sub (a := ((((digs (z).natAbs).length : Nat) : Int))) (c := (((1 : Nat) : Int))) Gd.none rfl rfl (by exact wrap64 (by omega) (by omega)) ?_
    refine o_assign (AV.lit (.int .i64 (((((digs (z).natAbs).length : Nat) : Int)) - (((1 : Nat) : Int))))) Gd.none rfl ?_
    refine aops_end ?_
    refine hK7 _ ?_
    refine awp_block ?_
    refine awp_loopR (fun κ σ => ∃ (j : Nat), ∃ (out : List Nat), ∃ (body : List Nat), (j ≤ (digs z.natAbs).length) ∧ (body = (decs (val ((digs z.natAbs).drop j))).reverse) ∧ (out = o0 ++ body) ∧ (out.length ≤ 1 + 9 * ((digs z.natAbs).length - j)) ∧ (j) = κ ∧ σ = ⟨[(1, (AV.ref 2 (0))), (3, (AV.row 3)), (4, (AV.lit (.int .i64 ((j : Int) - 1))))], [(2, (AO.var 79 [(bp (z < 0)), (AV.sl 1 (ns .u32 (digs (z).natAbs)))])), (3, (AO.row 5 1 (ns .u8 (out))))]⟩) ⟨_, _, ⟨(digs z.natAbs).length, o0, [], (Nat.le_refl _), (by rw [val_drop_all (Nat.le_refl _), decs_zero]; rfl), (by simp), (by omega), rfl, rfl⟩, ?wk1⟩ ?rd1
    case wk1 =>
      exact Wk.sub (And.intro (by exact rfl) (And.intro (by exact rfl) (And.intro (by first | rfl | exact int_eq (by omega) | exact int_nm (by omega)) (trivial)))) (And.intro (by first | rfl | exact row_ns (by simp) | exact congrArg (fun x => some (AO.blk (.stringIter _ x))) (by omega)) (And.intro (by first | rfl | exact row_ns (by simp) | exact congrArg (fun x => some (AO.blk (.stringIter _ x))) (by omega)) (trivial)))
    rintro κ _ ⟨j, out, body, hj, hb, ho, hol2, rfl, rfl⟩
    have hp := (digs_dig z.natAbs).getD (j - 1)
    have htsz := txt_size ((digs z.natAbs).getD (j - 1) 0)
    have hnd := ndig_small hp
    refine awp_seq fun K8 hK8 => ?_
    refine awp_seq fun K9 hK9 => ?_
    refine awp_region rfl ?_
    refine o_move (AV.lit (.int .i64 ((j : Int) - 1))) Gd.none rfl ?_
    refine o_geq (a := ((j : Int) - 1)) (c := (((0 : Nat) : Int))) Gd.none rfl rfl ?_
    refine aops_end ?_
    refine hK9 _ ?_
    refine awp_condQ (q := (((0 : Nat) : Int)) ≤ ((j : Int) - 1)) rfl (fun h3 => ?_) (fun h3 => ?_)
    · refine awp_wk (Wk.slot (i := 4) (y := (nm .i64 (j - 1))) (AV.le_eq (by exact nm_int (by omega)))) ?_
      refine awp_skip ?_
      refine hK8 _ ?_
      refine awp_seq fun K10 hK10 => ?_
      refine awp_block ?_
      refine awp_seq fun K11 hK11 => ?_
      refine awp_region rfl ?_
      refine o_fieldRef 1 Gd.none Wg_tF79_1 rfl rfl ?_
      refine o_loadS (AV.sl 1 (ns .u32 (digs (z).natAbs))) Gd.none Wg_tS77 rfl rfl rfl ?_
      refine o_move (nm .i64 (j - 1)) Gd.none rfl ?_
      refine n_index (digs (z).natAbs) (j - 1) Gd.none Wg_tE77 rfl rfl (by omega) ?_
      refine n_loadI (digs (z).natAbs) (j - 1) Gd.none Wg_tS115 rfl (by omega) ?_
      refine n_conv ((digs (z).natAbs).getD (j - 1) 0) Gd.none rfl Wg_tI115 Wg_tI3 (by simp only [topOf]; omega) ?_
      refine o_call [(nm .i64 ((digs (z).natAbs).getD (j - 1) 0))] (AV.lit (.string (txt (((digs (z).natAbs).getD (j - 1) 0 : Nat) : Int)))) Gd.none Wg_tC82 rfl (c_itoa ((digs (z).natAbs).getD (j - 1) 0) (by omega)) ?_
      refine o_assign (AV.lit (.string (txt (((digs (z).natAbs).getD (j - 1) 0 : Nat) : Int)))) Gd.none rfl ?_
      refine aops_end ?_
      refine hK11 _ ?_
      refine awp_seq fun K12 hK12 => ?_
      refine awp_seq fun K13 hK13 => ?_
      refine awp_region rfl ?_
      refine o_move (AV.lit (.string (txt (((digs (z).natAbs).getD (j - 1) 0 : Nat) : Int)))) Gd.none rfl ?_
      refine n_lenS (txt (((digs (z).natAbs).getD (j - 1) 0 : Nat) : Int)) Gd.none rfl Wg_tT9 ?_
      refine n_as (v' := (nm .i64 (ndig ((digs z.natAbs).getD (j - 1) 0)))) (congrArg (nm _) (by exact htsz)) ?_
      refine o_assign (nm .i64 (ndig ((digs z.natAbs).getD (j - 1) 0))) Gd.none rfl ?_
      refine aops_end ?_
      refine hK13 _ ?_
      refine awp_block ?_
      refine awp_loopR (fun κ σ => ∃ (k : Nat), ∃ (out2 : List Nat), (ndig ((digs z.natAbs).getD (j - 1) 0) ≤ k) ∧ (k ≤ 9) ∧ (¬ j < (digs z.natAbs).length → k = ndig ((digs z.natAbs).getD (j - 1) 0)) ∧ (out2 = out ++ List.replicate (k - ndig ((digs z.natAbs).getD (j - 1) 0)) 48) ∧ (out2.length + ndig ((digs z.natAbs).getD (j - 1) 0) = out.length + k) ∧ (9 - k) = κ ∧ σ = ⟨[(1, (AV.ref 2 (0))), (3, (AV.row 3)), (4, (nm .i64 (j - 1))), (5, (AV.lit (.string (txt (((digs z.natAbs).getD (j - 1) 0 : Nat) : Int))))), (6, (nm .i64 (k)))], [(2, (AO.var 79 [(bp (z < 0)), (AV.sl 1 (ns .u32 (digs (z).natAbs)))])), (3, (AO.row 5 1 (ns .u8 (out2))))]⟩) ⟨_, _, ⟨ndig ((digs z.natAbs).getD (j - 1) 0), _, (Nat.le_refl _), hnd, (fun _ => rfl), (by simp), rfl, rfl, rfl⟩, ?wk2⟩ ?rd2
      case wk2 =>
        exact Wk.sub (And.intro (by exact rfl) (And.intro (by exact rfl) (And.intro (by exact rfl) (And.intro (by first | rfl | (simp)) (And.intro (by first | rfl | exact congrArg (nm _) (by omega) | exact nm_int (by omega) | exact nm_int (by simp [IntKind.wrap, IntKind.bits, IntKind.signed]; omega)) (trivial)))))) (And.intro (by first | rfl | exact row_ns (by simp) | exact congrArg (fun x => some (AO.blk (.stringIter _ x))) (by omega)) (And.intro (by first | rfl | exact row_ns (by simp) | exact congrArg (fun x => some (AO.blk (.stringIter _ x))) (by omega)) (trivial)))
      rintro κ _ ⟨k, out2, hk9, hk10, hk0, hk, hk11, rfl, rfl⟩
      refine awp_seq fun K14 hK14 => ?_
      refine awp_seq fun K15 hK15 => ?_
      refine awp_region rfl ?_
      refine o_move (nm .i64 (k)) Gd.none rfl ?_
      refine n_lss (k) (9) Gd.none rfl rfl ?_
      refine o_move (bp ((k) < (9))) Gd.none rfl ?_
      refine o_splitP (q := (k) < (9)) 36 rfl (fun h4 => ?_) (fun h4 => ?_)
      · refine o_move (nm .i64 (j - 1)) (Gd.yes rfl rfl (decide_eq_true h4)) rfl ?_
        refine o_fieldRef 1 (Gd.yes rfl rfl (decide_eq_true h4)) Wg_tF79_1 rfl rfl ?_
        refine o_loadS (AV.sl 1 (ns .u32 (digs (z).natAbs))) (Gd.yes rfl rfl (decide_eq_true h4)) Wg_tS77 rfl rfl rfl ?_
        refine n_len (digs (z).natAbs) (Gd.yes rfl rfl (decide_eq_true h4)) Wg_tU77 rfl ?_
        refine n_sub ((digs (z).natAbs).length) (1) (Gd.yes rfl rfl (decide_eq_true h4)) rfl rfl (by omega) (by simp only [topOf]; omega) ?_
        refine n_lss (j - 1) (((digs (z).natAbs).length) - (1)) (Gd.yes rfl rfl (decide_eq_true h4)) rfl rfl ?_
        refine o_pickT (b := decide ((k) < (9))) (bp ((j - 1) < (((digs (z).natAbs).length) - (1)))) Gd.none rfl (decide_eq_true h4) rfl ?_
        refine aops_end ?_
        refine hK15 _ ?_
        refine awp_condQ (q := (j - 1) < (((digs (z).natAbs).length) - (1))) rfl (fun h5 => ?_) (fun h5 => ?_)
        · refine awp_skip ?_
          refine hK14 _ ?_
          refine awp_seq fun K16 hK16 => ?_
          refine awp_block ?_
          refine awp_region rfl ?_
          refine o_move (AV.row 3) Gd.none rfl ?_
          refine o_buildSlice 301 (ns .u8 ([48])) [(0, [(nm .u8 (48))])] Gd.none Wg_tE101 rfl Wg_tO5 rfl rfl rfl rfl rfl rfl rfl ?_
          refine n_append 302 (out2) ([48]) [(301, (AO.row 5 1 (ns .u8 ([48])))), (2, (AO.var 79 [(bp (z < 0)), (AV.sl 1 (ns .u32 (digs (z).natAbs)))]))] Gd.none Wg_tE101 Wg_tO5 rfl rfl rfl rfl rfl (by simp only [List.length_append, List.length_cons, List.length_nil]; omega) (by decide) rfl rfl ?_
          refine o_assign (AV.row 302) Gd.none rfl ?_
          refine aops_end ?_
          refine hK16 _ ?_
          refine awp_region rfl ?_
          refine o_move (nm .i64 (k)) Gd.none rfl ?_
          refine n_add (k) (1) Gd.none rfl rfl (by simp only [topOf]; omega) ?_
          refine o_assign (nm .i64 ((k) + (1))) Gd.none rfl ?_
          refine aops_end ?_
          refine ⟨_, _, ?lt, ⟨k + 1, (out2) ++ ([48]), (by omega), (by omega), (fun h => by omega), (by rw [hk, List.append_assoc, ← List.replicate_succ', show k - ndig ((digs z.natAbs).getD (j - 1) 0) + 1 = k + 1 - ndig ((digs z.natAbs).getD (j - 1) 0) by omega]), (by simp only [List.length_append, List.length_cons, List.length_nil]; omega), rfl, rfl⟩, ?wk⟩
          case lt => omega
          case wk => exact Wk.trans (Wk.sub (σ' := ⟨[(1, (AV.ref 2 (0))), (3, (AV.row 302)), (4, (nm .i64 (j - 1))), (5, (AV.lit (.string (txt (((digs z.natAbs).getD (j - 1) 0 : Nat) : Int))))), (6, (nm .i64 ((k) + (1))))], [(2, (AO.var 79 [(bp (z < 0)), (AV.sl 1 (ns .u32 (digs (z).natAbs)))])), (302, (AO.row 5 1 (ns .u8 ((out2) ++ ([48])))))]⟩) (And.intro rfl (And.intro rfl (And.intro rfl (And.intro rfl (And.intro rfl (trivial)))))) (And.intro rfl (And.intro rfl (trivial)))) (Wk.trans (Wk.ren (id := 302) (id' := 3) rfl) (Wk.sub (And.intro (by exact rfl) (And.intro (by first | rfl | (simp)) (And.intro (by exact rfl) (And.intro (by exact rfl) (And.intro (by first | rfl | exact congrArg (nm _) (by omega) | exact nm_int (by omega) | exact nm_int (by simp [IntKind.wrap, IntKind.bits, IntKind.signed]; omega)) (trivial)))))) (And.intro (by first | rfl | exact row_ns (by simp) | exact congrArg (fun x => some (AO.blk (.stringIter _ x))) (by omega)) (And.intro (by first | rfl | exact row_ns (by simp) | exact congrArg (fun x => some (AO.blk (.stringIter _ x))) (by omega)) (trivial)))))
        · refine awp_exit ?_
          refine hK12 _ ?_
          refine awp_region rfl ?_
          refine o_move (AV.row 3) Gd.none rfl ?_
          refine o_move (AV.lit (.string (txt (((digs z.natAbs).getD (j - 1) 0 : Nat) : Int)))) Gd.none rfl ?_
          refine n_appendS 301 (out2) (txt (((digs z.natAbs).getD (j - 1) 0 : Nat) : Int)) [(2, (AO.var 79 [(bp (z < 0)), (AV.sl 1 (ns .u32 (digs (z).natAbs)))]))] Gd.none Wg_tE101 Wg_tT9 Wg_tW5 rfl rfl rfl (by rw [htsz]; omega) rfl rfl ?_
          refine o_assign (AV.row 301) Gd.none rfl ?_
          refine aops_end ?_
          refine hK10 _ ?_
          refine awp_region rfl ?_
          refine o_move (nm .i64 (j - 1)) Gd.none rfl ?_
          refine o_sub (a := (((j - 1 : Nat) : Int))) (c := (((1 : Nat) : Int))) Gd.none rfl rfl (by exact wrap64 (by omega) (by omega)) ?_
          refine o_assign (AV.lit (.int .i64 ((((j - 1 : Nat) : Int)) - (((1 : Nat) : Int))))) Gd.none rfl ?_
          refine aops_end ?_
          have hk2 : out2 = if j < (digs z.natAbs).length then out ++ List.replicate (9 - ndig ((digs z.natAbs).getD (j - 1) 0)) 48 else out := by
            rw [hk]
            by_cases hj2 : j < (digs z.natAbs).length
            · rw [if_pos hj2, show k = 9 by omega]
            · rw [if_neg hj2, hk0 hj2]; simp
          refine ⟨_, _, ?lt, ⟨j - 1, (out2) ++ byts (txt (((digs z.natAbs).getD (j - 1) 0 : Nat) : Int)), (if j < (digs z.natAbs).length then body ++ List.replicate (9 - ndig ((digs z.natAbs).getD (j - 1) 0)) 48 else body) ++ txtL ((digs z.natAbs).getD (j - 1) 0 : Nat), (by omega), (str_step (by omega) hj hb), (by rw [hk2, ho, byts_txt]; split <;> simp [*]), (by simp only [List.length_append, byts_len, htsz]; omega), rfl, rfl⟩, ?wk⟩
          case lt => omega
          case wk => exact Wk.trans (Wk.sub (σ' := ⟨[(1, (AV.ref 2 (0))), (3, (AV.row 301)), (4, (AV.lit (.int .i64 ((((j - 1 : Nat) : Int)) - (((1 : Nat) : Int))))))], [(2, (AO.var 79 [(bp (z < 0)), (AV.sl 1 (ns .u32 (digs (z).natAbs)))])), (301, (AO.row 5 1 (ns .u8 ((out2) ++ byts (txt (((digs z.natAbs).getD (j - 1) 0 : Nat) : Int))))))]⟩) (And.intro rfl (And.intro rfl (And.intro rfl (trivial)))) (And.intro rfl (And.intro rfl (trivial)))) (Wk.trans (Wk.ren (id := 301) (id' := 3) rfl) (Wk.sub (And.intro (by exact rfl) (And.intro (by first | rfl | (simp)) (And.intro (by first | rfl | exact int_eq (by omega) | exact int_nm (by omega)) (trivial)))) (And.intro (by first | rfl | exact row_ns (by simp) | exact congrArg (fun x => some (AO.blk (.stringIter _ x))) (by omega)) (And.intro (by first | rfl | exact row_ns (by simp) | exact congrArg (fun x => some (AO.blk (.stringIter _ x))) (by omega)) (trivial)))))
      · refine o_skip (b := decide ((k) < (9))) rfl rfl (decide_eq_false h4) ?_
        refine o_skip (b := decide ((k) < (9))) rfl rfl (decide_eq_false h4) ?_
        refine o_skip (b := decide ((k) < (9))) rfl rfl (decide_eq_false h4) ?_
        refine o_skip (b := decide ((k) < (9))) rfl rfl (decide_eq_false h4) ?_
        refine o_skip (b := decide ((k) < (9))) rfl rfl (decide_eq_false h4) ?_
        refine o_skip (b := decide ((k) < (9))) rfl rfl (decide_eq_false h4) ?_
        refine o_pickF (b := decide ((k) < (9))) (AV.lit (.bool false)) Gd.none rfl (decide_eq_false h4) rfl ?_
        refine aops_end ?_
        refine hK15 _ ?_
        refine awp_condB (b := false) rfl (fun hh => absurd (hh.symm.trans rfl) (by decide)) (fun _ => ?_)
        refine awp_exit ?_
        refine hK12 _ ?_
        refine awp_region rfl ?_
        refine o_move (AV.row 3) Gd.none rfl ?_
        refine o_move (AV.lit (.string (txt (((digs z.natAbs).getD (j - 1) 0 : Nat) : Int)))) Gd.none rfl ?_
        refine n_appendS 301 (out2) (txt (((digs z.natAbs).getD (j - 1) 0 : Nat) : Int)) [(2, (AO.var 79 [(bp (z < 0)), (AV.sl 1 (ns .u32 (digs (z).natAbs)))]))] Gd.none Wg_tE101 Wg_tT9 Wg_tW5 rfl rfl rfl (by rw [htsz]; omega) rfl rfl ?_
        refine o_assign (AV.row 301) Gd.none rfl ?_
        refine aops_end ?_
        refine hK10 _ ?_
        refine awp_region rfl ?_
        refine o_move (nm .i64 (j - 1)) Gd.none rfl ?_
        refine o_sub (a := (((j - 1 : Nat) : Int))) (c := (((1 : Nat) : Int))) Gd.none rfl rfl (by exact wrap64 (by omega) (by omega)) ?_
        refine o_assign (AV.lit (.int .i64 ((((j - 1 : Nat) : Int)) - (((1 : Nat) : Int))))) Gd.none rfl ?_
        refine aops_end ?_
        have hk2 : out2 = if j < (digs z.natAbs).length then out ++ List.replicate (9 - ndig ((digs z.natAbs).getD (j - 1) 0)) 48 else out := by
          rw [hk]
          by_cases hj2 : j < (digs z.natAbs).length
          · rw [if_pos hj2, show k = 9 by omega]
          · rw [if_neg hj2, hk0 hj2]; simp
        refine ⟨_, _, ?lt, ⟨j - 1, (out2) ++ byts (txt (((digs z.natAbs).getD (j - 1) 0 : Nat) : Int)), (if j < (digs z.natAbs).length then body ++ List.replicate (9 - ndig ((digs z.natAbs).getD (j - 1) 0)) 48 else body) ++ txtL ((digs z.natAbs).getD (j - 1) 0 : Nat), (by omega), (str_step (by omega) hj hb), (by rw [hk2, ho, byts_txt]; split <;> simp [*]), (by simp only [List.length_append, byts_len, htsz]; omega), rfl, rfl⟩, ?wk⟩
        case lt => omega
        case wk => exact Wk.trans (Wk.sub (σ' := ⟨[(1, (AV.ref 2 (0))), (3, (AV.row 301)), (4, (AV.lit (.int .i64 ((((j - 1 : Nat) : Int)) - (((1 : Nat) : Int))))))], [(2, (AO.var 79 [(bp (z < 0)), (AV.sl 1 (ns .u32 (digs (z).natAbs)))])), (301, (AO.row 5 1 (ns .u8 ((out2) ++ byts (txt (((digs z.natAbs).getD (j - 1) 0 : Nat) : Int))))))]⟩) (And.intro rfl (And.intro rfl (And.intro rfl (trivial)))) (And.intro rfl (And.intro rfl (trivial)))) (Wk.trans (Wk.ren (id := 301) (id' := 3) rfl) (Wk.sub (And.intro (by exact rfl) (And.intro (by first | rfl | (simp)) (And.intro (by first | rfl | exact int_eq (by omega) | exact int_nm (by omega)) (trivial)))) (And.intro (by first | rfl | exact row_ns (by simp) | exact congrArg (fun x => some (AO.blk (.stringIter _ x))) (by omega)) (And.intro (by first | rfl | exact row_ns (by simp) | exact congrArg (fun x => some (AO.blk (.stringIter _ x))) (by omega)) (trivial)))))
    · refine awp_exit ?_
      refine hK6 _ ?_
      refine awp_seq fun K17 hK17 => ?_
      refine awp_region rfl ?_
      refine o_move (AV.row 3) Gd.none rfl ?_
      refine n_strOf (out) Gd.none Wg_tU101 Wg_tQ5 Wg_tT9 rfl rfl ?_
      refine o_assign (AV.lit (.string (strN (out)))) Gd.none rfl ?_
      refine aops_end ?_
      refine hK17 _ ?_
      refine awp_ret ?_
      refine post_ret ⟨[(AV.lit (.string (strN (out))))], And.intro (AV.le_refl _) (trivial), rfl, ?_⟩
      have hj0 : j = 0 := by omega
      subst hj0
      rw [List.drop_zero, val_digs] at hb
      refine congrArg (fun x => AV.lit (.string x)) ?_
      unfold txt txtL
      rw [if_neg (by omega), ho, ho0, hb]

end Go.Proofs.YtbilndahjkimkaaDoor

set_option linter.unusedVariables false
set_option linter.unusedSimpArgs false
namespace Go.Proofs.YtbilndahjkimkaaDoor
open Go Go.Ab Go.Mth
theorem Wh_tT9 : cx.P.underlying 9 = some .string := by kernel_rfl
theorem c_nValid (a : ByteArray) (hsz : a.size ≤ 9223372036854775807) : ECalls cx 47 [(AV.lit (.string (a)))] (.lit (.bool (okS a))) := by
  refine ecalls_of_awp Tryd.func47 (c := _) rfl (Nat.le_of_ble_eq_true rfl) ?_
  show awp cx 50 _ (postF cx Tryd.f47 _) ⟨[(0, (AV.lit (.string (a))))], []⟩
  have hs1 : sgnAt a ≤ 1 := by unfold sgnAt; split <;> omega
  refine awp_seq fun K0 hK0 => ?_
  refine awp_region rfl ?_
  refine o_assign (AV.lit (.bool false)) Gd.none rfl ?_
  refine aops_end ?_
  refine hK0 _ ?_
  refine awp_seq fun K1 hK1 => ?_
  refine awp_seq fun K2 hK2 => ?_
  refine awp_region rfl ?_
  refine o_move (AV.lit (.string (a))) Gd.none rfl ?_
  refine n_lenS (a) Gd.none rfl Wh_tT9 ?_
  refine n_gtr ((a).size) (2001) Gd.none rfl rfl ?_
  refine aops_end ?_
  refine hK2 _ ?_
  refine awp_condQ (q := (2001) < ((a).size)) rfl (fun h1 => ?_) (fun h1 => ?_)
  · refine awp_seq fun K3 hK3 => ?_
    refine awp_region rfl ?_
    refine o_assign (AV.lit (.bool false)) Gd.none rfl ?_
    refine aops_end ?_
    refine hK3 _ ?_
    refine awp_ret ?_
    refine post_ret ⟨[(AV.lit (.bool false))], And.intro (AV.le_refl _) (trivial), rfl, ?_⟩
    refine bl_eq (okS_no fun h => ?_)
    obtain ⟨o1, o2, o3, o4⟩ := h
    first | omega | (have := str_nil.1 (by assumption); omega) | (have e := hb 0 (by omega); rw [Nat.add_zero] at e; omega) | (have e := hb 0 (by omega); have := hng1 (by assumption); rw [Nat.add_zero] at e; omega) | (have e := o4 (sgnAt a + pos) (by omega) (by omega); rw [← hb pos (by omega)] at e; have e2 := utf8_lo (a := b) (pos := pos) (by omega) (by omega); simp only [e2] at *; omega)
  · refine awp_skip ?_
    refine hK1 _ ?_
    refine awp_seqJ (J := fun σ => ∃ (ng : Bool), (ng = true → sgnAt a = 1) ∧ (ng = false → sgnAt a = 0) ∧ (ng = true → 0 < a.size) ∧ True ∧ σ = ⟨[(0, (AV.lit (.string (a)))), (3, (AV.lit (.bool (ng))))], []⟩) ?ja0 ?jb0
    case ja0 =>
      refine awp_region rfl ?_
      refine o_move (AV.lit (.string (a))) Gd.none rfl ?_
      refine o_neqS (a := (a)) (c := (({data := #[]} : ByteArray))) Gd.none rfl rfl ?_
      refine o_move (bp ((a).toList ≠ (({data := #[]} : ByteArray)).toList)) Gd.none rfl ?_
      refine o_splitP (q := (a).toList ≠ (({data := #[]} : ByteArray)).toList) 11 rfl (fun h2 => ?_) (fun h2 => ?_)
      · refine o_move (AV.lit (.string (a))) (Gd.yes rfl rfl (decide_eq_true h2)) rfl ?_
        refine n_indexS (a) (0) (Gd.yes rfl rfl (decide_eq_true h2)) Wh_tT9 rfl rfl (by have := mt str_nil.2 h2; omega) ?_
        refine n_eql (byt (a) (0)) (45) (Gd.yes rfl rfl (decide_eq_true h2)) rfl rfl ?_
        refine o_pickT (b := decide ((a).toList ≠ (({data := #[]} : ByteArray)).toList)) (bp ((byt (a) (0)) = (45))) Gd.none rfl (decide_eq_true h2) rfl ?_
        refine o_assign (bp ((byt (a) (0)) = (45))) Gd.none rfl ?_
        refine aops_end ?_
        have hne := mt str_nil.2 h2
        exact ⟨_, ⟨decide ((byt (a) (0)) = (45)), (fun h => if_pos (of_decide_eq_true h)), (fun h => if_neg (of_decide_eq_false h)), (fun _ => by omega), trivial, rfl⟩, Wk.sub (And.intro (by exact rfl) (And.intro (by first | rfl | (simp)) (trivial))) (trivial)⟩
      · refine o_skip (b := decide ((a).toList ≠ (({data := #[]} : ByteArray)).toList)) rfl rfl (decide_eq_false h2) ?_
        refine o_skip (b := decide ((a).toList ≠ (({data := #[]} : ByteArray)).toList)) rfl rfl (decide_eq_false h2) ?_
        refine o_skip (b := decide ((a).toList ≠ (({data := #[]} : ByteArray)).toList)) rfl rfl (decide_eq_false h2) ?_
        refine o_pickF (b := decide ((a).toList ≠ (({data := #[]} : ByteArray)).toList)) (AV.lit (.bool false)) Gd.none rfl (decide_eq_false h2) rfl ?_
        refine o_assign (AV.lit (.bool false)) Gd.none rfl ?_
        refine aops_end ?_
        have hs : sgnAt a = 0 := if_neg (by rw [byt_nil (str_nil.1 (Decidable.not_not.1 h2))]; decide)
        exact ⟨_, ⟨false, (fun h => by cases h), (fun _ => hs), (fun h => by cases h), trivial, rfl⟩, Wk.sub (And.intro (by exact rfl) (And.intro (by first | rfl | (simp)) (trivial))) (trivial)⟩
    rintro _ ⟨ng, hng1, hng0, hngz, -, rfl⟩
    refine awp_seqJ (J := fun σ => ∃ (b : ByteArray), (b.size = a.size - sgnAt a) ∧ (∀ i, i < b.size → byt b i = byt a (sgnAt a + i)) ∧ True ∧ σ = ⟨[(0, (AV.lit (.string (b)))), (3, (AV.lit (.bool (ng))))], []⟩) ?ja1 ?jb1
    case ja1 =>
      refine awp_seq fun K4 hK4 => ?_
      refine awp_region rfl ?_
      refine o_move (AV.lit (.bool (ng))) Gd.none rfl ?_
      refine aops_end ?_
      refine hK4 _ ?_
      refine awp_condB (b := ng) rfl (fun h3 => ?_) (fun h3 => ?_)
      · refine awp_region rfl ?_
        refine o_move (AV.lit (.string (a))) Gd.none rfl ?_
        refine n_sliceSL (a) (1) ((a).size) Gd.none Wh_tT9 rfl rfl (by have hz := hngz h3; omega) (by rfl) ?_
        refine o_assign (AV.lit (.string ((a).extract (1) ((a).size)))) Gd.none rfl ?_
        refine aops_end ?_
        have hs := hng1 h3
        have hz := hngz h3
        exact ⟨_, ⟨(a).extract (1) ((a).size), (by rw [extract_size a (by omega) (by omega)]; omega), (fun i hi => by rw [extract_size a (by omega) (by omega)] at hi; rw [byt_extract a (by omega) (by omega), hs]), trivial, rfl⟩, Wk.sub (And.intro (by first | rfl | (simp)) (And.intro (by exact rfl) (trivial))) (trivial)⟩
      · refine awp_skip ?_
        have hs := hng0 h3
        exact ⟨_, ⟨a, (by omega), (fun i hi => by rw [hs, Nat.zero_add]), trivial, rfl⟩, Wk.sub (And.intro (by first | rfl | (simp)) (And.intro (by exact rfl) (trivial))) (trivial)⟩
    rintro _ ⟨b, hbs, hb, -, rfl⟩
    refine awp_seq fun K5 hK5 => ?_
    refine awp_seq fun K6 hK6 => ?_
    refine awp_region rfl ?_
    refine o_move (AV.lit (.string (b))) Gd.none rfl ?_
    refine o_eqlS (a := (b)) (c := (({data := #[]} : ByteArray))) Gd.none rfl rfl ?_
    refine o_move (bp ((b).toList = (({data := #[]} : ByteArray)).toList)) Gd.none rfl ?_
    refine o_splitP (q := (b).toList = (({data := #[]} : ByteArray)).toList) 21 rfl (fun h4 => ?_) (fun h4 => ?_)
    · refine o_skip (b := decide ((b).toList = (({data := #[]} : ByteArray)).toList)) rfl rfl (decide_eq_true h4) ?_
      refine o_skip (b := decide ((b).toList = (({data := #[]} : ByteArray)).toList)) rfl rfl (decide_eq_true h4) ?_
      refine o_skip (b := decide ((b).toList = (({data := #[]} : ByteArray)).toList)) rfl rfl (decide_eq_true h4) ?_
      refine o_pickT (b := decide ((b).toList = (({data := #[]} : ByteArray)).toList)) (AV.lit (.bool true)) Gd.none rfl (decide_eq_true h4) rfl ?_
      refine o_move (AV.lit (.bool true)) Gd.none rfl ?_
      refine o_skip (b := true) rfl rfl rfl ?_
      refine o_skip (b := true) rfl rfl rfl ?_
      refine o_skip (b := true) rfl rfl rfl ?_
      refine o_skip (b := true) rfl rfl rfl ?_
      refine o_skipU rfl rfl ?_
      refine o_skipU rfl rfl ?_
      refine o_skipU rfl rfl ?_
      refine o_skipU rfl rfl ?_
      refine o_skipU rfl rfl ?_
      refine o_skipU rfl rfl ?_
      refine o_skip (b := true) rfl rfl rfl ?_
      refine o_pickT (b := true) (AV.lit (.bool true)) Gd.none rfl rfl rfl ?_
      refine aops_end ?_
      refine hK6 _ ?_
      refine awp_condB (b := true) rfl (fun _ => ?_) (fun hh => absurd (hh.symm.trans rfl) (by decide))
      refine awp_seq fun K7 hK7 => ?_
      refine awp_region rfl ?_
      refine o_assign (AV.lit (.bool false)) Gd.none rfl ?_
      refine aops_end ?_
      refine hK7 _ ?_
      refine awp_ret ?_
      refine post_ret ⟨[(AV.lit (.bool false))], And.intro (AV.le_refl _) (trivial), rfl, ?_⟩
      refine bl_eq (okS_no fun h => ?_)
      obtain ⟨o1, o2, o3, o4⟩ := h
      first | omega | (have := str_nil.1 (by assumption); omega) | (have e := hb 0 (by omega); rw [Nat.add_zero] at e; omega) | (have e := hb 0 (by omega); have := hng1 (by assumption); rw [Nat.add_zero] at e; omega) | (have e := o4 (sgnAt a + pos) (by omega) (by omega); rw [← hb pos (by omega)] at e; have e2 := utf8_lo (a := b) (pos := pos) (by omega) (by omega); simp only [e2] at *; omega)
    · have hne := mt str_nil.2 h4
      refine o_move (AV.lit (.string (b))) (Gd.yes rfl rfl (decide_eq_false h4)) rfl ?_
      refine n_lenS (b) (Gd.yes rfl rfl (decide_eq_false h4)) rfl Wh_tT9 ?_
      refine n_gtr ((b).size) (2000) (Gd.yes rfl rfl (decide_eq_false h4)) rfl rfl ?_
      refine o_pickF (b := decide ((b).toList = (({data := #[]} : ByteArray)).toList)) (bp ((2000) < ((b).size))) Gd.none rfl (decide_eq_false h4) rfl ?_
      refine o_move (bp ((2000) < ((b).size))) Gd.none rfl ?_
      refine o_splitP (q := (2000) < ((b).size)) 26 rfl (fun h5 => ?_) (fun h5 => ?_)
      · refine o_skip (b := decide ((2000) < ((b).size))) rfl rfl (decide_eq_true h5) ?_
        refine o_skip (b := decide ((2000) < ((b).size))) rfl rfl (decide_eq_true h5) ?_
        refine o_skip (b := decide ((2000) < ((b).size))) rfl rfl (decide_eq_true h5) ?_
        refine o_skip (b := decide ((2000) < ((b).size))) rfl rfl (decide_eq_true h5) ?_
        refine o_skipU rfl rfl ?_
        refine o_skipU rfl rfl ?_
        refine o_skipU rfl rfl ?_
        refine o_skipU rfl rfl ?_
        refine o_skipU rfl rfl ?_
        refine o_skipU rfl rfl ?_
        refine o_skip (b := decide ((2000) < ((b).size))) rfl rfl (decide_eq_true h5) ?_
        refine o_pickT (b := decide ((2000) < ((b).size))) (AV.lit (.bool true)) Gd.none rfl (decide_eq_true h5) rfl ?_
        refine aops_end ?_
        refine hK6 _ ?_
        refine awp_condB (b := true) rfl (fun _ => ?_) (fun hh => absurd (hh.symm.trans rfl) (by decide))
        refine awp_seq fun K8 hK8 => ?_
        refine awp_region rfl ?_
        refine o_assign (AV.lit (.bool false)) Gd.none rfl ?_
        refine aops_end ?_
        refine hK8 _ ?_
        refine awp_ret ?_
        refine post_ret ⟨[(AV.lit (.bool false))], And.intro (AV.le_refl _) (trivial), rfl, ?_⟩
        refine bl_eq (okS_no fun h => ?_)
        obtain ⟨o1, o2, o3, o4⟩ := h
        first | omega | (have := str_nil.1 (by assumption); omega) | (have e := hb 0 (by omega); rw [Nat.add_zero] at e; omega) | (have e := hb 0 (by omega); have := hng1 (by assumption); rw [Nat.add_zero] at e; omega) | (have e := o4 (sgnAt a + pos) (by omega) (by omega); rw [← hb pos (by omega)] at e; have e2 := utf8_lo (a := b) (pos := pos) (by omega) (by omega); simp only [e2] at *; omega)
      · refine o_move (AV.lit (.string (b))) (Gd.yes rfl rfl (decide_eq_false h5)) rfl ?_
        refine n_indexS (b) (0) (Gd.yes rfl rfl (decide_eq_false h5)) Wh_tT9 rfl rfl (by omega) ?_
        refine n_eql (byt (b) (0)) (48) (Gd.yes rfl rfl (decide_eq_false h5)) rfl rfl ?_
        refine o_move (bp ((byt (b) (0)) = (48))) (Gd.yes rfl rfl (decide_eq_false h5)) rfl ?_
        refine o_splitP (q := (byt (b) (0)) = (48)) 30 rfl (fun h6 => ?_) (fun h6 => ?_)
        · refine o_move (AV.lit (.string (b))) (Gd.yes rfl rfl (decide_eq_true h6)) rfl ?_
          refine n_lenS (b) (Gd.yes rfl rfl (decide_eq_true h6)) rfl Wh_tT9 ?_
          refine n_gtr ((b).size) (1) (Gd.yes rfl rfl (decide_eq_true h6)) rfl rfl ?_
          refine o_move (bp ((1) < ((b).size))) (Gd.yes rfl rfl (decide_eq_true h6)) rfl ?_
          refine o_splitP (q := (1) < ((b).size)) 34 rfl (fun h7 => ?_) (fun h7 => ?_)
          · refine o_skip (b := decide ((1) < ((b).size))) rfl rfl (decide_eq_true h7) ?_
            refine o_pickT (b := decide ((1) < ((b).size))) (AV.lit (.bool true)) (Gd.yes rfl rfl (decide_eq_true h6)) rfl (decide_eq_true h7) rfl ?_
            refine o_pickT (b := decide ((byt (b) (0)) = (48))) (AV.lit (.bool true)) (Gd.yes rfl rfl (decide_eq_false h5)) rfl (decide_eq_true h6) rfl ?_
            refine o_pickF (b := decide ((2000) < ((b).size))) (AV.lit (.bool true)) Gd.none rfl (decide_eq_false h5) rfl ?_
            refine aops_end ?_
            refine hK6 _ ?_
            refine awp_condB (b := true) rfl (fun _ => ?_) (fun hh => absurd (hh.symm.trans rfl) (by decide))
            refine awp_seq fun K9 hK9 => ?_
            refine awp_region rfl ?_
            refine o_assign (AV.lit (.bool false)) Gd.none rfl ?_
            refine aops_end ?_
            refine hK9 _ ?_
            refine awp_ret ?_
            refine post_ret ⟨[(AV.lit (.bool false))], And.intro (AV.le_refl _) (trivial), rfl, ?_⟩
            refine bl_eq (okS_no fun h => ?_)
            obtain ⟨o1, o2, o3, o4⟩ := h
            first | omega | (have := str_nil.1 (by assumption); omega) | (have e := hb 0 (by omega); rw [Nat.add_zero] at e; omega) | (have e := hb 0 (by omega); have := hng1 (by assumption); rw [Nat.add_zero] at e; omega) | (have e := o4 (sgnAt a + pos) (by omega) (by omega); rw [← hb pos (by omega)] at e; have e2 := utf8_lo (a := b) (pos := pos) (by omega) (by omega); simp only [e2] at *; omega)
          · refine o_move (AV.lit (.bool (ng))) (Gd.yes rfl rfl (decide_eq_false h7)) rfl ?_
            refine o_pickF (b := decide ((1) < ((b).size))) (AV.lit (.bool (ng))) (Gd.yes rfl rfl (decide_eq_true h6)) rfl (decide_eq_false h7) rfl ?_
            refine o_pickT (b := decide ((byt (b) (0)) = (48))) (AV.lit (.bool (ng))) (Gd.yes rfl rfl (decide_eq_false h5)) rfl (decide_eq_true h6) rfl ?_
            refine o_pickF (b := decide ((2000) < ((b).size))) (AV.lit (.bool (ng))) Gd.none rfl (decide_eq_false h5) rfl ?_
            refine aops_end ?_
            refine hK6 _ ?_
            refine awp_condB (b := ng) rfl (fun h8 => ?_) (fun h8 => ?_)
            · refine awp_seq fun K10 hK10 => ?_
              refine awp_region rfl ?_
              refine o_assign (AV.lit (.bool false)) Gd.none rfl ?_
              refine aops_end ?_
              refine hK10 _ ?_
              refine awp_ret ?_
              refine post_ret ⟨[(AV.lit (.bool false))], And.intro (AV.le_refl _) (trivial), rfl, ?_⟩
              refine bl_eq (okS_no fun h => ?_)
              obtain ⟨o1, o2, o3, o4⟩ := h
              first | omega | (have := str_nil.1 (by assumption); omega) | (have e := hb 0 (by omega); rw [Nat.add_zero] at e; omega) | (have e := hb 0 (by omega); have := hng1 (by assumption); rw [Nat.add_zero] at e; omega) | (have e := o4 (sgnAt a + pos) (by omega) (by omega); rw [← hb pos (by omega)] at e; have e2 := utf8_lo (a := b) (pos := pos) (by omega) (by omega); simp only [e2] at *; omega)
            · refine awp_skip ?_
              refine hK5 _ ?_
              refine awp_seq fun K11 hK11 => ?_
              refine awp_seq fun K12 hK12 => ?_
              refine awp_region rfl ?_
              refine o_move (AV.lit (.string (b))) Gd.none rfl ?_
              refine o_iterNew 201 Gd.none Wh_tT9 rfl rfl ?_
              refine aops_end ?_
              refine hK12 _ ?_
              refine awp_block ?_
              refine awp_loopR (fun κ σ => ∃ (pos : Nat), (pos ≤ b.size) ∧ (∀ k, k < pos → 48 ≤ byt b k ∧ byt b k ≤ 57) ∧ (b.size - pos) = κ ∧ σ = ⟨[(40, (AV.ref 201 (0)))], [(201, (AO.blk (.stringIter (b) (pos))))]⟩) ⟨_, _, ⟨0, (by omega), (fun k hk => by omega), rfl, rfl⟩, ?wk2⟩ ?rd2
              case wk2 =>
                exact Wk.sub (And.intro (by exact rfl) (trivial)) (And.intro (by first | rfl | exact row_ns (by simp) | exact congrArg (fun x => some (AO.blk (.stringIter _ x))) (by omega)) (trivial))
              rintro κ _ ⟨pos, hp, hv, rfl, rfl⟩
              refine awp_seq fun K13 hK13 => ?_
              refine awp_region rfl ?_
              refine aops_em (pos < (b).size) (fun h9 => ?_) (fun h9 => ?_)
              · refine o_iterNext (((Utf8.decode (b) (pos)).1 : Int)) (pos + (Utf8.decode (b) (pos)).2) [(201, (AO.blk (.stringIter (b) (pos + (Utf8.decode (b) (pos)).2))))] Gd.none rfl rfl h9 rfl rfl rfl ?_
                refine o_extract (AV.lit (.bool true)) Gd.none rfl rfl ?_
                refine aops_end ?_
                refine hK13 _ ?_
                refine awp_seq fun K14 hK14 => ?_
                refine awp_condB (b := true) rfl (fun _ => ?_) (fun hh => absurd (hh.symm.trans rfl) (by decide))
                refine awp_skip ?_
                refine hK14 _ ?_
                refine awp_block ?_
                refine awp_seq fun K15 hK15 => ?_
                refine awp_region rfl ?_
                refine o_extract (AV.lit (.int .i32 (((Utf8.decode (b) (pos)).1 : Int)))) Gd.none rfl rfl ?_
                refine o_assign (AV.lit (.int .i32 (((Utf8.decode (b) (pos)).1 : Int)))) Gd.none rfl ?_
                refine aops_end ?_
                refine hK15 _ ?_
                refine awp_seq fun K16 hK16 => ?_
                refine awp_region rfl ?_
                refine o_move (AV.lit (.int .i32 (((Utf8.decode (b) (pos)).1 : Int)))) Gd.none rfl ?_
                refine o_lss (a := (((Utf8.decode (b) (pos)).1 : Int))) (c := (((48 : Nat) : Int))) Gd.none rfl rfl ?_
                refine o_move (bp ((((Utf8.decode (b) (pos)).1 : Int)) < (((48 : Nat) : Int)))) Gd.none rfl ?_
                refine o_splitP (q := (((Utf8.decode (b) (pos)).1 : Int)) < (((48 : Nat) : Int))) 46 rfl (fun h10 => ?_) (fun h10 => ?_)
                · refine o_skip (b := decide ((((Utf8.decode (b) (pos)).1 : Int)) < (((48 : Nat) : Int)))) rfl rfl (decide_eq_true h10) ?_
                  refine o_skip (b := decide ((((Utf8.decode (b) (pos)).1 : Int)) < (((48 : Nat) : Int)))) rfl rfl (decide_eq_true h10) ?_
                  refine o_pickT (b := decide ((((Utf8.decode (b) (pos)).1 : Int)) < (((48 : Nat) : Int)))) (AV.lit (.bool true)) Gd.none rfl (decide_eq_true h10) rfl ?_
                  refine aops_end ?_
                  refine hK16 _ ?_
                  refine awp_condB (b := true) rfl (fun _ => ?_) (fun hh => absurd (hh.symm.trans rfl) (by decide))
                  refine awp_seq fun K17 hK17 => ?_
                  refine awp_region rfl ?_
                  refine o_assign (AV.lit (.bool false)) Gd.none rfl ?_
                  refine aops_end ?_
                  refine hK17 _ ?_
                  refine awp_ret ?_
                  refine post_ret ⟨[(AV.lit (.bool false))], And.intro (AV.le_refl _) (trivial), rfl, ?_⟩
                  refine bl_eq (okS_no fun h => ?_)
                  obtain ⟨o1, o2, o3, o4⟩ := h
                  first | omega | (have := str_nil.1 (by assumption); omega) | (have e := hb 0 (by omega); rw [Nat.add_zero] at e; omega) | (have e := hb 0 (by omega); have := hng1 (by assumption); rw [Nat.add_zero] at e; omega) | (have e := o4 (sgnAt a + pos) (by omega) (by omega); rw [← hb pos (by omega)] at e; have e2 := utf8_lo (a := b) (pos := pos) (by omega) (by omega); simp only [e2] at *; omega)
                · refine o_move (AV.lit (.int .i32 (((Utf8.decode (b) (pos)).1 : Int)))) (Gd.yes rfl rfl (decide_eq_false h10)) rfl ?_
                  refine o_gtr (a := (((Utf8.decode (b) (pos)).1 : Int))) (c := (((57 : Nat) : Int))) (Gd.yes rfl rfl (decide_eq_false h10)) rfl rfl ?_
                  refine o_pickF (b := decide ((((Utf8.decode (b) (pos)).1 : Int)) < (((48 : Nat) : Int)))) (bp ((((57 : Nat) : Int)) < (((Utf8.decode (b) (pos)).1 : Int)))) Gd.none rfl (decide_eq_false h10) rfl ?_
                  refine aops_end ?_
                  refine hK16 _ ?_
                  refine awp_condQ (q := (((57 : Nat) : Int)) < (((Utf8.decode (b) (pos)).1 : Int))) rfl (fun h11 => ?_) (fun h11 => ?_)
                  · refine awp_seq fun K18 hK18 => ?_
                    refine awp_region rfl ?_
                    refine o_assign (AV.lit (.bool false)) Gd.none rfl ?_
                    refine aops_end ?_
                    refine hK18 _ ?_
                    refine awp_ret ?_
                    refine post_ret ⟨[(AV.lit (.bool false))], And.intro (AV.le_refl _) (trivial), rfl, ?_⟩
                    refine bl_eq (okS_no fun h => ?_)
                    obtain ⟨o1, o2, o3, o4⟩ := h
                    first | omega | (have := str_nil.1 (by assumption); omega) | (have e := hb 0 (by omega); rw [Nat.add_zero] at e; omega) | (have e := hb 0 (by omega); have := hng1 (by assumption); rw [Nat.add_zero] at e; omega) | (have e := o4 (sgnAt a + pos) (by omega) (by omega); rw [← hb pos (by omega)] at e; have e2 := utf8_lo (a := b) (pos := pos) (by omega) (by omega); simp only [e2] at *; omega)
                  · refine awp_skip ?_
                    have hu := utf8_dig (a := b) (pos := pos) (by assumption) (by omega)
                    simp only [hu] at *
                    refine ⟨_, _, ?lt, ⟨pos + 1, (by omega), (fun k hk => by by_cases e : k = pos; subst e; omega; exact hv k (by omega)), rfl, rfl⟩, ?wk⟩
                    case lt => omega
                    case wk => exact Wk.sub (And.intro (by exact rfl) (trivial)) (And.intro (by first | rfl | exact row_ns (by simp) | exact congrArg (fun x => some (AO.blk (.stringIter _ x))) (by omega)) (trivial))
              · refine o_iterEnd Gd.none rfl rfl h9 ?_
                refine o_extract (AV.lit (.bool false)) Gd.none rfl rfl ?_
                refine aops_end ?_
                refine hK13 _ ?_
                refine awp_seq fun K19 hK19 => ?_
                refine awp_condB (b := false) rfl (fun hh => absurd (hh.symm.trans rfl) (by decide)) (fun _ => ?_)
                refine awp_exit ?_
                refine hK11 _ ?_
                refine awp_seq fun K20 hK20 => ?_
                refine awp_region rfl ?_
                refine o_assign (AV.lit (.bool true)) Gd.none rfl ?_
                refine aops_end ?_
                refine hK20 _ ?_
                refine awp_ret ?_
                refine post_ret ⟨[(AV.lit (.bool true))], And.intro (AV.le_refl _) (trivial), rfl, ?_⟩
                have e0 := hb 0 (by omega)
                rw [Nat.add_zero] at e0
                refine bl_eq (okS_yes ⟨by omega, by omega, fun hh => ?_, fun i hi1 hi2 => ?_⟩)
                · first | omega | (have := hng0 (by assumption); omega)
                · have := hv (i - sgnAt a) (by omega)
                  rw [hb _ (by omega), show sgnAt a + (i - sgnAt a) = i by omega] at this
                  exact this
        · refine o_skip (b := decide ((byt (b) (0)) = (48))) rfl rfl (decide_eq_false h6) ?_
          refine o_skip (b := decide ((byt (b) (0)) = (48))) rfl rfl (decide_eq_false h6) ?_
          refine o_skip (b := decide ((byt (b) (0)) = (48))) rfl rfl (decide_eq_false h6) ?_
          refine o_skip (b := decide ((byt (b) (0)) = (48))) rfl rfl (decide_eq_false h6) ?_
          refine o_skipU rfl rfl ?_
          refine o_skip (b := decide ((byt (b) (0)) = (48))) rfl rfl (decide_eq_false h6) ?_
          refine o_pickF (b := decide ((byt (b) (0)) = (48))) (AV.lit (.bool false)) (Gd.yes rfl rfl (decide_eq_false h5)) rfl (decide_eq_false h6) rfl ?_
          refine o_pickF (b := decide ((2000) < ((b).size))) (AV.lit (.bool false)) Gd.none rfl (decide_eq_false h5) rfl ?_
          refine aops_end ?_
          refine hK6 _ ?_
          refine awp_condB (b := false) rfl (fun hh => absurd (hh.symm.trans rfl) (by decide)) (fun _ => ?_)
          refine awp_skip ?_
          refine hK5 _ ?_
          refine awp_seq fun K21 hK21 => ?_
          refine awp_seq fun K22 hK22 => ?_
          refine awp_region rfl ?_
          refine o_move (AV.lit (.string (b))) Gd.none rfl ?_
          refine o_iterNew 201 Gd.none Wh_tT9 rfl rfl ?_
          refine aops_end ?_
          refine hK22 _ ?_
          refine awp_block ?_
          refine awp_loopR (fun κ σ => ∃ (pos : Nat), (pos ≤ b.size) ∧ (∀ k, k < pos → 48 ≤ byt b k ∧ byt b k ≤ 57) ∧ (b.size - pos) = κ ∧ σ = ⟨[(40, (AV.ref 201 (0)))], [(201, (AO.blk (.stringIter (b) (pos))))]⟩) ⟨_, _, ⟨0, (by omega), (fun k hk => by omega), rfl, rfl⟩, ?wk3⟩ ?rd3
          case wk3 =>
            exact Wk.sub (And.intro (by exact rfl) (trivial)) (And.intro (by first | rfl | exact row_ns (by simp) | exact congrArg (fun x => some (AO.blk (.stringIter _ x))) (by omega)) (trivial))
          rintro κ _ ⟨pos, hp, hv, rfl, rfl⟩
          refine awp_seq fun K23 hK23 => ?_
          refine awp_region rfl ?_
          refine aops_em (pos < (b).size) (fun h12 => ?_) (fun h12 => ?_)
          · refine o_iterNext (((Utf8.decode (b) (pos)).1 : Int)) (pos + (Utf8.decode (b) (pos)).2) [(201, (AO.blk (.stringIter (b) (pos + (Utf8.decode (b) (pos)).2))))] Gd.none rfl rfl h12 rfl rfl rfl ?_
            refine o_extract (AV.lit (.bool true)) Gd.none rfl rfl ?_
            refine aops_end ?_
            refine hK23 _ ?_
            refine awp_seq fun K24 hK24 => ?_
            refine awp_condB (b := true) rfl (fun _ => ?_) (fun hh => absurd (hh.symm.trans rfl) (by decide))
            refine awp_skip ?_
            refine hK24 _ ?_
            refine awp_block ?_
            refine awp_seq fun K25 hK25 => ?_
            refine awp_region rfl ?_
            refine o_extract (AV.lit (.int .i32 (((Utf8.decode (b) (pos)).1 : Int)))) Gd.none rfl rfl ?_
            refine o_assign (AV.lit (.int .i32 (((Utf8.decode (b) (pos)).1 : Int)))) Gd.none rfl ?_
            refine aops_end ?_
            refine hK25 _ ?_
            refine awp_seq fun K26 hK26 => ?_
            refine awp_region rfl ?_
            refine o_move (AV.lit (.int .i32 (((Utf8.decode (b) (pos)).1 : Int)))) Gd.none rfl ?_
            refine o_lss (a := (((Utf8.decode (b) (pos)).1 : Int))) (c := (((48 : Nat) : Int))) Gd.none rfl rfl ?_
            refine o_move (bp ((((Utf8.decode (b) (pos)).1 : Int)) < (((48 : Nat) : Int)))) Gd.none rfl ?_
            refine o_splitP (q := (((Utf8.decode (b) (pos)).1 : Int)) < (((48 : Nat) : Int))) 46 rfl (fun h13 => ?_) (fun h13 => ?_)
            · refine o_skip (b := decide ((((Utf8.decode (b) (pos)).1 : Int)) < (((48 : Nat) : Int)))) rfl rfl (decide_eq_true h13) ?_
              refine o_skip (b := decide ((((Utf8.decode (b) (pos)).1 : Int)) < (((48 : Nat) : Int)))) rfl rfl (decide_eq_true h13) ?_
              refine o_pickT (b := decide ((((Utf8.decode (b) (pos)).1 : Int)) < (((48 : Nat) : Int)))) (AV.lit (.bool true)) Gd.none rfl (decide_eq_true h13) rfl ?_
              refine aops_end ?_
              refine hK26 _ ?_
              refine awp_condB (b := true) rfl (fun _ => ?_) (fun hh => absurd (hh.symm.trans rfl) (by decide))
              refine awp_seq fun K27 hK27 => ?_
              refine awp_region rfl ?_
              refine o_assign (AV.lit (.bool false)) Gd.none rfl ?_
              refine aops_end ?_
              refine hK27 _ ?_
              refine awp_ret ?_
              refine post_ret ⟨[(AV.lit (.bool false))], And.intro (AV.le_refl _) (trivial), rfl, ?_⟩
              refine bl_eq (okS_no fun h => ?_)
              obtain ⟨o1, o2, o3, o4⟩ := h
              first | omega | (have := str_nil.1 (by assumption); omega) | (have e := hb 0 (by omega); rw [Nat.add_zero] at e; omega) | (have e := hb 0 (by omega); have := hng1 (by assumption); rw [Nat.add_zero] at e; omega) | (have e := o4 (sgnAt a + pos) (by omega) (by omega); rw [← hb pos (by omega)] at e; have e2 := utf8_lo (a := b) (pos := pos) (by omega) (by omega); simp only [e2] at *; omega)
            · refine o_move (AV.lit (.int .i32 (((Utf8.decode (b) (pos)).1 : Int)))) (Gd.yes rfl rfl (decide_eq_false h13)) rfl ?_
              refine o_gtr (a := (((Utf8.decode (b) (pos)).1 : Int))) (c := (((57 : Nat) : Int))) (Gd.yes rfl rfl (decide_eq_false h13)) rfl rfl ?_
              refine o_pickF (b := decide ((((Utf8.decode (b) (pos)).1 : Int)) < (((48 : Nat) : Int)))) (bp ((((57 : Nat) : Int)) < (((Utf8.decode (b) (pos)).1 : Int)))) Gd.none rfl (decide_eq_false h13) rfl ?_
              refine aops_end ?_
              refine hK26 _ ?_
              refine awp_condQ (q := (((57 : Nat) : Int)) < (((Utf8.decode (b) (pos)).1 : Int))) rfl (fun h14 => ?_) (fun h14 => ?_)
              · refine awp_seq fun K28 hK28 => ?_
                refine awp_region rfl ?_
                refine o_assign (AV.lit (.bool false)) Gd.none rfl ?_
                refine aops_end ?_
                refine hK28 _ ?_
                refine awp_ret ?_
                refine post_ret ⟨[(AV.lit (.bool false))], And.intro (AV.le_refl _) (trivial), rfl, ?_⟩
                refine bl_eq (okS_no fun h => ?_)
                obtain ⟨o1, o2, o3, o4⟩ := h
                first | omega | (have := str_nil.1 (by assumption); omega) | (have e := hb 0 (by omega); rw [Nat.add_zero] at e; omega) | (have e := hb 0 (by omega); have := hng1 (by assumption); rw [Nat.add_zero] at e; omega) | (have e := o4 (sgnAt a + pos) (by omega) (by omega); rw [← hb pos (by omega)] at e; have e2 := utf8_lo (a := b) (pos := pos) (by omega) (by omega); simp only [e2] at *; omega)
              · refine awp_skip ?_
                have hu := utf8_dig (a := b) (pos := pos) (by assumption) (by omega)
                simp only [hu] at *
                refine ⟨_, _, ?lt, ⟨pos + 1, (by omega), (fun k hk => by by_cases e : k = pos; subst e; omega; exact hv k (by omega)), rfl, rfl⟩, ?wk⟩
                case lt => omega
                case wk => exact Wk.sub (And.intro (by exact rfl) (trivial)) (And.intro (by first | rfl | exact row_ns (by simp) | exact congrArg (fun x => some (AO.blk (.stringIter _ x))) (by omega)) (trivial))
          · refine o_iterEnd Gd.none rfl rfl h12 ?_
            refine o_extract (AV.lit (.bool false)) Gd.none rfl rfl ?_
            refine aops_end ?_
            refine hK23 _ ?_
            refine awp_seq fun K29 hK29 => ?_
            refine awp_condB (b := false) rfl (fun hh => absurd (hh.symm.trans rfl) (by decide)) (fun _ => ?_)
            refine awp_exit ?_
            refine hK21 _ ?_
            refine awp_seq fun K30 hK30 => ?_
            refine awp_region rfl ?_
            refine o_assign (AV.lit (.bool true)) Gd.none rfl ?_
            refine aops_end ?_
            refine hK30 _ ?_
            refine awp_ret ?_
            refine post_ret ⟨[(AV.lit (.bool true))], And.intro (AV.le_refl _) (trivial), rfl, ?_⟩
            have e0 := hb 0 (by omega)
            rw [Nat.add_zero] at e0
            refine bl_eq (okS_yes ⟨by omega, by omega, fun hh => ?_, fun i hi1 hi2 => ?_⟩)
            · first | omega | (have := hng0 (by assumption); omega)
            · have := hv (i - sgnAt a) (by omega)
              rw [hb _ (by omega), show sgnAt a + (i - sgnAt a) = i by omega] at this
              exact this

end Go.Proofs.YtbilndahjkimkaaDoor

set_option linter.unusedVariables false
set_option linter.unusedSimpArgs false
namespace Go.Proofs.YtbilndahjkimkaaDoor
open Go Go.Ab Go.Mth
theorem Wf_tS3 : tySc cx.P 3 = true := by kernel_rfl
theorem Wf_tU22 : cx.P.underlying 22 = some (.slice 3) := by kernel_rfl
theorem Wf_tE22 : tyElem cx.P 22 = some (3, 1, 8) := by kernel_rfl
theorem c_gAlike (x y : List Int) : ECalls cx 19 [(AV.sl 1 (is .i64 (x))), (AV.sl 1 (is .i64 (y)))] (bp (x = y)) := by
  refine ecalls_of_awp Tryd.func19 (c := _) rfl (Nat.le_of_ble_eq_true rfl) ?_
  show awp cx 26 _ (postF cx Tryd.f19 _) ⟨[(0, (AV.sl 1 (is .i64 (x)))), (1, (AV.sl 1 (is .i64 (y))))], []⟩
  refine awp_bound (i := 0) rfl fun hb => ?_
  replace hb := is_bnd hb
  refine awp_bound (i := 1) rfl fun hb2 => ?_
  replace hb2 := is_bnd hb2
  refine awp_seq fun K0 hK0 => ?_
  refine awp_region rfl ?_
  refine o_assign (AV.lit (.bool false)) Gd.none rfl ?_
  refine aops_end ?_
  refine hK0 _ ?_
  refine awp_seq fun K1 hK1 => ?_
  refine awp_seq fun K2 hK2 => ?_
  refine awp_region rfl ?_
  refine o_move (AV.sl 1 (is .i64 (x))) Gd.none rfl ?_
  refine i_len (x) Gd.none Wf_tU22 rfl ?_
  refine o_move (AV.sl 1 (is .i64 (y))) Gd.none rfl ?_
  refine i_len (y) Gd.none Wf_tU22 rfl ?_
  refine n_neq ((x).length) ((y).length) Gd.none rfl rfl ?_
  refine aops_end ?_
  refine hK2 _ ?_
  refine awp_condQ (q := ((x).length) ≠ ((y).length)) rfl (fun h1 => ?_) (fun h1 => ?_)
  · refine awp_seq fun K3 hK3 => ?_
    refine awp_region rfl ?_
    refine o_assign (AV.lit (.bool false)) Gd.none rfl ?_
    refine aops_end ?_
    refine hK3 _ ?_
    refine awp_ret ?_
    refine post_ret ⟨[(AV.lit (.bool false))], And.intro (AV.le_refl _) (trivial), rfl, ?_⟩
    exact (bl_bp (b := false) (by constructor <;> intro h <;> first | (exfalso; subst h; exact h1 rfl) | cases h)).symm
  · refine awp_skip ?_
    refine hK1 _ ?_
    refine awp_seq fun K4 hK4 => ?_
    refine awp_seq fun K5 hK5 => ?_
    refine awp_region rfl ?_
    refine o_assign (nm .i64 (0)) Gd.none rfl ?_
    refine aops_end ?_
    refine hK5 _ ?_
    refine awp_block ?_
    refine awp_loopR (fun κ σ => ∃ (i : Nat), (i ≤ x.length) ∧ (∀ k, k < i → x.getD k 0 = y.getD k 0) ∧ (x.length - i) = κ ∧ σ = ⟨[(0, (AV.sl 1 (is .i64 (x)))), (1, (AV.sl 1 (is .i64 (y)))), (5, (nm .i64 (i)))], []⟩) ⟨_, _, ⟨0, (by omega), (fun k hk => by omega), rfl, rfl⟩, ?wk0⟩ ?rd0
    case wk0 =>
      exact Wk.sub (And.intro (by exact rfl) (And.intro (by exact rfl) (And.intro (by first | rfl | exact congrArg (nm _) (by omega) | exact nm_int (by omega) | exact nm_int (by simp [IntKind.wrap, IntKind.bits, IntKind.signed]; omega)) (trivial)))) (trivial)
    rintro κ _ ⟨i, hi, hv, rfl, rfl⟩
    refine awp_seq fun K6 hK6 => ?_
    refine awp_seq fun K7 hK7 => ?_
    refine awp_region rfl ?_
    refine o_move (nm .i64 (i)) Gd.none rfl ?_
    refine o_move (AV.sl 1 (is .i64 (x))) Gd.none rfl ?_
    refine i_len (x) Gd.none Wf_tU22 rfl ?_
    refine n_lss (i) ((x).length) Gd.none rfl rfl ?_
    refine aops_end ?_
    refine hK7 _ ?_
    refine awp_condQ (q := (i) < ((x).length)) rfl (fun h2 => ?_) (fun h2 => ?_)
    · refine awp_skip ?_
      refine hK6 _ ?_
      refine awp_seq fun K8 hK8 => ?_
      refine awp_block ?_
      refine awp_seq fun K9 hK9 => ?_
      refine awp_regionD rfl ?_
      refine o_move (AV.sl 1 (is .i64 (x))) Gd.none rfl ?_
      refine o_move (nm .i64 (i)) Gd.none rfl ?_
      refine i_index (x) (i) Gd.none Wf_tE22 rfl rfl (by omega) ?_
      refine i_loadI (x) (i) Gd.none Wf_tS3 rfl (by omega) ?_
      refine o_move (AV.sl 1 (is .i64 (y))) Gd.none rfl ?_
      refine o_move (nm .i64 (i)) Gd.none rfl ?_
      refine i_index (y) (i) Gd.none Wf_tE22 rfl rfl (by omega) ?_
      refine i_loadI (y) (i) Gd.none Wf_tS3 rfl (by omega) ?_
      refine o_neq (a := ((x).getD (i) 0)) (c := ((y).getD (i) 0)) Gd.none rfl rfl ?_
      refine aops_end ⟨by kernel_rfl, ?_⟩
      refine hK9 _ ?_
      refine awp_condQ (q := ((x).getD (i) 0) ≠ ((y).getD (i) 0)) rfl (fun h3 => ?_) (fun h3 => ?_)
      · refine awp_seq fun K10 hK10 => ?_
        refine awp_region rfl ?_
        refine o_assign (AV.lit (.bool false)) Gd.none rfl ?_
        refine aops_end ?_
        refine hK10 _ ?_
        refine awp_ret ?_
        refine post_ret ⟨[(AV.lit (.bool false))], And.intro (AV.le_refl _) (trivial), rfl, ?_⟩
        exact (bl_bp (b := false) (by constructor <;> intro h <;> first | (exfalso; subst h; exact h3 rfl) | cases h)).symm
      · refine awp_skip ?_
        refine hK8 _ ?_
        refine awp_region rfl ?_
        refine o_move (nm .i64 (i)) Gd.none rfl ?_
        refine n_add (i) (1) Gd.none rfl rfl (by simp only [topOf]; omega) ?_
        refine o_assign (nm .i64 ((i) + (1))) Gd.none rfl ?_
        refine aops_end ?_
        refine ⟨_, _, ?lt, ⟨i + 1, (by omega), (fun k hk => by by_cases e : k = i; subst e; omega; exact hv k (by omega)), rfl, rfl⟩, ?wk⟩
        case lt => omega
        case wk => exact Wk.sub (And.intro (by exact rfl) (And.intro (by exact rfl) (And.intro (by first | rfl | exact congrArg (nm _) (by omega) | exact nm_int (by omega) | exact nm_int (by simp [IntKind.wrap, IntKind.bits, IntKind.signed]; omega)) (trivial)))) (trivial)
    · refine awp_exit ?_
      refine hK4 _ ?_
      refine awp_seq fun K11 hK11 => ?_
      refine awp_region rfl ?_
      refine o_assign (AV.lit (.bool true)) Gd.none rfl ?_
      refine aops_end ?_
      refine hK11 _ ?_
      refine awp_ret ?_
      refine post_ret ⟨[(AV.lit (.bool true))], And.intro (AV.le_refl _) (trivial), rfl, ?_⟩
      exact (bl_bp (b := true) ⟨fun _ => list_ext (by omega) (fun k hk => hv k (by omega)), fun _ => rfl⟩).symm

end Go.Proofs.YtbilndahjkimkaaDoor

set_option linter.unusedVariables false
set_option linter.unusedSimpArgs false
namespace Go.Proofs.YtbilndahjkimkaaDoor
open Go Go.Ab Go.Mth
theorem Wi_tF24_0 : tyField cx.P 24 0 = some (0, 3) := by kernel_rfl
theorem Wi_tS3 : tySc cx.P 3 = true := by kernel_rfl
theorem Wi_tF24_1 : tyField cx.P 24 1 = some (1, 22) := by kernel_rfl
theorem Wi_tS22 : tySc cx.P 22 = true := by kernel_rfl
theorem Wi_tU22 : cx.P.underlying 22 = some (.slice 3) := by kernel_rfl
theorem Wi_tF24_2 : tyField cx.P 24 2 = some (2, 22) := by kernel_rfl
theorem Wi_tE22 : tyElem cx.P 22 = some (3, 1, 8) := by kernel_rfl
theorem Wi_tO79 : tyZero cx.P 79 = some [(Go.Value.bool false), (Go.Value.slice none 0 0)] := by kernel_rfl
theorem Wi_tA79 : tyAgg cx.P 79 = some 2 := by kernel_rfl
theorem Wi_tC63 : callable cx.P 63 = true := by kernel_rfl
theorem Wi_tZ79 : tySize cx.P 79 = some 2 := by kernel_rfl
theorem Wi_tC59 : callable cx.P 59 = true := by kernel_rfl
theorem Wi_tC60 : callable cx.P 60 = true := by kernel_rfl
theorem Wi_tC61 : callable cx.P 61 = true := by kernel_rfl
theorem c_sValid (m : MapM) : ECalls cx 46 [(mapV m)] (.lit (.bool (okM m))) := by
  refine ecalls_of_awp Tryd.func46 (c := _) rfl (Nat.le_of_ble_eq_true rfl) ?_
  show awp cx 83 _ (postF cx Tryd.f46 _) ⟨[(0, (mapV m))], []⟩
  refine awp_seq fun K0 hK0 => ?_
  refine awp_region rfl ?_
  refine o_box 2 [(AV.lit (.int .i64 (m.mod))), (AV.sl 1 (is .i64 (m.mul))), (AV.sl 1 (is .i64 (m.add)))] Gd.none rfl rfl ?_
  refine o_assign (AV.lit (.bool false)) Gd.none rfl ?_
  refine aops_end ?_
  refine hK0 _ ?_
  refine awp_seq fun K1 hK1 => ?_
  refine awp_seq fun K2 hK2 => ?_
  refine awp_region rfl ?_
  refine o_fieldRef 0 Gd.none Wi_tF24_0 rfl rfl ?_
  refine o_loadS (AV.lit (.int .i64 (m.mod))) Gd.none Wi_tS3 rfl rfl rfl ?_
  refine o_lss (a := (m.mod)) (c := (((2 : Nat) : Int))) Gd.none rfl rfl ?_
  refine o_move (bp ((m.mod) < (((2 : Nat) : Int)))) Gd.none rfl ?_
  refine o_splitP (q := (m.mod) < (((2 : Nat) : Int))) 7 rfl (fun h1 => ?_) (fun h1 => ?_)
  · refine o_skip (b := decide ((m.mod) < (((2 : Nat) : Int)))) rfl rfl (decide_eq_true h1) ?_
    refine o_skip (b := decide ((m.mod) < (((2 : Nat) : Int)))) rfl rfl (decide_eq_true h1) ?_
    refine o_skip (b := decide ((m.mod) < (((2 : Nat) : Int)))) rfl rfl (decide_eq_true h1) ?_
    refine o_pickT (b := decide ((m.mod) < (((2 : Nat) : Int)))) (AV.lit (.bool true)) Gd.none rfl (decide_eq_true h1) rfl ?_
    refine o_move (AV.lit (.bool true)) Gd.none rfl ?_
    refine o_skip (b := true) rfl rfl rfl ?_
    refine o_skip (b := true) rfl rfl rfl ?_
    refine o_skip (b := true) rfl rfl rfl ?_
    refine o_skip (b := true) rfl rfl rfl ?_
    refine o_skip (b := true) rfl rfl rfl ?_
    refine o_skip (b := true) rfl rfl rfl ?_
    refine o_pickT (b := true) (AV.lit (.bool true)) Gd.none rfl rfl rfl ?_
    refine o_move (AV.lit (.bool true)) Gd.none rfl ?_
    refine o_skip (b := true) rfl rfl rfl ?_
    refine o_skip (b := true) rfl rfl rfl ?_
    refine o_skip (b := true) rfl rfl rfl ?_
    refine o_skip (b := true) rfl rfl rfl ?_
    refine o_skip (b := true) rfl rfl rfl ?_
    refine o_skip (b := true) rfl rfl rfl ?_
    refine o_pickT (b := true) (AV.lit (.bool true)) Gd.none rfl rfl rfl ?_
    refine aops_end ?_
    refine hK2 _ ?_
    refine awp_condB (b := true) rfl (fun _ => ?_) (fun hh => absurd (hh.symm.trans rfl) (by decide))
    refine awp_seq fun K3 hK3 => ?_
    refine awp_region rfl ?_
    refine o_assign (AV.lit (.bool false)) Gd.none rfl ?_
    refine aops_end ?_
    refine hK3 _ ?_
    refine awp_ret ?_
    refine post_ret ⟨[(AV.lit (.bool false))], And.intro (AV.le_refl _) (trivial), rfl, ?_⟩
    refine bl_eq (okM_no fun h => ?_)
    obtain ⟨o1, o2, o3, o4, o5⟩ := h
    first | omega | (have := o5 r (by omega); omega)
  · refine o_fieldRef 0 (Gd.yes rfl rfl (decide_eq_false h1)) Wi_tF24_0 rfl rfl ?_
    refine o_loadS (AV.lit (.int .i64 (m.mod))) (Gd.yes rfl rfl (decide_eq_false h1)) Wi_tS3 rfl rfl rfl ?_
    refine o_gtr (a := (m.mod)) (c := (((12 : Nat) : Int))) (Gd.yes rfl rfl (decide_eq_false h1)) rfl rfl ?_
    refine o_pickF (b := decide ((m.mod) < (((2 : Nat) : Int)))) (bp ((((12 : Nat) : Int)) < (m.mod))) Gd.none rfl (decide_eq_false h1) rfl ?_
    refine o_move (bp ((((12 : Nat) : Int)) < (m.mod))) Gd.none rfl ?_
    refine o_splitP (q := (((12 : Nat) : Int)) < (m.mod)) 12 rfl (fun h2 => ?_) (fun h2 => ?_)
    · refine o_skip (b := decide ((((12 : Nat) : Int)) < (m.mod))) rfl rfl (decide_eq_true h2) ?_
      refine o_skip (b := decide ((((12 : Nat) : Int)) < (m.mod))) rfl rfl (decide_eq_true h2) ?_
      refine o_skip (b := decide ((((12 : Nat) : Int)) < (m.mod))) rfl rfl (decide_eq_true h2) ?_
      refine o_skip (b := decide ((((12 : Nat) : Int)) < (m.mod))) rfl rfl (decide_eq_true h2) ?_
      refine o_skip (b := decide ((((12 : Nat) : Int)) < (m.mod))) rfl rfl (decide_eq_true h2) ?_
      refine o_skip (b := decide ((((12 : Nat) : Int)) < (m.mod))) rfl rfl (decide_eq_true h2) ?_
      refine o_pickT (b := decide ((((12 : Nat) : Int)) < (m.mod))) (AV.lit (.bool true)) Gd.none rfl (decide_eq_true h2) rfl ?_
      refine o_move (AV.lit (.bool true)) Gd.none rfl ?_
      refine o_skip (b := true) rfl rfl rfl ?_
      refine o_skip (b := true) rfl rfl rfl ?_
      refine o_skip (b := true) rfl rfl rfl ?_
      refine o_skip (b := true) rfl rfl rfl ?_
      refine o_skip (b := true) rfl rfl rfl ?_
      refine o_skip (b := true) rfl rfl rfl ?_
      refine o_pickT (b := true) (AV.lit (.bool true)) Gd.none rfl rfl rfl ?_
      refine aops_end ?_
      refine hK2 _ ?_
      refine awp_condB (b := true) rfl (fun _ => ?_) (fun hh => absurd (hh.symm.trans rfl) (by decide))
      refine awp_seq fun K4 hK4 => ?_
      refine awp_region rfl ?_
      refine o_assign (AV.lit (.bool false)) Gd.none rfl ?_
      refine aops_end ?_
      refine hK4 _ ?_
      refine awp_ret ?_
      refine post_ret ⟨[(AV.lit (.bool false))], And.intro (AV.le_refl _) (trivial), rfl, ?_⟩
      refine bl_eq (okM_no fun h => ?_)
      obtain ⟨o1, o2, o3, o4, o5⟩ := h
      first | omega | (have := o5 r (by omega); omega)
    · refine o_fieldRef 1 (Gd.yes rfl rfl (decide_eq_false h2)) Wi_tF24_1 rfl rfl ?_
      refine o_loadS (AV.sl 1 (is .i64 (m.mul))) (Gd.yes rfl rfl (decide_eq_false h2)) Wi_tS22 rfl rfl rfl ?_
      refine i_len (m.mul) (Gd.yes rfl rfl (decide_eq_false h2)) Wi_tU22 rfl ?_
      refine o_fieldRef 0 (Gd.yes rfl rfl (decide_eq_false h2)) Wi_tF24_0 rfl rfl ?_
      refine o_loadS (AV.lit (.int .i64 (m.mod))) (Gd.yes rfl rfl (decide_eq_false h2)) Wi_tS3 rfl rfl rfl ?_
      refine o_neq (a := ((((m.mul).length : Nat) : Int))) (c := (m.mod)) (Gd.yes rfl rfl (decide_eq_false h2)) rfl rfl ?_
      refine o_pickF (b := decide ((((12 : Nat) : Int)) < (m.mod))) (bp (((((m.mul).length : Nat) : Int)) ≠ (m.mod))) Gd.none rfl (decide_eq_false h2) rfl ?_
      refine o_move (bp (((((m.mul).length : Nat) : Int)) ≠ (m.mod))) Gd.none rfl ?_
      refine o_splitP (q := ((((m.mul).length : Nat) : Int)) ≠ (m.mod)) 20 rfl (fun h3 => ?_) (fun h3 => ?_)
      · refine o_skip (b := decide (((((m.mul).length : Nat) : Int)) ≠ (m.mod))) rfl rfl (decide_eq_true h3) ?_
        refine o_skip (b := decide (((((m.mul).length : Nat) : Int)) ≠ (m.mod))) rfl rfl (decide_eq_true h3) ?_
        refine o_skip (b := decide (((((m.mul).length : Nat) : Int)) ≠ (m.mod))) rfl rfl (decide_eq_true h3) ?_
        refine o_skip (b := decide (((((m.mul).length : Nat) : Int)) ≠ (m.mod))) rfl rfl (decide_eq_true h3) ?_
        refine o_skip (b := decide (((((m.mul).length : Nat) : Int)) ≠ (m.mod))) rfl rfl (decide_eq_true h3) ?_
        refine o_skip (b := decide (((((m.mul).length : Nat) : Int)) ≠ (m.mod))) rfl rfl (decide_eq_true h3) ?_
        refine o_pickT (b := decide (((((m.mul).length : Nat) : Int)) ≠ (m.mod))) (AV.lit (.bool true)) Gd.none rfl (decide_eq_true h3) rfl ?_
        refine aops_end ?_
        refine hK2 _ ?_
        refine awp_condB (b := true) rfl (fun _ => ?_) (fun hh => absurd (hh.symm.trans rfl) (by decide))
        refine awp_seq fun K5 hK5 => ?_
        refine awp_region rfl ?_
        refine o_assign (AV.lit (.bool false)) Gd.none rfl ?_
        refine aops_end ?_
        refine hK5 _ ?_
        refine awp_ret ?_
        refine post_ret ⟨[(AV.lit (.bool false))], And.intro (AV.le_refl _) (trivial), rfl, ?_⟩
        refine bl_eq (okM_no fun h => ?_)
        obtain ⟨o1, o2, o3, o4, o5⟩ := h
        first | omega | (have := o5 r (by omega); omega)
      · refine o_fieldRef 2 (Gd.yes rfl rfl (decide_eq_false h3)) Wi_tF24_2 rfl rfl ?_
        refine o_loadS (AV.sl 1 (is .i64 (m.add))) (Gd.yes rfl rfl (decide_eq_false h3)) Wi_tS22 rfl rfl rfl ?_
        refine i_len (m.add) (Gd.yes rfl rfl (decide_eq_false h3)) Wi_tU22 rfl ?_
        refine o_fieldRef 0 (Gd.yes rfl rfl (decide_eq_false h3)) Wi_tF24_0 rfl rfl ?_
        refine o_loadS (AV.lit (.int .i64 (m.mod))) (Gd.yes rfl rfl (decide_eq_false h3)) Wi_tS3 rfl rfl rfl ?_
        refine o_neq (a := ((((m.add).length : Nat) : Int))) (c := (m.mod)) (Gd.yes rfl rfl (decide_eq_false h3)) rfl rfl ?_
        refine o_pickF (b := decide (((((m.mul).length : Nat) : Int)) ≠ (m.mod))) (bp (((((m.add).length : Nat) : Int)) ≠ (m.mod))) Gd.none rfl (decide_eq_false h3) rfl ?_
        refine aops_end ?_
        refine hK2 _ ?_
        refine awp_condQ (q := ((((m.add).length : Nat) : Int)) ≠ (m.mod)) rfl (fun h4 => ?_) (fun h4 => ?_)
        · refine awp_seq fun K6 hK6 => ?_
          refine awp_region rfl ?_
          refine o_assign (AV.lit (.bool false)) Gd.none rfl ?_
          refine aops_end ?_
          refine hK6 _ ?_
          refine awp_ret ?_
          refine post_ret ⟨[(AV.lit (.bool false))], And.intro (AV.le_refl _) (trivial), rfl, ?_⟩
          refine bl_eq (okM_no fun h => ?_)
          obtain ⟨o1, o2, o3, o4, o5⟩ := h
          first | omega | (have := o5 r (by omega); omega)
        · refine awp_skip ?_
          refine hK1 _ ?_
          refine awp_seq fun K7 hK7 => ?_
          refine awp_seq fun K8 hK8 => ?_
          refine awp_region rfl ?_
          refine o_fieldRef 0 Gd.none Wi_tF24_0 rfl rfl ?_
          refine o_loadS (AV.lit (.int .i64 (m.mod))) Gd.none Wi_tS3 rfl rfl rfl ?_
          refine o_move (nm .i64 (0)) Gd.none rfl ?_
          refine aops_end ?_
          refine hK8 _ ?_
          refine awp_block ?_
          refine awp_loopR (fun κ σ => ∃ (r : Nat), ((r : Int) ≤ m.mod) ∧ (∀ i : Nat, i < r → 1 ≤ m.mul.getD i 0 ∧ m.mul.getD i 0 ≤ 999 ∧ -999999 ≤ m.add.getD i 0 ∧ m.add.getD i 0 ≤ 999999 ∧ Int.tmod (m.mul.getD i 0 * i + m.add.getD i 0) m.mod = 0) ∧ (m.mod.toNat - r) = κ ∧ σ = ⟨[(1, (AV.ref 2 (0))), (29, (AV.lit (.int .i64 (m.mod)))), (30, (nm .i64 (r)))], [(2, (AO.var 24 [(AV.lit (.int .i64 (m.mod))), (AV.sl 1 (is .i64 (m.mul))), (AV.sl 1 (is .i64 (m.add)))]))]⟩) ⟨_, _, ⟨0, (by omega), (fun i hi => by omega), rfl, rfl⟩, ?wk0⟩ ?rd0
          case wk0 =>
            exact Wk.sub (And.intro (by exact rfl) (And.intro (by exact rfl) (And.intro (by first | rfl | exact congrArg (nm _) (by omega) | exact nm_int (by omega) | exact nm_int (by simp [IntKind.wrap, IntKind.bits, IntKind.signed]; omega)) (trivial)))) (And.intro (by first | rfl | exact row_ns (by simp) | exact congrArg (fun x => some (AO.blk (.stringIter _ x))) (by omega)) (trivial))
          rintro κ _ ⟨r, hr, hv, rfl, rfl⟩
          refine awp_seq fun K9 hK9 => ?_
          refine awp_region rfl ?_
          refine o_lss (a := (((r : Nat) : Int))) (c := (m.mod)) Gd.none rfl rfl ?_
          refine aops_end ?_
          refine hK9 _ ?_
          refine awp_seq fun K10 hK10 => ?_
          refine awp_condQ (q := (((r : Nat) : Int)) < (m.mod)) rfl (fun h5 => ?_) (fun h5 => ?_)
          · refine awp_skip ?_
            refine hK10 _ ?_
            refine awp_seq fun K11 hK11 => ?_
            refine awp_block ?_
            refine awp_seq fun K12 hK12 => ?_
            refine awp_region rfl ?_
            refine o_move (nm .i64 (r)) Gd.none rfl ?_
            refine o_assign (nm .i64 (r)) Gd.none rfl ?_
            refine aops_end ?_
            refine hK12 _ ?_
            refine awp_seq fun K13 hK13 => ?_
            refine awp_regionD rfl ?_
            refine o_fieldRef 1 Gd.none Wi_tF24_1 rfl rfl ?_
            refine o_loadS (AV.sl 1 (is .i64 (m.mul))) Gd.none Wi_tS22 rfl rfl rfl ?_
            refine o_move (nm .i64 (r)) Gd.none rfl ?_
            refine i_index (m.mul) (r) Gd.none Wi_tE22 rfl rfl (by omega) ?_
            refine i_loadI (m.mul) (r) Gd.none Wi_tS3 rfl (by omega) ?_
            refine o_lss (a := ((m.mul).getD (r) 0)) (c := (((1 : Nat) : Int))) Gd.none rfl rfl ?_
            refine o_move (bp (((m.mul).getD (r) 0) < (((1 : Nat) : Int)))) Gd.none rfl ?_
            refine o_splitP (q := ((m.mul).getD (r) 0) < (((1 : Nat) : Int))) 39 rfl (fun h6 => ?_) (fun h6 => ?_)
            · refine o_skip (b := decide (((m.mul).getD (r) 0) < (((1 : Nat) : Int)))) rfl rfl (decide_eq_true h6) ?_
              refine o_skip (b := decide (((m.mul).getD (r) 0) < (((1 : Nat) : Int)))) rfl rfl (decide_eq_true h6) ?_
              refine o_skip (b := decide (((m.mul).getD (r) 0) < (((1 : Nat) : Int)))) rfl rfl (decide_eq_true h6) ?_
              refine o_skip (b := decide (((m.mul).getD (r) 0) < (((1 : Nat) : Int)))) rfl rfl (decide_eq_true h6) ?_
              refine o_skip (b := decide (((m.mul).getD (r) 0) < (((1 : Nat) : Int)))) rfl rfl (decide_eq_true h6) ?_
              refine o_skip (b := decide (((m.mul).getD (r) 0) < (((1 : Nat) : Int)))) rfl rfl (decide_eq_true h6) ?_
              refine o_pickT (b := decide (((m.mul).getD (r) 0) < (((1 : Nat) : Int)))) (AV.lit (.bool true)) Gd.none rfl (decide_eq_true h6) rfl ?_
              refine o_move (AV.lit (.bool true)) Gd.none rfl ?_
              refine o_skip (b := true) rfl rfl rfl ?_
              refine o_skip (b := true) rfl rfl rfl ?_
              refine o_skip (b := true) rfl rfl rfl ?_
              refine o_skip (b := true) rfl rfl rfl ?_
              refine o_skip (b := true) rfl rfl rfl ?_
              refine o_skip (b := true) rfl rfl rfl ?_
              refine o_pickT (b := true) (AV.lit (.bool true)) Gd.none rfl rfl rfl ?_
              refine o_move (AV.lit (.bool true)) Gd.none rfl ?_
              refine o_skip (b := true) rfl rfl rfl ?_
              refine o_skip (b := true) rfl rfl rfl ?_
              refine o_skip (b := true) rfl rfl rfl ?_
              refine o_skip (b := true) rfl rfl rfl ?_
              refine o_skip (b := true) rfl rfl rfl ?_
              refine o_skip (b := true) rfl rfl rfl ?_
              refine o_pickT (b := true) (AV.lit (.bool true)) Gd.none rfl rfl rfl ?_
              refine o_move (AV.lit (.bool true)) Gd.none rfl ?_
              refine o_skip (b := true) rfl rfl rfl ?_
              refine o_skip (b := true) rfl rfl rfl ?_
              refine o_skip (b := true) rfl rfl rfl ?_
              refine o_skip (b := true) rfl rfl rfl ?_
              refine o_skip (b := true) rfl rfl rfl ?_
              refine o_skip (b := true) rfl rfl rfl ?_
              refine o_skip (b := true) rfl rfl rfl ?_
              refine o_skip (b := true) rfl rfl rfl ?_
              refine o_skip (b := true) rfl rfl rfl ?_
              refine o_skip (b := true) rfl rfl rfl ?_
              refine o_skip (b := true) rfl rfl rfl ?_
              refine o_skip (b := true) rfl rfl rfl ?_
              refine o_skip (b := true) rfl rfl rfl ?_
              refine o_skip (b := true) rfl rfl rfl ?_
              refine o_skip (b := true) rfl rfl rfl ?_
              refine o_skip (b := true) rfl rfl rfl ?_
              refine o_skip (b := true) rfl rfl rfl ?_
              refine o_pickT (b := true) (AV.lit (.bool true)) Gd.none rfl rfl rfl ?_
              refine aops_end ⟨by kernel_rfl, ?_⟩
              refine hK13 _ ?_
              refine awp_condB (b := true) rfl (fun _ => ?_) (fun hh => absurd (hh.symm.trans rfl) (by decide))
              refine awp_seq fun K14 hK14 => ?_
              refine awp_region rfl ?_
              refine o_assign (AV.lit (.bool false)) Gd.none rfl ?_
              refine aops_end ?_
              refine hK14 _ ?_
              refine awp_ret ?_
              refine post_ret ⟨[(AV.lit (.bool false))], And.intro (AV.le_refl _) (trivial), rfl, ?_⟩
              refine bl_eq (okM_no fun h => ?_)
              obtain ⟨o1, o2, o3, o4, o5⟩ := h
              first | omega | (have := o5 r (by omega); omega)
            · refine o_fieldRef 1 (Gd.yes rfl rfl (decide_eq_false h6)) Wi_tF24_1 rfl rfl ?_
              refine o_loadS (AV.sl 1 (is .i64 (m.mul))) (Gd.yes rfl rfl (decide_eq_false h6)) Wi_tS22 rfl rfl rfl ?_
              refine o_move (nm .i64 (r)) (Gd.yes rfl rfl (decide_eq_false h6)) rfl ?_
              refine i_index (m.mul) (r) (Gd.yes rfl rfl (decide_eq_false h6)) Wi_tE22 rfl rfl (by omega) ?_
              refine i_loadI (m.mul) (r) (Gd.yes rfl rfl (decide_eq_false h6)) Wi_tS3 rfl (by omega) ?_
              refine o_gtr (a := ((m.mul).getD (r) 0)) (c := (((999 : Nat) : Int))) (Gd.yes rfl rfl (decide_eq_false h6)) rfl rfl ?_
              refine o_pickF (b := decide (((m.mul).getD (r) 0) < (((1 : Nat) : Int)))) (bp ((((999 : Nat) : Int)) < ((m.mul).getD (r) 0))) Gd.none rfl (decide_eq_false h6) rfl ?_
              refine o_move (bp ((((999 : Nat) : Int)) < ((m.mul).getD (r) 0))) Gd.none rfl ?_
              refine o_splitP (q := (((999 : Nat) : Int)) < ((m.mul).getD (r) 0)) 47 rfl (fun h7 => ?_) (fun h7 => ?_)
              · refine o_skip (b := decide ((((999 : Nat) : Int)) < ((m.mul).getD (r) 0))) rfl rfl (decide_eq_true h7) ?_
                refine o_skip (b := decide ((((999 : Nat) : Int)) < ((m.mul).getD (r) 0))) rfl rfl (decide_eq_true h7) ?_
                refine o_skip (b := decide ((((999 : Nat) : Int)) < ((m.mul).getD (r) 0))) rfl rfl (decide_eq_true h7) ?_
                refine o_skip (b := decide ((((999 : Nat) : Int)) < ((m.mul).getD (r) 0))) rfl rfl (decide_eq_true h7) ?_
                refine o_skip (b := decide ((((999 : Nat) : Int)) < ((m.mul).getD (r) 0))) rfl rfl (decide_eq_true h7) ?_
                refine o_skip (b := decide ((((999 : Nat) : Int)) < ((m.mul).getD (r) 0))) rfl rfl (decide_eq_true h7) ?_
                refine o_pickT (b := decide ((((999 : Nat) : Int)) < ((m.mul).getD (r) 0))) (AV.lit (.bool true)) Gd.none rfl (decide_eq_true h7) rfl ?_
                refine o_move (AV.lit (.bool true)) Gd.none rfl ?_
                refine o_skip (b := true) rfl rfl rfl ?_
                refine o_skip (b := true) rfl rfl rfl ?_
                refine o_skip (b := true) rfl rfl rfl ?_
                refine o_skip (b := true) rfl rfl rfl ?_
                refine o_skip (b := true) rfl rfl rfl ?_
                refine o_skip (b := true) rfl rfl rfl ?_
                refine o_pickT (b := true) (AV.lit (.bool true)) Gd.none rfl rfl rfl ?_
                refine o_move (AV.lit (.bool true)) Gd.none rfl ?_
                refine o_skip (b := true) rfl rfl rfl ?_
                refine o_skip (b := true) rfl rfl rfl ?_
                refine o_skip (b := true) rfl rfl rfl ?_
                refine o_skip (b := true) rfl rfl rfl ?_
                refine o_skip (b := true) rfl rfl rfl ?_
                refine o_skip (b := true) rfl rfl rfl ?_
                refine o_skip (b := true) rfl rfl rfl ?_
                refine o_skip (b := true) rfl rfl rfl ?_
                refine o_skip (b := true) rfl rfl rfl ?_
                refine o_skip (b := true) rfl rfl rfl ?_
                refine o_skip (b := true) rfl rfl rfl ?_
                refine o_skip (b := true) rfl rfl rfl ?_
                refine o_skip (b := true) rfl rfl rfl ?_
                refine o_skip (b := true) rfl rfl rfl ?_
                refine o_skip (b := true) rfl rfl rfl ?_
                refine o_skip (b := true) rfl rfl rfl ?_
                refine o_skip (b := true) rfl rfl rfl ?_
                refine o_pickT (b := true) (AV.lit (.bool true)) Gd.none rfl rfl rfl ?_
                refine aops_end ⟨by kernel_rfl, ?_⟩
                refine hK13 _ ?_
                refine awp_condB (b := true) rfl (fun _ => ?_) (fun hh => absurd (hh.symm.trans rfl) (by decide))
                refine awp_seq fun K15 hK15 => ?_
                refine awp_region rfl ?_
                refine o_assign (AV.lit (.bool false)) Gd.none rfl ?_
                refine aops_end ?_
                refine hK15 _ ?_
                refine awp_ret ?_
                refine post_ret ⟨[(AV.lit (.bool false))], And.intro (AV.le_refl _) (trivial), rfl, ?_⟩
                refine bl_eq (okM_no fun h => ?_)
                obtain ⟨o1, o2, o3, o4, o5⟩ := h
                first | omega | (have := o5 r (by omega); omega)
              · refine o_fieldRef 2 (Gd.yes rfl rfl (decide_eq_false h7)) Wi_tF24_2 rfl rfl ?_
                refine o_loadS (AV.sl 1 (is .i64 (m.add))) (Gd.yes rfl rfl (decide_eq_false h7)) Wi_tS22 rfl rfl rfl ?_
                refine o_move (nm .i64 (r)) (Gd.yes rfl rfl (decide_eq_false h7)) rfl ?_
                refine i_index (m.add) (r) (Gd.yes rfl rfl (decide_eq_false h7)) Wi_tE22 rfl rfl (by omega) ?_
                refine i_loadI (m.add) (r) (Gd.yes rfl rfl (decide_eq_false h7)) Wi_tS3 rfl (by omega) ?_
                refine o_lss (a := ((m.add).getD (r) 0)) (c := ((-999999))) (Gd.yes rfl rfl (decide_eq_false h7)) rfl rfl ?_
                refine o_pickF (b := decide ((((999 : Nat) : Int)) < ((m.mul).getD (r) 0))) (bp (((m.add).getD (r) 0) < ((-999999)))) Gd.none rfl (decide_eq_false h7) rfl ?_
                refine o_move (bp (((m.add).getD (r) 0) < ((-999999)))) Gd.none rfl ?_
                refine o_splitP (q := ((m.add).getD (r) 0) < ((-999999))) 55 rfl (fun h8 => ?_) (fun h8 => ?_)
                · refine o_skip (b := decide (((m.add).getD (r) 0) < ((-999999)))) rfl rfl (decide_eq_true h8) ?_
                  refine o_skip (b := decide (((m.add).getD (r) 0) < ((-999999)))) rfl rfl (decide_eq_true h8) ?_
                  refine o_skip (b := decide (((m.add).getD (r) 0) < ((-999999)))) rfl rfl (decide_eq_true h8) ?_
                  refine o_skip (b := decide (((m.add).getD (r) 0) < ((-999999)))) rfl rfl (decide_eq_true h8) ?_
                  refine o_skip (b := decide (((m.add).getD (r) 0) < ((-999999)))) rfl rfl (decide_eq_true h8) ?_
                  refine o_skip (b := decide (((m.add).getD (r) 0) < ((-999999)))) rfl rfl (decide_eq_true h8) ?_
                  refine o_pickT (b := decide (((m.add).getD (r) 0) < ((-999999)))) (AV.lit (.bool true)) Gd.none rfl (decide_eq_true h8) rfl ?_
                  refine o_move (AV.lit (.bool true)) Gd.none rfl ?_
                  refine o_skip (b := true) rfl rfl rfl ?_
                  refine o_skip (b := true) rfl rfl rfl ?_
                  refine o_skip (b := true) rfl rfl rfl ?_
                  refine o_skip (b := true) rfl rfl rfl ?_
                  refine o_skip (b := true) rfl rfl rfl ?_
                  refine o_skip (b := true) rfl rfl rfl ?_
                  refine o_skip (b := true) rfl rfl rfl ?_
                  refine o_skip (b := true) rfl rfl rfl ?_
                  refine o_skip (b := true) rfl rfl rfl ?_
                  refine o_skip (b := true) rfl rfl rfl ?_
                  refine o_skip (b := true) rfl rfl rfl ?_
                  refine o_skip (b := true) rfl rfl rfl ?_
                  refine o_skip (b := true) rfl rfl rfl ?_
                  refine o_skip (b := true) rfl rfl rfl ?_
                  refine o_skip (b := true) rfl rfl rfl ?_
                  refine o_skip (b := true) rfl rfl rfl ?_
                  refine o_skip (b := true) rfl rfl rfl ?_
                  refine o_pickT (b := true) (AV.lit (.bool true)) Gd.none rfl rfl rfl ?_
                  refine aops_end ⟨by kernel_rfl, ?_⟩
                  refine hK13 _ ?_
                  refine awp_condB (b := true) rfl (fun _ => ?_) (fun hh => absurd (hh.symm.trans rfl) (by decide))
                  refine awp_seq fun K16 hK16 => ?_
                  refine awp_region rfl ?_
                  refine o_assign (AV.lit (.bool false)) Gd.none rfl ?_
                  refine aops_end ?_
                  refine hK16 _ ?_
                  refine awp_ret ?_
                  refine post_ret ⟨[(AV.lit (.bool false))], And.intro (AV.le_refl _) (trivial), rfl, ?_⟩
                  refine bl_eq (okM_no fun h => ?_)
                  obtain ⟨o1, o2, o3, o4, o5⟩ := h
                  first | omega | (have := o5 r (by omega); omega)
                · refine o_fieldRef 2 (Gd.yes rfl rfl (decide_eq_false h8)) Wi_tF24_2 rfl rfl ?_
                  refine o_loadS (AV.sl 1 (is .i64 (m.add))) (Gd.yes rfl rfl (decide_eq_false h8)) Wi_tS22 rfl rfl rfl ?_
                  refine o_move (nm .i64 (r)) (Gd.yes rfl rfl (decide_eq_false h8)) rfl ?_
                  refine i_index (m.add) (r) (Gd.yes rfl rfl (decide_eq_false h8)) Wi_tE22 rfl rfl (by omega) ?_
                  refine i_loadI (m.add) (r) (Gd.yes rfl rfl (decide_eq_false h8)) Wi_tS3 rfl (by omega) ?_
                  refine o_gtr (a := ((m.add).getD (r) 0)) (c := (((999999 : Nat) : Int))) (Gd.yes rfl rfl (decide_eq_false h8)) rfl rfl ?_
                  refine o_pickF (b := decide (((m.add).getD (r) 0) < ((-999999)))) (bp ((((999999 : Nat) : Int)) < ((m.add).getD (r) 0))) Gd.none rfl (decide_eq_false h8) rfl ?_
                  refine o_move (bp ((((999999 : Nat) : Int)) < ((m.add).getD (r) 0))) Gd.none rfl ?_
                  refine o_splitP (q := (((999999 : Nat) : Int)) < ((m.add).getD (r) 0)) 63 rfl (fun h9 => ?_) (fun h9 => ?_)
                  · refine o_skip (b := decide ((((999999 : Nat) : Int)) < ((m.add).getD (r) 0))) rfl rfl (decide_eq_true h9) ?_
                    refine o_skip (b := decide ((((999999 : Nat) : Int)) < ((m.add).getD (r) 0))) rfl rfl (decide_eq_true h9) ?_
                    refine o_skip (b := decide ((((999999 : Nat) : Int)) < ((m.add).getD (r) 0))) rfl rfl (decide_eq_true h9) ?_
                    refine o_skip (b := decide ((((999999 : Nat) : Int)) < ((m.add).getD (r) 0))) rfl rfl (decide_eq_true h9) ?_
                    refine o_skip (b := decide ((((999999 : Nat) : Int)) < ((m.add).getD (r) 0))) rfl rfl (decide_eq_true h9) ?_
                    refine o_skip (b := decide ((((999999 : Nat) : Int)) < ((m.add).getD (r) 0))) rfl rfl (decide_eq_true h9) ?_
                    refine o_skip (b := decide ((((999999 : Nat) : Int)) < ((m.add).getD (r) 0))) rfl rfl (decide_eq_true h9) ?_
                    refine o_skip (b := decide ((((999999 : Nat) : Int)) < ((m.add).getD (r) 0))) rfl rfl (decide_eq_true h9) ?_
                    refine o_skip (b := decide ((((999999 : Nat) : Int)) < ((m.add).getD (r) 0))) rfl rfl (decide_eq_true h9) ?_
                    refine o_skip (b := decide ((((999999 : Nat) : Int)) < ((m.add).getD (r) 0))) rfl rfl (decide_eq_true h9) ?_
                    refine o_skip (b := decide ((((999999 : Nat) : Int)) < ((m.add).getD (r) 0))) rfl rfl (decide_eq_true h9) ?_
                    refine o_skip (b := decide ((((999999 : Nat) : Int)) < ((m.add).getD (r) 0))) rfl rfl (decide_eq_true h9) ?_
                    refine o_skip (b := decide ((((999999 : Nat) : Int)) < ((m.add).getD (r) 0))) rfl rfl (decide_eq_true h9) ?_
                    refine o_skip (b := decide ((((999999 : Nat) : Int)) < ((m.add).getD (r) 0))) rfl rfl (decide_eq_true h9) ?_
                    refine o_skip (b := decide ((((999999 : Nat) : Int)) < ((m.add).getD (r) 0))) rfl rfl (decide_eq_true h9) ?_
                    refine o_skip (b := decide ((((999999 : Nat) : Int)) < ((m.add).getD (r) 0))) rfl rfl (decide_eq_true h9) ?_
                    refine o_skip (b := decide ((((999999 : Nat) : Int)) < ((m.add).getD (r) 0))) rfl rfl (decide_eq_true h9) ?_
                    refine o_pickT (b := decide ((((999999 : Nat) : Int)) < ((m.add).getD (r) 0))) (AV.lit (.bool true)) Gd.none rfl (decide_eq_true h9) rfl ?_
                    refine aops_end ⟨by kernel_rfl, ?_⟩
                    refine hK13 _ ?_
                    refine awp_condB (b := true) rfl (fun _ => ?_) (fun hh => absurd (hh.symm.trans rfl) (by decide))
                    refine awp_seq fun K17 hK17 => ?_
                    refine awp_region rfl ?_
                    refine o_assign (AV.lit (.bool false)) Gd.none rfl ?_
                    refine aops_end ?_
                    refine hK17 _ ?_
                    refine awp_ret ?_
                    refine post_ret ⟨[(AV.lit (.bool false))], And.intro (AV.le_refl _) (trivial), rfl, ?_⟩
                    refine bl_eq (okM_no fun h => ?_)
                    obtain ⟨o1, o2, o3, o4, o5⟩ := h
                    first | omega | (have := o5 r (by omega); omega)
                  · refine o_fieldRef 1 (Gd.yes rfl rfl (decide_eq_false h9)) Wi_tF24_1 rfl rfl ?_
                    refine o_loadS (AV.sl 1 (is .i64 (m.mul))) (Gd.yes rfl rfl (decide_eq_false h9)) Wi_tS22 rfl rfl rfl ?_
                    refine o_move (nm .i64 (r)) (Gd.yes rfl rfl (decide_eq_false h9)) rfl ?_
                    refine i_index (m.mul) (r) (Gd.yes rfl rfl (decide_eq_false h9)) Wi_tE22 rfl rfl (by omega) ?_
                    refine i_loadI (m.mul) (r) (Gd.yes rfl rfl (decide_eq_false h9)) Wi_tS3 rfl (by omega) ?_
                    refine o_move (nm .i64 (r)) (Gd.yes rfl rfl (decide_eq_false h9)) rfl ?_
                    refine o_mul (a := ((m.mul).getD (r) 0)) (c := (((r : Nat) : Int))) (Gd.yes rfl rfl (decide_eq_false h9)) rfl rfl (by have hm := mulb (a := (m.mul).getD (r) 0) (r := (r : Int)) (by omega) (by omega) (by omega) (by omega); exact wrap64 (by omega) (by omega)) ?_
                    refine o_fieldRef 2 (Gd.yes rfl rfl (decide_eq_false h9)) Wi_tF24_2 rfl rfl ?_
                    refine o_loadS (AV.sl 1 (is .i64 (m.add))) (Gd.yes rfl rfl (decide_eq_false h9)) Wi_tS22 rfl rfl rfl ?_
                    refine o_move (nm .i64 (r)) (Gd.yes rfl rfl (decide_eq_false h9)) rfl ?_
                    refine i_index (m.add) (r) (Gd.yes rfl rfl (decide_eq_false h9)) Wi_tE22 rfl rfl (by omega) ?_
                    refine i_loadI (m.add) (r) (Gd.yes rfl rfl (decide_eq_false h9)) Wi_tS3 rfl (by omega) ?_
                    refine o_add (a := (((m.mul).getD (r) 0) * (((r : Nat) : Int)))) (c := ((m.add).getD (r) 0)) (Gd.yes rfl rfl (decide_eq_false h9)) rfl rfl (by have hm := mulb (a := (m.mul).getD (r) 0) (r := (r : Int)) (by omega) (by omega) (by omega) (by omega); exact wrap64 (by omega) (by omega)) ?_
                    refine o_fieldRef 0 (Gd.yes rfl rfl (decide_eq_false h9)) Wi_tF24_0 rfl rfl ?_
                    refine o_loadS (AV.lit (.int .i64 (m.mod))) (Gd.yes rfl rfl (decide_eq_false h9)) Wi_tS3 rfl rfl rfl ?_
                    refine o_remT (a := ((((m.mul).getD (r) 0) * (((r : Nat) : Int))) + ((m.add).getD (r) 0))) (c := (m.mod)) (Gd.yes rfl rfl (decide_eq_false h9)) rfl rfl (by omega) ?_
                    refine o_neq (a := (Int.tmod ((((m.mul).getD (r) 0) * (((r : Nat) : Int))) + ((m.add).getD (r) 0)) (m.mod))) (c := (((0 : Nat) : Int))) (Gd.yes rfl rfl (decide_eq_false h9)) rfl rfl ?_
                    refine o_pickF (b := decide ((((999999 : Nat) : Int)) < ((m.add).getD (r) 0))) (bp ((Int.tmod ((((m.mul).getD (r) 0) * (((r : Nat) : Int))) + ((m.add).getD (r) 0)) (m.mod)) ≠ (((0 : Nat) : Int)))) Gd.none rfl (decide_eq_false h9) rfl ?_
                    refine aops_end ⟨by kernel_rfl, ?_⟩
                    refine hK13 _ ?_
                    refine awp_condQ (q := (Int.tmod ((((m.mul).getD (r) 0) * (((r : Nat) : Int))) + ((m.add).getD (r) 0)) (m.mod)) ≠ (((0 : Nat) : Int))) rfl (fun h10 => ?_) (fun h10 => ?_)
                    · refine awp_seq fun K18 hK18 => ?_
                      refine awp_region rfl ?_
                      refine o_assign (AV.lit (.bool false)) Gd.none rfl ?_
                      refine aops_end ?_
                      refine hK18 _ ?_
                      refine awp_ret ?_
                      refine post_ret ⟨[(AV.lit (.bool false))], And.intro (AV.le_refl _) (trivial), rfl, ?_⟩
                      refine bl_eq (okM_no fun h => ?_)
                      obtain ⟨o1, o2, o3, o4, o5⟩ := h
                      first | omega | (have := o5 r (by omega); omega)
                    · refine awp_skip ?_
                      refine hK11 _ ?_
                      refine awp_region rfl ?_
                      refine n_add (r) (1) Gd.none rfl rfl (by simp only [topOf]; omega) ?_
                      refine o_move (nm .i64 ((r) + (1))) Gd.none rfl ?_
                      refine aops_end ?_
                      refine ⟨_, _, ?lt, ⟨r + 1, (by omega), (fun i hi => by by_cases e : i = r; subst e; exact ⟨by omega, by omega, by omega, by omega, by omega⟩; exact hv i (by omega)), rfl, rfl⟩, ?wk⟩
                      case lt => omega
                      case wk => exact Wk.sub (And.intro (by exact rfl) (And.intro (by exact rfl) (And.intro (by first | rfl | exact congrArg (nm _) (by omega) | exact nm_int (by omega) | exact nm_int (by simp [IntKind.wrap, IntKind.bits, IntKind.signed]; omega)) (trivial)))) (And.intro (by first | rfl | exact row_ns (by simp) | exact congrArg (fun x => some (AO.blk (.stringIter _ x))) (by omega)) (trivial))
          · refine awp_exit ?_
            refine hK7 _ ?_
            refine awp_seq fun K19 hK19 => ?_
            refine awp_region rfl ?_
            refine o_assign (AV.lit (.bool true)) Gd.none rfl ?_
            refine aops_end ?_
            refine hK19 _ ?_
            refine awp_ret ?_
            refine post_ret ⟨[(AV.lit (.bool true))], And.intro (AV.le_refl _) (trivial), rfl, ?_⟩
            refine bl_eq (okM_yes ⟨by omega, by omega, by omega, by omega, fun i hi => hv i (by omega)⟩)

theorem c_sNext (m : MapM) (z : Int) (hm : OkM m) (hz : (digs z.natAbs).length ≤ 1000000) : ECalls cx 50 [(mapV m), (intW (z))] (.tup [intW (stepZ m z), .lit (.int .i64 (z % m.mod))]) := by
  refine ecalls_of_awp Tryd.func50 (c := _) rfl (Nat.le_of_ble_eq_true rfl) ?_
  show awp cx 40 _ (postF cx Tryd.f50 _) ⟨[(0, (mapV m)), (1, (intW (z)))], []⟩
  have hM := hm
  obtain ⟨o1, o2, o3, o4, o5⟩ := hm
  have hr0 := Int.emod_nonneg z (b := m.mod) (by omega)
  have hr1 := Int.emod_lt_of_pos z (b := m.mod) (by omega)
  have hr := o5 (z % m.mod).toNat (by omega)
  have hL1 := small_len (z := ((m.mul).getD ((z % m.mod).toNat) 0)) (by omega)
  have hL2 := small_len (z := ((m.add).getD ((z % m.mod).toNat) 0)) (by omega)
  have hL3 := len_mulZ z ((m.mul).getD ((z % m.mod).toNat) 0)
  have hL4 := len_addZ (z * ((m.mul).getD ((z % m.mod).toNat) 0)) ((m.add).getD ((z % m.mod).toNat) 0)
  have hmd : ((m.mod.toNat : Nat) : Int) = m.mod := Int.toNat_of_nonneg (by omega)
  refine awp_seq fun K0 hK0 => ?_
  refine awp_region rfl ?_
  refine o_box 2 [(AV.lit (.int .i64 (m.mod))), (AV.sl 1 (is .i64 (m.mul))), (AV.sl 1 (is .i64 (m.add)))] Gd.none rfl rfl ?_
  refine o_box 3 [(bp (z < 0)), (AV.sl 1 (ns .u32 (digs (z).natAbs)))] Gd.none rfl rfl ?_
  refine o_alloc 4 [(AV.lit (.bool false)), (AV.lit (.slice none 0 0))] Gd.none Wi_tO79 rfl rfl rfl ?_
  refine o_assign (nm .i64 (0)) Gd.none rfl ?_
  refine aops_end ?_
  refine hK0 _ ?_
  refine awp_seq fun K1 hK1 => ?_
  refine awp_region rfl ?_
  refine o_loadA [(bp (z < 0)), (AV.sl 1 (ns .u32 (digs (z).natAbs)))] Gd.none Wi_tA79 rfl rfl rfl rfl rfl ?_
  refine o_fieldRef 0 Gd.none Wi_tF24_0 rfl rfl ?_
  refine o_loadS (AV.lit (.int .i64 (m.mod))) Gd.none Wi_tS3 rfl rfl rfl ?_
  refine n_as (v' := (nm .i64 (m.mod.toNat))) (nm_int (by omega)) ?_
  refine o_call [(AV.agg [(bp (z < 0)), (AV.sl 1 (ns .u32 (digs (z).natAbs)))]), (nm .i64 (m.mod.toNat))] (AV.tup [(intW ((z / ((m.mod.toNat : Nat) : Int)))), (AV.lit (.int .i64 (z % ((m.mod.toNat : Nat) : Int))))]) Gd.none Wi_tC63 rfl (c_wQR (z) (m.mod.toNat) (by omega) (by omega) (by first | assumption | omega | (simp only [Int.natAbs_neg]; omega))) ?_
  refine o_move (AV.tup [(intW ((z / ((m.mod.toNat : Nat) : Int)))), (AV.lit (.int .i64 (z % ((m.mod.toNat : Nat) : Int))))]) Gd.none rfl ?_
  refine o_extract (intW ((z / ((m.mod.toNat : Nat) : Int)))) Gd.none rfl rfl ?_
  refine o_extract (AV.lit (.int .i64 (z % ((m.mod.toNat : Nat) : Int)))) Gd.none rfl rfl ?_
  refine n_as (v' := (nm .i64 ((z % m.mod).toNat))) (nm_int (by rw [hmd]; omega)) ?_
  refine o_alloc 5 [(AV.lit (.bool false)), (AV.lit (.slice none 0 0))] Gd.none Wi_tO79 rfl rfl rfl ?_
  refine o_store [(5, (AO.var 79 [(bp ((z / ((m.mod.toNat : Nat) : Int)) < 0)), (AV.sl 1 (ns .u32 (digs ((z / ((m.mod.toNat : Nat) : Int))).natAbs)))])), (4, (AO.var 79 [(AV.lit (.bool false)), (AV.lit (.slice none 0 0))])), (3, (AO.var 79 [(bp (z < 0)), (AV.sl 1 (ns .u32 (digs (z).natAbs)))])), (2, (AO.var 24 [(AV.lit (.int .i64 (m.mod))), (AV.sl 1 (is .i64 (m.mul))), (AV.sl 1 (is .i64 (m.add)))]))] Gd.none Wi_tZ79 rfl rfl rfl rfl rfl rfl ?_
  refine o_assign (nm .i64 ((z % m.mod).toNat)) Gd.none rfl ?_
  refine aops_end ?_
  refine hK1 _ ?_
  refine awp_seq fun K2 hK2 => ?_
  refine awp_regionD rfl ?_
  refine o_loadA [(bp (z < 0)), (AV.sl 1 (ns .u32 (digs (z).natAbs)))] Gd.none Wi_tA79 rfl rfl rfl rfl rfl ?_
  refine o_fieldRef 1 Gd.none Wi_tF24_1 rfl rfl ?_
  refine o_loadS (AV.sl 1 (is .i64 (m.mul))) Gd.none Wi_tS22 rfl rfl rfl ?_
  refine o_move (nm .i64 ((z % m.mod).toNat)) Gd.none rfl ?_
  refine n_as (v' := (nm .i64 ((z % m.mod).toNat))) (congrArg (nm _) (by omega)) ?_
  refine i_index (m.mul) ((z % m.mod).toNat) Gd.none Wi_tE22 rfl rfl (by omega) ?_
  refine i_loadI (m.mul) ((z % m.mod).toNat) Gd.none Wi_tS3 rfl (by omega) ?_
  refine o_call [(AV.lit (.int .i64 ((m.mul).getD ((z % m.mod).toNat) 0)))] (intW ((m.mul).getD ((z % m.mod).toNat) 0)) Gd.none Wi_tC59 rfl (c_wOf ((m.mul).getD ((z % m.mod).toNat) 0) (by first | decide | omega) (by first | decide | omega)) ?_
  refine o_call [(AV.agg [(bp (z < 0)), (AV.sl 1 (ns .u32 (digs (z).natAbs)))]), (intW ((m.mul).getD ((z % m.mod).toNat) 0))] (intW ((z * (m.mul).getD ((z % m.mod).toNat) 0))) Gd.none Wi_tC60 rfl (c_wMul (z) ((m.mul).getD ((z % m.mod).toNat) 0) (by first | assumption | omega | (simp only [Int.natAbs_neg]; omega)) (by first | assumption | omega | (simp only [Int.natAbs_neg]; omega))) ?_
  refine o_fieldRef 2 Gd.none Wi_tF24_2 rfl rfl ?_
  refine o_loadS (AV.sl 1 (is .i64 (m.add))) Gd.none Wi_tS22 rfl rfl rfl ?_
  refine o_move (nm .i64 ((z % m.mod).toNat)) Gd.none rfl ?_
  refine n_as (v' := (nm .i64 ((z % m.mod).toNat))) (congrArg (nm _) (by omega)) ?_
  refine i_index (m.add) ((z % m.mod).toNat) Gd.none Wi_tE22 rfl rfl (by omega) ?_
  refine i_loadI (m.add) ((z % m.mod).toNat) Gd.none Wi_tS3 rfl (by omega) ?_
  refine o_call [(AV.lit (.int .i64 ((m.add).getD ((z % m.mod).toNat) 0)))] (intW ((m.add).getD ((z % m.mod).toNat) 0)) Gd.none Wi_tC59 rfl (c_wOf ((m.add).getD ((z % m.mod).toNat) 0) (by first | decide | omega) (by first | decide | omega)) ?_
  refine o_call [(intW ((z * (m.mul).getD ((z % m.mod).toNat) 0))), (intW ((m.add).getD ((z % m.mod).toNat) 0))] (intW (((z * (m.mul).getD ((z % m.mod).toNat) 0) + (m.add).getD ((z % m.mod).toNat) 0))) Gd.none Wi_tC61 rfl (c_wAdd ((z * (m.mul).getD ((z % m.mod).toNat) 0)) ((m.add).getD ((z % m.mod).toNat) 0) (by first | assumption | omega | (simp only [Int.natAbs_neg]; omega)) (by first | assumption | omega | (simp only [Int.natAbs_neg]; omega))) ?_
  refine o_fieldRef 0 Gd.none Wi_tF24_0 rfl rfl ?_
  refine o_loadS (AV.lit (.int .i64 (m.mod))) Gd.none Wi_tS3 rfl rfl rfl ?_
  refine n_as (v' := (nm .i64 (m.mod.toNat))) (nm_int (by omega)) ?_
  refine o_call [(intW (((z * (m.mul).getD ((z % m.mod).toNat) 0) + (m.add).getD ((z % m.mod).toNat) 0))), (nm .i64 (m.mod.toNat))] (AV.tup [(intW ((((z * (m.mul).getD ((z % m.mod).toNat) 0) + (m.add).getD ((z % m.mod).toNat) 0) / ((m.mod.toNat : Nat) : Int)))), (AV.lit (.int .i64 (((z * (m.mul).getD ((z % m.mod).toNat) 0) + (m.add).getD ((z % m.mod).toNat) 0) % ((m.mod.toNat : Nat) : Int))))]) Gd.none Wi_tC63 rfl (c_wQR (((z * (m.mul).getD ((z % m.mod).toNat) 0) + (m.add).getD ((z % m.mod).toNat) 0)) (m.mod.toNat) (by omega) (by omega) (by first | assumption | omega | (simp only [Int.natAbs_neg]; omega))) ?_
  refine o_move (AV.tup [(intW ((((z * (m.mul).getD ((z % m.mod).toNat) 0) + (m.add).getD ((z % m.mod).toNat) 0) / ((m.mod.toNat : Nat) : Int)))), (AV.lit (.int .i64 (((z * (m.mul).getD ((z % m.mod).toNat) 0) + (m.add).getD ((z % m.mod).toNat) 0) % ((m.mod.toNat : Nat) : Int))))]) Gd.none rfl ?_
  refine o_extract (intW ((((z * (m.mul).getD ((z % m.mod).toNat) 0) + (m.add).getD ((z % m.mod).toNat) 0) / ((m.mod.toNat : Nat) : Int)))) Gd.none rfl rfl ?_
  refine o_extract (AV.lit (.int .i64 (((z * (m.mul).getD ((z % m.mod).toNat) 0) + (m.add).getD ((z % m.mod).toNat) 0) % ((m.mod.toNat : Nat) : Int)))) Gd.none rfl rfl ?_
  refine o_alloc 6 [(AV.lit (.bool false)), (AV.lit (.slice none 0 0))] Gd.none Wi_tO79 rfl rfl rfl ?_
  refine o_store [(6, (AO.var 79 [(bp ((((z * (m.mul).getD ((z % m.mod).toNat) 0) + (m.add).getD ((z % m.mod).toNat) 0) / ((m.mod.toNat : Nat) : Int)) < 0)), (AV.sl 1 (ns .u32 (digs ((((z * (m.mul).getD ((z % m.mod).toNat) 0) + (m.add).getD ((z % m.mod).toNat) 0) / ((m.mod.toNat : Nat) : Int))).natAbs)))])), (5, (AO.var 79 [(bp ((z / ((m.mod.toNat : Nat) : Int)) < 0)), (AV.sl 1 (ns .u32 (digs ((z / ((m.mod.toNat : Nat) : Int))).natAbs)))])), (4, (AO.var 79 [(AV.lit (.bool false)), (AV.lit (.slice none 0 0))])), (3, (AO.var 79 [(bp (z < 0)), (AV.sl 1 (ns .u32 (digs (z).natAbs)))])), (2, (AO.var 24 [(AV.lit (.int .i64 (m.mod))), (AV.sl 1 (is .i64 (m.mul))), (AV.sl 1 (is .i64 (m.add)))]))] Gd.none Wi_tZ79 rfl rfl rfl rfl rfl rfl ?_
  refine o_assign (AV.lit (.int .i64 (((z * (m.mul).getD ((z % m.mod).toNat) 0) + (m.add).getD ((z % m.mod).toNat) 0) % ((m.mod.toNat : Nat) : Int)))) Gd.none rfl ?_
  refine aops_end ⟨by kernel_rfl, ?_⟩
  refine hK2 _ ?_
  refine awp_seq fun K3 hK3 => ?_
  refine awp_region rfl ?_
  refine o_loadA [(bp ((((z * (m.mul).getD ((z % m.mod).toNat) 0) + (m.add).getD ((z % m.mod).toNat) 0) / ((m.mod.toNat : Nat) : Int)) < 0)), (AV.sl 1 (ns .u32 (digs ((((z * (m.mul).getD ((z % m.mod).toNat) 0) + (m.add).getD ((z % m.mod).toNat) 0) / ((m.mod.toNat : Nat) : Int))).natAbs)))] Gd.none Wi_tA79 rfl rfl rfl rfl rfl ?_
  refine o_move (nm .i64 ((z % m.mod).toNat)) Gd.none rfl ?_
  refine o_store [(6, (AO.var 79 [(bp ((((z * (m.mul).getD ((z % m.mod).toNat) 0) + (m.add).getD ((z % m.mod).toNat) 0) / ((m.mod.toNat : Nat) : Int)) < 0)), (AV.sl 1 (ns .u32 (digs ((((z * (m.mul).getD ((z % m.mod).toNat) 0) + (m.add).getD ((z % m.mod).toNat) 0) / ((m.mod.toNat : Nat) : Int))).natAbs)))])), (5, (AO.var 79 [(bp ((z / ((m.mod.toNat : Nat) : Int)) < 0)), (AV.sl 1 (ns .u32 (digs ((z / ((m.mod.toNat : Nat) : Int))).natAbs)))])), (4, (AO.var 79 [(bp ((((z * (m.mul).getD ((z % m.mod).toNat) 0) + (m.add).getD ((z % m.mod).toNat) 0) / ((m.mod.toNat : Nat) : Int)) < 0)), (AV.sl 1 (ns .u32 (digs ((((z * (m.mul).getD ((z % m.mod).toNat) 0) + (m.add).getD ((z % m.mod).toNat) 0) / ((m.mod.toNat : Nat) : Int))).natAbs)))])), (3, (AO.var 79 [(bp (z < 0)), (AV.sl 1 (ns .u32 (digs (z).natAbs)))])), (2, (AO.var 24 [(AV.lit (.int .i64 (m.mod))), (AV.sl 1 (is .i64 (m.mul))), (AV.sl 1 (is .i64 (m.add)))]))] Gd.none Wi_tZ79 rfl rfl rfl rfl rfl rfl ?_
  refine o_assign (nm .i64 ((z % m.mod).toNat)) Gd.none rfl ?_
  refine aops_end ?_
  refine hK3 _ ?_
  refine awp_ret ?_
  refine post_ret ⟨[(AV.agg [(bp ((((z * (m.mul).getD ((z % m.mod).toNat) 0) + (m.add).getD ((z % m.mod).toNat) 0) / ((m.mod.toNat : Nat) : Int)) < 0)), (AV.sl 1 (ns .u32 (digs ((((z * (m.mul).getD ((z % m.mod).toNat) 0) + (m.add).getD ((z % m.mod).toNat) 0) / ((m.mod.toNat : Nat) : Int))).natAbs)))]), (nm .i64 ((z % m.mod).toNat))], And.intro ⟨4, (AO.var 79 [(bp ((((z * (m.mul).getD ((z % m.mod).toNat) 0) + (m.add).getD ((z % m.mod).toNat) 0) / ((m.mod.toNat : Nat) : Int)) < 0)), (AV.sl 1 (ns .u32 (digs ((((z * (m.mul).getD ((z % m.mod).toNat) 0) + (m.add).getD ((z % m.mod).toNat) 0) / ((m.mod.toNat : Nat) : Int))).natAbs)))]), rfl, rfl, rfl, Or.inl ⟨Wi_tA79, AV.le_refl _⟩⟩ (And.intro (AV.le_refl _) (trivial)), rfl, ?_⟩
  exact tup_eq2 (congrArg (intK .u32) (by unfold stepZ; rw [hmd, Int.mul_comm z])) (int_nm (by omega)).symm

end Go.Proofs.YtbilndahjkimkaaDoor

set_option linter.unusedVariables false
set_option linter.unusedSimpArgs false
namespace Go.Proofs.YtbilndahjkimkaaDoor
open Go Go.Ab Go.Mth
theorem Wj_tO24 : tyZero cx.P 24 = some [(Go.Value.int IntKind.i64 0), (Go.Value.slice none 0 0), (Go.Value.slice none 0 0)] := by kernel_rfl
theorem Wj_tE22 : tyElem cx.P 22 = some (3, 1, 8) := by kernel_rfl
theorem Wj_tO3 : tyZero cx.P 3 = some [(Go.Value.int IntKind.i64 0)] := by kernel_rfl
theorem Wj_tP24 : tyPlaces cx.P 24 = some (fun i => (#[(0, 1), (1, 1), (2, 1)] : Array (Nat × Nat))[i]?) := by kernel_rfl
theorem Wj_tZ24 : tySize cx.P 24 = some 3 := by kernel_rfl
theorem Wj_tA24 : tyAgg cx.P 24 = some 3 := by kernel_rfl
theorem c_gCollatz  : ECalls cx 51 [] (mapV (kinM 3 1)) := by
  refine ecalls_of_awp Tryd.func51 (c := _) rfl (Nat.le_of_ble_eq_true rfl) ?_
  show awp cx 4 _ (postF cx Tryd.f51 _) ⟨[], []⟩
  refine awp_seq fun K0 hK0 => ?_
  refine awp_region rfl ?_
  refine o_alloc 2 [(nm .i64 (0)), (AV.lit (.slice none 0 0)), (AV.lit (.slice none 0 0))] Gd.none Wj_tO24 rfl rfl rfl ?_
  refine aops_end ?_
  refine hK0 _ ?_
  refine awp_seq fun K1 hK1 => ?_
  refine awp_region rfl ?_
  refine o_buildSlice 3 (ns .i64 ([1, 3])) [(0, [(nm .i64 (1))]), (1, [(nm .i64 (3))])] Gd.none Wj_tE22 rfl Wj_tO3 rfl rfl rfl rfl rfl rfl rfl ?_
  refine o_buildSlice 4 (ns .i64 ([0, 1])) [(0, [(nm .i64 (0))]), (1, [(nm .i64 (1))])] Gd.none Wj_tE22 rfl Wj_tO3 rfl rfl rfl rfl rfl rfl rfl ?_
  refine o_build [(nm .i64 (2)), (AV.row 3), (AV.row 4)] [(0, [(nm .i64 (2))]), (1, [(AV.row 3)]), (2, [(AV.row 4)])] Gd.none Wj_tP24 Wj_tO24 rfl rfl rfl ?_
  refine o_store [(4, (AO.row 3 1 (ns .i64 ([0, 1])))), (3, (AO.row 3 1 (ns .i64 ([1, 3])))), (2, (AO.var 24 [(nm .i64 (2)), (AV.row 3), (AV.row 4)]))] Gd.none Wj_tZ24 rfl rfl rfl rfl rfl rfl ?_
  refine aops_end ?_
  refine hK1 _ ?_
  refine awp_wk (σ' := ⟨[(0, (AV.ref 2 (0)))], [(2, (AO.var 24 [(nm .i64 (2)), (AV.row 3), (AV.row 4)])), (3, (AO.row 3 1 (ns .i64 ([1, 3])))), (4, (AO.row 3 1 (ns .i64 ([0, 1]))))]⟩) (Wk.sub (And.intro rfl (trivial)) (And.intro rfl (And.intro rfl (And.intro rfl (trivial))))) ?_
  refine awp_wk (σ' := ⟨[(0, (AV.ref 2 (0)))], [(2, (AO.var 24 [(nm .i64 (2)), (AV.sl 1 (ns .i64 ([1, 3]))), (AV.row 4)])), (4, (AO.row 3 1 (ns .i64 ([0, 1]))))]⟩) (Wk.freeze (id := 3) (e := 3) (sz := 1) (cs := (ns .i64 ([1, 3]))) rfl) ?_
  refine awp_wk (σ' := ⟨[(0, (AV.ref 2 (0)))], [(2, (AO.var 24 [(nm .i64 (2)), (AV.sl 1 (ns .i64 ([1, 3]))), (AV.sl 1 (ns .i64 ([0, 1])))]))]⟩) (Wk.freeze (id := 4) (e := 3) (sz := 1) (cs := (ns .i64 ([0, 1]))) rfl) ?_
  refine awp_ret ?_
  refine post_ret ⟨[(mapV (kinM 3 1))], And.intro ⟨2, (AO.var 24 [(nm .i64 (2)), (AV.sl 1 (ns .i64 ([1, 3]))), (AV.sl 1 (ns .i64 ([0, 1])))]), rfl, rfl, rfl, Or.inl ⟨Wj_tA24, AV.le_agg (LeL.cons (AV.le_refl _) (LeL.cons (AV.le_refl _) (LeL.cons (AV.le_refl _) (LeL.nil))))⟩⟩ (trivial), rfl, ?_⟩
  rfl

end Go.Proofs.YtbilndahjkimkaaDoor

set_option linter.unusedVariables false
set_option linter.unusedSimpArgs false
namespace Go.Proofs.YtbilndahjkimkaaDoor
open Go Go.Ab Go.Mth
theorem Wz_tF24_1 : tyField cx.P 24 1 = some (1, 22) := by kernel_rfl
theorem Wz_tS22 : tySc cx.P 22 = true := by kernel_rfl
theorem Wz_tU22 : cx.P.underlying 22 = some (.slice 3) := by kernel_rfl
theorem Wz_tE22 : tyElem cx.P 22 = some (3, 1, 8) := by kernel_rfl
theorem Wz_tS3 : tySc cx.P 3 = true := by kernel_rfl
theorem Wz_tF24_0 : tyField cx.P 24 0 = some (0, 3) := by kernel_rfl
theorem Wz_tC85 : callable cx.P 85 = true := by kernel_rfl
theorem c_sCommon (a b : Nat) : ECalls cx 85 [(nm .i64 (a)), (nm .i64 (b))] (nm .i64 (Nat.gcd a b)) := by
  refine ecalls_of_awp Tryd.func85 (c := _) rfl (Nat.le_of_ble_eq_true rfl) ?_
  show awp cx 12 _ (postF cx Tryd.f85 _) ⟨[(0, (nm .i64 (a))), (1, (nm .i64 (b)))], []⟩
  refine awp_seq fun K0 hK0 => ?_
  refine awp_region rfl ?_
  refine o_assign (nm .i64 (0)) Gd.none rfl ?_
  refine aops_end ?_
  refine hK0 _ ?_
  refine awp_seq fun K1 hK1 => ?_
  refine awp_block ?_
  refine awp_loopR (fun κ σ => ∃ (u : Nat), ∃ (v : Nat), (Nat.gcd u v = Nat.gcd a b) ∧ (v) = κ ∧ σ = ⟨[(0, (nm .i64 (u))), (1, (nm .i64 (v)))], []⟩) ⟨_, _, ⟨a, b, rfl, rfl, rfl⟩, ?wk0⟩ ?rd0
  case wk0 =>
    exact Wk.sub (And.intro (by first | rfl | exact congrArg (nm _) (by omega) | exact nm_int (by omega) | exact nm_int (by simp [IntKind.wrap, IntKind.bits, IntKind.signed]; omega)) (And.intro (by first | rfl | exact congrArg (nm _) (by omega) | exact nm_int (by omega) | exact nm_int (by simp [IntKind.wrap, IntKind.bits, IntKind.signed]; omega)) (trivial))) (trivial)
  rintro κ _ ⟨u, v, hg, rfl, rfl⟩
  refine awp_seq fun K2 hK2 => ?_
  refine awp_seq fun K3 hK3 => ?_
  refine awp_region rfl ?_
  refine o_move (nm .i64 (v)) Gd.none rfl ?_
  refine n_gtr (v) (0) Gd.none rfl rfl ?_
  refine aops_end ?_
  refine hK3 _ ?_
  refine awp_condQ (q := (0) < (v)) rfl (fun h1 => ?_) (fun h1 => ?_)
  · refine awp_skip ?_
    refine hK2 _ ?_
    refine awp_block ?_
    refine awp_regionD rfl ?_
    refine o_move (nm .i64 (v)) Gd.none rfl ?_
    refine o_move (nm .i64 (u)) Gd.none rfl ?_
    refine o_move (nm .i64 (v)) Gd.none rfl ?_
    refine n_rem (u) (v) Gd.none rfl rfl (by omega) ?_
    refine o_assign (nm .i64 (v)) Gd.none rfl ?_
    refine o_assign (nm .i64 ((u) % (v))) Gd.none rfl ?_
    refine aops_end ⟨by kernel_rfl, ?_⟩
    refine ⟨_, _, ?lt, ⟨v, u % v, (gcd_nx hg), rfl, rfl⟩, ?wk⟩
    case lt => exact Nat.mod_lt u (by assumption)
    case wk => exact Wk.sub (And.intro (by first | rfl | exact congrArg (nm _) (by omega) | exact nm_int (by omega) | exact nm_int (by simp [IntKind.wrap, IntKind.bits, IntKind.signed]; omega)) (And.intro (by first | rfl | exact congrArg (nm _) (by omega) | exact nm_int (by omega) | exact nm_int (by simp [IntKind.wrap, IntKind.bits, IntKind.signed]; omega)) (trivial))) (trivial)
  · refine awp_exit ?_
    refine hK1 _ ?_
    refine awp_seq fun K4 hK4 => ?_
    refine awp_region rfl ?_
    refine o_move (nm .i64 (u)) Gd.none rfl ?_
    refine o_assign (nm .i64 (u)) Gd.none rfl ?_
    refine aops_end ?_
    refine hK4 _ ?_
    refine awp_ret ?_
    refine post_ret ⟨[(nm .i64 (u))], And.intro (AV.le_refl _) (trivial), rfl, ?_⟩
    exact congrArg (nm _) (gcd_ed hg h1)

theorem c_sFree (m : MapM) (hM : OkM m) : ECalls cx 58 [(mapV m)] (bp (freeM m)) := by
  refine ecalls_of_awp Tryd.func58 (c := _) rfl (Nat.le_of_ble_eq_true rfl) ?_
  show awp cx 18 _ (postF cx Tryd.f58 _) ⟨[(0, (mapV m))], []⟩
  obtain ⟨o1, o2, o3, o4, o5⟩ := hM
  refine awp_seq fun K0 hK0 => ?_
  refine awp_region rfl ?_
  refine o_box 2 [(AV.lit (.int .i64 (m.mod))), (AV.sl 1 (is .i64 (m.mul))), (AV.sl 1 (is .i64 (m.add)))] Gd.none rfl rfl ?_
  refine o_assign (AV.lit (.bool false)) Gd.none rfl ?_
  refine aops_end ?_
  refine hK0 _ ?_
  refine awp_seq fun K1 hK1 => ?_
  refine awp_seq fun K2 hK2 => ?_
  refine awp_region rfl ?_
  refine o_fieldRef 1 Gd.none Wz_tF24_1 rfl rfl ?_
  refine o_loadS (AV.sl 1 (is .i64 (m.mul))) Gd.none Wz_tS22 rfl rfl rfl ?_
  refine i_len (m.mul) Gd.none Wz_tU22 rfl ?_
  refine o_move (nm .i64 (0)) Gd.none rfl ?_
  refine aops_end ?_
  refine hK2 _ ?_
  refine awp_block ?_
  refine awp_loopR (fun κ σ => ∃ (i : Nat), (i ≤ m.mul.length) ∧ (∀ k, k < i → Nat.gcd (m.mul.getD k 0).toNat m.mod.toNat ≤ 1) ∧ (m.mul.length - i) = κ ∧ σ = ⟨[(1, (AV.ref 2 (0))), (6, (AV.sl 1 (is .i64 (m.mul)))), (7, (nm .i64 ((m.mul).length))), (8, (nm .i64 (i)))], [(2, (AO.var 24 [(AV.lit (.int .i64 (m.mod))), (AV.sl 1 (is .i64 (m.mul))), (AV.sl 1 (is .i64 (m.add)))]))]⟩) ⟨_, _, ⟨0, (by omega), (fun k hk => by omega), rfl, rfl⟩, ?wk0⟩ ?rd0
  case wk0 =>
    exact Wk.sub (And.intro (by exact rfl) (And.intro (by exact rfl) (And.intro (by exact rfl) (And.intro (by first | rfl | exact congrArg (nm _) (by omega) | exact nm_int (by omega) | exact nm_int (by simp [IntKind.wrap, IntKind.bits, IntKind.signed]; omega)) (trivial))))) (And.intro (by first | rfl | exact row_ns (by simp) | exact congrArg (fun x => some (AO.blk (.stringIter _ x))) (by omega)) (trivial))
  rintro κ _ ⟨i, hi, hf, rfl, rfl⟩
  refine awp_seq fun K3 hK3 => ?_
  refine awp_region rfl ?_
  refine n_lss (i) ((m.mul).length) Gd.none rfl rfl ?_
  refine aops_end ?_
  refine hK3 _ ?_
  refine awp_seq fun K4 hK4 => ?_
  refine awp_condQ (q := (i) < ((m.mul).length)) rfl (fun h1 => ?_) (fun h1 => ?_)
  · have hoi := o5 i (by omega)
    refine awp_skip ?_
    refine hK4 _ ?_
    refine awp_seq fun K5 hK5 => ?_
    refine awp_block ?_
    refine awp_seq fun K6 hK6 => ?_
    refine awp_region rfl ?_
    refine i_index (m.mul) (i) Gd.none Wz_tE22 rfl rfl (by omega) ?_
    refine i_loadI (m.mul) (i) Gd.none Wz_tS3 rfl (by omega) ?_
    refine o_assign (AV.lit (.int .i64 ((m.mul).getD (i) 0))) Gd.none rfl ?_
    refine aops_end ?_
    refine hK6 _ ?_
    refine awp_seq fun K7 hK7 => ?_
    refine awp_region rfl ?_
    refine o_move (AV.lit (.int .i64 ((m.mul).getD (i) 0))) Gd.none rfl ?_
    refine n_as (v' := (nm .i64 (((m.mul).getD (i) 0).toNat))) (nm_int (by omega)) ?_
    refine o_fieldRef 0 Gd.none Wz_tF24_0 rfl rfl ?_
    refine o_loadS (AV.lit (.int .i64 (m.mod))) Gd.none Wz_tS3 rfl rfl rfl ?_
    refine n_as (v' := (nm .i64 (m.mod.toNat))) (nm_int (by omega)) ?_
    refine o_call [(nm .i64 (((m.mul).getD (i) 0).toNat)), (nm .i64 (m.mod.toNat))] (nm .i64 (Nat.gcd (((m.mul).getD (i) 0).toNat) (m.mod.toNat))) Gd.none Wz_tC85 rfl (c_sCommon (((m.mul).getD (i) 0).toNat) (m.mod.toNat)) ?_
    refine n_gtr (Nat.gcd (((m.mul).getD (i) 0).toNat) (m.mod.toNat)) (1) Gd.none rfl rfl ?_
    refine aops_end ?_
    refine hK7 _ ?_
    refine awp_condQ (q := (1) < (Nat.gcd (((m.mul).getD (i) 0).toNat) (m.mod.toNat))) rfl (fun h2 => ?_) (fun h2 => ?_)
    · refine awp_seq fun K8 hK8 => ?_
      refine awp_region rfl ?_
      refine o_assign (AV.lit (.bool false)) Gd.none rfl ?_
      refine aops_end ?_
      refine hK8 _ ?_
      refine awp_ret ?_
      refine post_ret ⟨[(AV.lit (.bool false))], And.intro (AV.le_refl _) (trivial), rfl, ?_⟩
      exact (bl_bp (b := false) ⟨fun h => (by cases h), fun h => absurd h (fun hh => absurd (hh i h1) (by omega))⟩).symm
    · refine awp_skip ?_
      refine hK5 _ ?_
      refine awp_region rfl ?_
      refine n_add (i) (1) Gd.none rfl rfl (by simp only [topOf]; omega) ?_
      refine o_move (nm .i64 ((i) + (1))) Gd.none rfl ?_
      refine aops_end ?_
      refine ⟨_, _, ?lt, ⟨i + 1, (by omega), (fun k hk => by rcases Nat.lt_or_ge k i with e | e; exact hf k e; rw [show k = i by omega]; omega), rfl, rfl⟩, ?wk⟩
      case lt => omega
      case wk => exact Wk.sub (And.intro (by exact rfl) (And.intro (by exact rfl) (And.intro (by exact rfl) (And.intro (by first | rfl | exact congrArg (nm _) (by omega) | exact nm_int (by omega) | exact nm_int (by simp [IntKind.wrap, IntKind.bits, IntKind.signed]; omega)) (trivial))))) (And.intro (by first | rfl | exact row_ns (by simp) | exact congrArg (fun x => some (AO.blk (.stringIter _ x))) (by omega)) (trivial))
  · refine awp_exit ?_
    refine hK1 _ ?_
    refine awp_seq fun K9 hK9 => ?_
    refine awp_region rfl ?_
    refine o_assign (AV.lit (.bool true)) Gd.none rfl ?_
    refine aops_end ?_
    refine hK9 _ ?_
    refine awp_ret ?_
    refine post_ret ⟨[(AV.lit (.bool true))], And.intro (AV.le_refl _) (trivial), rfl, ?_⟩
    exact (bl_bp (b := true) ⟨fun _ => (show freeM m from fun k hk => hf k (by omega)), fun _ => rfl⟩).symm

end Go.Proofs.YtbilndahjkimkaaDoor

set_option linter.unusedVariables false
set_option linter.unusedSimpArgs false
namespace Go.Proofs.YtbilndahjkimkaaDoor
open Go Go.Ab Go.Mth
theorem fieldsLine : Tryd.prog.fieldsOf 41 = #[{ name := "Mul", type := 9, offset := 0, embedded := false, tag := "", pkgPath := "", byteOffset := 0 }, { name := "Add", type := 9, offset := 1, embedded := false, tag := "", pkgPath := "", byteOffset := 16 }, { name := "Div", type := 9, offset := 2, embedded := false, tag := "", pkgPath := "", byteOffset := 32 }] := by kernel_rfl
theorem eq_api_Line (a1 a2 a3 b1 b2 b3 : ByteArray) : AggEq cx.P 41 [.string a1, .string a2, .string a3] [.string b1, .string b2, .string b3] (decide (a1 = b1 ∧ a2 = b2 ∧ a3 = b3)) := by
  refine ⟨by kernel_rfl, fun w => ?_⟩
  have hS : Tryd.prog.underlying 41 = some (.struct (Tryd.prog.fieldsOf 41)) := by kernel_rfl
  show (Op.equalIn 10000 41 _ _).run Tryd.prog w = _
  rw [show (10000 : Nat) = 9998 + 1 + 1 from rfl, run_equalIn_agg w (9998 + 1) _ _ _ hS (by kernel_rfl), fieldsLine]
  have uS : Tryd.prog.underlying 9 = some .string := by kernel_rfl
  simp only [Op.eqFields, part_str uS, Sem.run_bind, Sem.run_ite, run_equalIn_string _ _ _ _ _ uS]
  by_cases h1 : a1 = b1 <;> by_cases h2 : a2 = b2 <;> by_cases h3 : a3 = b3 <;> simp [ba_eq, run_equalIn_string _ _ _ _ _ uS, h1, h2, h3]
end Go.Proofs.YtbilndahjkimkaaDoor

set_option linter.unusedVariables false
set_option linter.unusedSimpArgs false
namespace Go.Proofs.YtbilndahjkimkaaDoor
open Go Go.Ab Go.Mth
theorem Wr_tO79 : tyZero cx.P 79 = some [(Go.Value.bool false), (Go.Value.slice none 0 0)] := by kernel_rfl
theorem Wr_tU77 : cx.P.underlying 77 = some (.slice 115) := by kernel_rfl
theorem Wr_tE77 : tyElem cx.P 77 = some (115, 1, 4) := by kernel_rfl
theorem Wr_tS115 : tySc cx.P 115 = true := by kernel_rfl
theorem Wr_tP79 : tyPlaces cx.P 79 = some (fun i => (#[(0, 1), (1, 1)] : Array (Nat × Nat))[i]?) := by kernel_rfl
theorem Wr_tZ79 : tySize cx.P 79 = some 2 := by kernel_rfl
theorem Wr_tA79 : tyAgg cx.P 79 = some 2 := by kernel_rfl
theorem Wr_tO115 : tyZero cx.P 115 = some [(Go.Value.int IntKind.u32 0)] := by kernel_rfl
theorem Wr_tI115 : tyInt cx.P 115 = some .u32 := by kernel_rfl
theorem Wr_tI110 : tyInt cx.P 110 = some .u64 := by kernel_rfl
theorem Wr_tC81 : callable cx.P 81 = true := by kernel_rfl
theorem Wr_tF79_1 : tyField cx.P 79 1 = some (1, 77) := by kernel_rfl
theorem Wr_tS77 : tySc cx.P 77 = true := by kernel_rfl
theorem Wr_tC96 : callable cx.P 96 = true := by kernel_rfl
theorem Wr_tC87 : callable cx.P 87 = true := by kernel_rfl
theorem Wr_tC97 : callable cx.P 97 = true := by kernel_rfl
theorem Wr_tZ115 : tySize cx.P 115 = some 1 := by kernel_rfl
theorem Wr_tC88 : callable cx.P 88 = true := by kernel_rfl
theorem c_wTrimX (neg : Bool) (xs : List Nat) (hx : Dig xs) : ECalls cx 81 [(AV.lit (.bool (neg))), (AV.sl 1 (ns .u32 (xs)))] (intC (sg neg (val xs))) := by
  refine ecalls_of_awp Tryd.func81 (c := _) rfl (Nat.le_of_ble_eq_true rfl) ?_
  show awp cx 30 _ (postF cx Tryd.f81 _) ⟨[(0, (AV.lit (.bool (neg)))), (1, (AV.sl 1 (ns .u32 (xs))))], []⟩
  refine awp_bound (i := 1) rfl fun hb => ?_
  replace hb := n_bnd hb
  refine awp_seq fun K0 hK0 => ?_
  refine awp_region rfl ?_
  refine o_alloc 2 [(AV.lit (.bool false)), (AV.lit (.slice none 0 0))] Gd.none Wr_tO79 rfl rfl rfl ?_
  refine aops_end ?_
  refine hK0 _ ?_
  refine awp_seq fun K1 hK1 => ?_
  refine awp_region rfl ?_
  refine o_move (AV.sl 1 (ns .u32 (xs))) Gd.none rfl ?_
  refine n_len (xs) Gd.none Wr_tU77 rfl ?_
  refine o_assign (nm .i64 ((xs).length)) Gd.none rfl ?_
  refine aops_end ?_
  refine hK1 _ ?_
  refine awp_seq fun K2 hK2 => ?_
  refine awp_block ?_
  refine awp_loopR (fun κ σ => ∃ (n : Nat), (n ≤ xs.length) ∧ (val (xs.take n) = val xs) ∧ (n) = κ ∧ σ = ⟨[(0, (AV.lit (.bool (neg)))), (1, (AV.sl 1 (ns .u32 (xs)))), (4, (AV.ref 2 (0))), (5, (nm .i64 (n)))], [(2, (AO.var 79 [(AV.lit (.bool false)), (AV.lit (.slice none 0 0))]))]⟩) ⟨_, _, ⟨xs.length, (Nat.le_refl _), (by rw [List.take_length]), rfl, rfl⟩, ?wk0⟩ ?rd0
  case wk0 =>
    exact Wk.sub (And.intro (by exact rfl) (And.intro (by exact rfl) (And.intro (by exact rfl) (And.intro (by first | rfl | exact congrArg (nm _) (by omega) | exact nm_int (by omega) | exact nm_int (by simp [IntKind.wrap, IntKind.bits, IntKind.signed]; omega)) (trivial))))) (And.intro (by first | rfl | exact row_ns (by simp) | exact congrArg (fun x => some (AO.blk (.stringIter _ x))) (by omega)) (trivial))
  rintro κ _ ⟨n, hn, hv, rfl, rfl⟩
  refine awp_seq fun K3 hK3 => ?_
  refine awp_seq fun K4 hK4 => ?_
  refine awp_region rfl ?_
  refine o_move (nm .i64 (n)) Gd.none rfl ?_
  refine n_gtr (n) (0) Gd.none rfl rfl ?_
  refine o_move (bp ((0) < (n))) Gd.none rfl ?_
  refine o_splitP (q := (0) < (n)) 10 rfl (fun h1 => ?_) (fun h1 => ?_)
  · refine o_move (AV.sl 1 (ns .u32 (xs))) (Gd.yes rfl rfl (decide_eq_true h1)) rfl ?_
    refine o_move (nm .i64 (n)) (Gd.yes rfl rfl (decide_eq_true h1)) rfl ?_
    refine n_sub (n) (1) (Gd.yes rfl rfl (decide_eq_true h1)) rfl rfl (by omega) (by simp only [topOf]; omega) ?_
    refine n_index (xs) ((n) - (1)) (Gd.yes rfl rfl (decide_eq_true h1)) Wr_tE77 rfl rfl (by omega) ?_
    refine n_loadI (xs) ((n) - (1)) (Gd.yes rfl rfl (decide_eq_true h1)) Wr_tS115 rfl (by omega) ?_
    refine n_eql ((xs).getD ((n) - (1)) 0) (0) (Gd.yes rfl rfl (decide_eq_true h1)) rfl rfl ?_
    refine o_pickT (b := decide ((0) < (n))) (bp (((xs).getD ((n) - (1)) 0) = (0))) Gd.none rfl (decide_eq_true h1) rfl ?_
    refine aops_end ?_
    refine hK4 _ ?_
    refine awp_condQ (q := ((xs).getD ((n) - (1)) 0) = (0)) rfl (fun h2 => ?_) (fun h2 => ?_)
    · refine awp_skip ?_
      refine hK3 _ ?_
      refine awp_block ?_
      refine awp_region rfl ?_
      refine o_move (nm .i64 (n)) Gd.none rfl ?_
      refine n_sub (n) (1) Gd.none rfl rfl (by omega) (by simp only [topOf]; omega) ?_
      refine o_assign (nm .i64 ((n) - (1))) Gd.none rfl ?_
      refine aops_end ?_
      refine ⟨_, _, ?lt, ⟨n - 1, (by omega), (by rw [← take_getD_zero (by assumption) hn (by assumption)]; exact hv), rfl, rfl⟩, ?wk⟩
      case lt => omega
      case wk => exact Wk.sub (And.intro (by exact rfl) (And.intro (by exact rfl) (And.intro (by exact rfl) (And.intro (by first | rfl | exact congrArg (nm _) (by omega) | exact nm_int (by omega) | exact nm_int (by simp [IntKind.wrap, IntKind.bits, IntKind.signed]; omega)) (trivial))))) (And.intro (by first | rfl | exact row_ns (by simp) | exact congrArg (fun x => some (AO.blk (.stringIter _ x))) (by omega)) (trivial))
    · refine awp_exit ?_
      refine hK2 _ ?_
      refine awp_seq fun K5 hK5 => ?_
      refine awp_region rfl ?_
      refine o_move (AV.lit (.bool (neg))) Gd.none rfl ?_
      refine o_move (AV.lit (.bool (neg))) Gd.none rfl ?_
      refine o_split (b := neg) 21 rfl (fun h3 => ?_) (fun h3 => ?_)
      · refine o_move (nm .i64 (n)) (Gd.yes rfl rfl h3) rfl ?_
        refine n_gtr (n) (0) (Gd.yes rfl rfl h3) rfl rfl ?_
        refine o_pickT (b := neg) (bp ((0) < (n))) Gd.none rfl h3 rfl ?_
        refine o_move (AV.sl 1 (ns .u32 (xs))) Gd.none rfl ?_
        refine o_move (nm .i64 (n)) Gd.none rfl ?_
        refine o_move (nm .i64 (n)) Gd.none rfl ?_
        refine n_sliceX (xs) (0) (n) Gd.none Wr_tE77 rfl rfl (hi_nm rfl) (mx_nm rfl) rfl (by omega) (by omega) ?_
        refine o_build [(bp ((0) < (n))), (AV.slc 1 (ns .u32 (((xs).drop (0)).take (n - 0))) (n - 0))] [(0, [(bp ((0) < (n)))]), (1, [(AV.slc 1 (ns .u32 (((xs).drop (0)).take (n - 0))) (n - 0))])] Gd.none Wr_tP79 Wr_tO79 rfl rfl rfl ?_
        refine o_store [(2, (AO.var 79 [(bp ((0) < (n))), (AV.slc 1 (ns .u32 (((xs).drop (0)).take (n - 0))) (n - 0))]))] Gd.none Wr_tZ79 rfl rfl rfl rfl rfl rfl ?_
        refine aops_end ?_
        refine hK5 _ ?_
        refine awp_ret ?_
        refine post_ret ⟨[(AV.agg [(bp ((0) < (n))), (AV.slc 1 (ns .u32 (((xs).drop (0)).take (n - 0))) (n - 0))])], And.intro ⟨2, (AO.var 79 [(bp ((0) < (n))), (AV.slc 1 (ns .u32 (((xs).drop (0)).take (n - 0))) (n - 0))]), rfl, rfl, rfl, Or.inl ⟨Wr_tA79, AV.le_refl _⟩⟩ (trivial), rfl, ?_⟩
        subst h3
        exact (trimc_fin (neg := true) hx hn hv (by first | (left; omega) | (right; assumption))).symm
      · refine o_skip (b := neg) rfl rfl h3 ?_
        refine o_skip (b := neg) rfl rfl h3 ?_
        refine o_pickF (b := neg) (AV.lit (.bool false)) Gd.none rfl h3 rfl ?_
        refine o_move (AV.sl 1 (ns .u32 (xs))) Gd.none rfl ?_
        refine o_move (nm .i64 (n)) Gd.none rfl ?_
        refine o_move (nm .i64 (n)) Gd.none rfl ?_
        refine n_sliceX (xs) (0) (n) Gd.none Wr_tE77 rfl rfl (hi_nm rfl) (mx_nm rfl) rfl (by omega) (by omega) ?_
        refine o_build [(AV.lit (.bool false)), (AV.slc 1 (ns .u32 (((xs).drop (0)).take (n - 0))) (n - 0))] [(0, [(AV.lit (.bool false))]), (1, [(AV.slc 1 (ns .u32 (((xs).drop (0)).take (n - 0))) (n - 0))])] Gd.none Wr_tP79 Wr_tO79 rfl rfl rfl ?_
        refine o_store [(2, (AO.var 79 [(AV.lit (.bool false)), (AV.slc 1 (ns .u32 (((xs).drop (0)).take (n - 0))) (n - 0))]))] Gd.none Wr_tZ79 rfl rfl rfl rfl rfl rfl ?_
        refine aops_end ?_
        refine hK5 _ ?_
        refine awp_ret ?_
        refine post_ret ⟨[(AV.agg [(AV.lit (.bool false)), (AV.slc 1 (ns .u32 (((xs).drop (0)).take (n - 0))) (n - 0))])], And.intro ⟨2, (AO.var 79 [(AV.lit (.bool false)), (AV.slc 1 (ns .u32 (((xs).drop (0)).take (n - 0))) (n - 0))]), rfl, rfl, rfl, Or.inl ⟨Wr_tA79, AV.le_refl _⟩⟩ (trivial), rfl, ?_⟩
        subst h3
        exact (trimc_fin (neg := false) hx hn hv (by first | (left; omega) | (right; assumption))).symm
  · refine o_skip (b := decide ((0) < (n))) rfl rfl (decide_eq_false h1) ?_
    refine o_skip (b := decide ((0) < (n))) rfl rfl (decide_eq_false h1) ?_
    refine o_skip (b := decide ((0) < (n))) rfl rfl (decide_eq_false h1) ?_
    refine o_skip (b := decide ((0) < (n))) rfl rfl (decide_eq_false h1) ?_
    refine o_skip (b := decide ((0) < (n))) rfl rfl (decide_eq_false h1) ?_
    refine o_skip (b := decide ((0) < (n))) rfl rfl (decide_eq_false h1) ?_
    refine o_pickF (b := decide ((0) < (n))) (AV.lit (.bool false)) Gd.none rfl (decide_eq_false h1) rfl ?_
    refine aops_end ?_
    refine hK4 _ ?_
    refine awp_condB (b := false) rfl (fun hh => absurd (hh.symm.trans rfl) (by decide)) (fun _ => ?_)
    refine awp_exit ?_
    refine hK2 _ ?_
    refine awp_seq fun K6 hK6 => ?_
    refine awp_region rfl ?_
    refine o_move (AV.lit (.bool (neg))) Gd.none rfl ?_
    refine o_move (AV.lit (.bool (neg))) Gd.none rfl ?_
    refine o_split (b := neg) 21 rfl (fun h4 => ?_) (fun h4 => ?_)
    · refine o_move (nm .i64 (n)) (Gd.yes rfl rfl h4) rfl ?_
      refine n_gtr (n) (0) (Gd.yes rfl rfl h4) rfl rfl ?_
      refine o_pickT (b := neg) (bp ((0) < (n))) Gd.none rfl h4 rfl ?_
      refine o_move (AV.sl 1 (ns .u32 (xs))) Gd.none rfl ?_
      refine o_move (nm .i64 (n)) Gd.none rfl ?_
      refine o_move (nm .i64 (n)) Gd.none rfl ?_
      refine n_sliceX (xs) (0) (n) Gd.none Wr_tE77 rfl rfl (hi_nm rfl) (mx_nm rfl) rfl (by omega) (by omega) ?_
      refine o_build [(bp ((0) < (n))), (AV.slc 1 (ns .u32 (((xs).drop (0)).take (n - 0))) (n - 0))] [(0, [(bp ((0) < (n)))]), (1, [(AV.slc 1 (ns .u32 (((xs).drop (0)).take (n - 0))) (n - 0))])] Gd.none Wr_tP79 Wr_tO79 rfl rfl rfl ?_
      refine o_store [(2, (AO.var 79 [(bp ((0) < (n))), (AV.slc 1 (ns .u32 (((xs).drop (0)).take (n - 0))) (n - 0))]))] Gd.none Wr_tZ79 rfl rfl rfl rfl rfl rfl ?_
      refine aops_end ?_
      refine hK6 _ ?_
      refine awp_ret ?_
      refine post_ret ⟨[(AV.agg [(bp ((0) < (n))), (AV.slc 1 (ns .u32 (((xs).drop (0)).take (n - 0))) (n - 0))])], And.intro ⟨2, (AO.var 79 [(bp ((0) < (n))), (AV.slc 1 (ns .u32 (((xs).drop (0)).take (n - 0))) (n - 0))]), rfl, rfl, rfl, Or.inl ⟨Wr_tA79, AV.le_refl _⟩⟩ (trivial), rfl, ?_⟩
      subst h4
      exact (trimc_fin (neg := true) hx hn hv (by first | (left; omega) | (right; assumption))).symm
    · refine o_skip (b := neg) rfl rfl h4 ?_
      refine o_skip (b := neg) rfl rfl h4 ?_
      refine o_pickF (b := neg) (AV.lit (.bool false)) Gd.none rfl h4 rfl ?_
      refine o_move (AV.sl 1 (ns .u32 (xs))) Gd.none rfl ?_
      refine o_move (nm .i64 (n)) Gd.none rfl ?_
      refine o_move (nm .i64 (n)) Gd.none rfl ?_
      refine n_sliceX (xs) (0) (n) Gd.none Wr_tE77 rfl rfl (hi_nm rfl) (mx_nm rfl) rfl (by omega) (by omega) ?_
      refine o_build [(AV.lit (.bool false)), (AV.slc 1 (ns .u32 (((xs).drop (0)).take (n - 0))) (n - 0))] [(0, [(AV.lit (.bool false))]), (1, [(AV.slc 1 (ns .u32 (((xs).drop (0)).take (n - 0))) (n - 0))])] Gd.none Wr_tP79 Wr_tO79 rfl rfl rfl ?_
      refine o_store [(2, (AO.var 79 [(AV.lit (.bool false)), (AV.slc 1 (ns .u32 (((xs).drop (0)).take (n - 0))) (n - 0))]))] Gd.none Wr_tZ79 rfl rfl rfl rfl rfl rfl ?_
      refine aops_end ?_
      refine hK6 _ ?_
      refine awp_ret ?_
      refine post_ret ⟨[(AV.agg [(AV.lit (.bool false)), (AV.slc 1 (ns .u32 (((xs).drop (0)).take (n - 0))) (n - 0))])], And.intro ⟨2, (AO.var 79 [(AV.lit (.bool false)), (AV.slc 1 (ns .u32 (((xs).drop (0)).take (n - 0))) (n - 0))]), rfl, rfl, rfl, Or.inl ⟨Wr_tA79, AV.le_refl _⟩⟩ (trivial), rfl, ?_⟩
      subst h4
      exact (trimc_fin (neg := false) hx hn hv (by first | (left; omega) | (right; assumption))).symm

theorem c_wTimes (m n : Nat) (hm : (digs m).length ≤ 1000000000) (hn : n < 1000000000) : ECalls cx 97 [(AV.sl 1 (ns .u32 (digs m))), (nm .u64 (n))] (.sl 1 (ns .u32 (digs (m * n)))) := by
  refine ecalls_of_awp Tryd.func97 (c := _) rfl (Nat.le_of_ble_eq_true rfl) ?_
  show awp cx 42 _ (postF cx Tryd.f97 _) ⟨[(0, (AV.sl 1 (ns .u32 (digs m)))), (1, (nm .u64 (n)))], []⟩
  refine awp_bound (i := 0) rfl fun hb => ?_
  replace hb := n_bnd hb
  refine awp_seq fun K0 hK0 => ?_
  refine awp_region rfl ?_
  refine o_assign (AV.lit (.slice none 0 0)) Gd.none rfl ?_
  refine aops_end ?_
  refine hK0 _ ?_
  refine awp_seq fun K1 hK1 => ?_
  refine awp_region rfl ?_
  refine o_move (AV.sl 1 (ns .u32 (digs m))) Gd.none rfl ?_
  refine n_len (digs m) Gd.none Wr_tU77 rfl ?_
  refine n_add ((digs m).length) (1) Gd.none rfl rfl (by simp only [topOf]; omega) ?_
  refine n_make0 .u32 2 (((digs m).length) + (1)) Gd.none Wr_tE77 Wr_tO115 rfl rfl (by omega) (by omega) rfl ?_
  refine o_assign (AV.row 2) Gd.none rfl ?_
  refine aops_end ?_
  refine hK1 _ ?_
  refine awp_seq fun K2 hK2 => ?_
  refine awp_region rfl ?_
  refine o_assign (nm .u64 (0)) Gd.none rfl ?_
  refine aops_end ?_
  refine hK2 _ ?_
  refine awp_seq fun K3 hK3 => ?_
  refine awp_seq fun K4 hK4 => ?_
  refine awp_region rfl ?_
  refine o_move (AV.sl 1 (ns .u32 (digs m))) Gd.none rfl ?_
  refine n_len (digs m) Gd.none Wr_tU77 rfl ?_
  refine o_move (nm .i64 (0)) Gd.none rfl ?_
  refine aops_end ?_
  refine hK4 _ ?_
  refine awp_block ?_
  refine awp_loopR (fun κ σ => ∃ (i : Nat), ∃ (r : List Nat), ∃ (c : Nat), (r.length = i) ∧ (i ≤ (digs m).length) ∧ (Dig r) ∧ (c < 1000000000) ∧ (val r + 1000000000 ^ i * c = val ((digs m).take i) * n) ∧ ((digs m).length - i) = κ ∧ σ = ⟨[(1, (nm .u64 (n))), (5, (AV.row 3)), (6, (nm .u64 (c))), (14, (AV.sl 1 (ns .u32 (digs m)))), (15, (nm .i64 ((digs m).length))), (16, (nm .i64 (i)))], [(3, (AO.row 115 1 (ns .u32 (r))))]⟩) ⟨_, _, ⟨0, [], 0, rfl, (by omega), Dig.nil, (by omega), (by simp [val]), rfl, rfl⟩, ?wk0⟩ ?rd0
  case wk0 =>
    exact Wk.trans (Wk.sub (σ' := ⟨[(1, (nm .u64 (n))), (5, (AV.row 2)), (6, (nm .u64 (0))), (14, (AV.sl 1 (ns .u32 (digs m)))), (15, (nm .i64 ((digs m).length))), (16, (nm .i64 (0)))], [(2, (AO.row 115 1 (ns .u32 ([]))))]⟩) (And.intro rfl (And.intro rfl (And.intro rfl (And.intro rfl (And.intro rfl (And.intro rfl (trivial))))))) (And.intro rfl (trivial))) (Wk.trans (Wk.ren (id := 2) (id' := 3) rfl) (Wk.sub (And.intro (by exact rfl) (And.intro (by first | rfl | (simp)) (And.intro (by first | rfl | exact congrArg (nm _) (by omega) | exact nm_int (by omega) | exact nm_int (by simp [IntKind.wrap, IntKind.bits, IntKind.signed]; omega)) (And.intro (by exact rfl) (And.intro (by exact rfl) (And.intro (by first | rfl | exact congrArg (nm _) (by omega) | exact nm_int (by omega) | exact nm_int (by simp [IntKind.wrap, IntKind.bits, IntKind.signed]; omega)) (trivial))))))) (And.intro (by first | rfl | exact row_ns (by simp) | exact congrArg (fun x => some (AO.blk (.stringIter _ x))) (by omega)) (trivial))))
  rintro κ _ ⟨i, r, c, hl, hi, hd, hc, hv, rfl, rfl⟩
  have hA := Dig.getD (digs_dig m) i
  have hAn : ((digs m).getD (i) 0) * n ≤ 999999999 * 999999999 := Nat.mul_le_mul (by omega) (by omega)
  refine awp_seq fun K5 hK5 => ?_
  refine awp_region rfl ?_
  refine n_lss (i) ((digs m).length) Gd.none rfl rfl ?_
  refine aops_end ?_
  refine hK5 _ ?_
  refine awp_seq fun K6 hK6 => ?_
  refine awp_condQ (q := (i) < ((digs m).length)) rfl (fun h1 => ?_) (fun h1 => ?_)
  · refine awp_skip ?_
    refine hK6 _ ?_
    refine awp_seq fun K7 hK7 => ?_
    refine awp_block ?_
    refine awp_seq fun K8 hK8 => ?_
    refine awp_region rfl ?_
    refine n_index (digs m) (i) Gd.none Wr_tE77 rfl rfl (by omega) ?_
    refine n_loadI (digs m) (i) Gd.none Wr_tS115 rfl (by omega) ?_
    refine o_assign (nm .u32 ((digs m).getD (i) 0)) Gd.none rfl ?_
    refine aops_end ?_
    refine hK8 _ ?_
    refine awp_seq fun K9 hK9 => ?_
    refine awp_region rfl ?_
    refine o_move (nm .u32 ((digs m).getD (i) 0)) Gd.none rfl ?_
    refine n_conv ((digs m).getD (i) 0) Gd.none rfl Wr_tI115 Wr_tI110 (by simp only [topOf]; omega) ?_
    refine o_move (nm .u64 (n)) Gd.none rfl ?_
    refine n_mul ((digs m).getD (i) 0) (n) Gd.none rfl rfl (by simp only [topOf]; omega) ?_
    refine o_move (nm .u64 (c)) Gd.none rfl ?_
    refine n_add (((digs m).getD (i) 0) * (n)) (c) Gd.none rfl rfl (by simp only [topOf]; omega) ?_
    refine o_assign (nm .u64 ((((digs m).getD (i) 0) * (n)) + (c))) Gd.none rfl ?_
    refine aops_end ?_
    refine hK9 _ ?_
    refine awp_seq fun K10 hK10 => ?_
    refine awp_region rfl ?_
    refine o_move (AV.row 3) Gd.none rfl ?_
    refine o_move (nm .u64 ((((digs m).getD (i) 0) * (n)) + (c))) Gd.none rfl ?_
    refine n_rem ((((digs m).getD (i) 0) * (n)) + (c)) (1000000000) Gd.none rfl rfl (by omega) ?_
    refine n_conv (((((digs m).getD (i) 0) * (n)) + (c)) % (1000000000)) Gd.none rfl Wr_tI110 Wr_tI115 (by simp only [topOf]; omega) ?_
    refine o_buildSlice 101 (ns .u32 ([((((digs m).getD (i) 0) * (n)) + (c)) % (1000000000)])) [(0, [(nm .u32 (((((digs m).getD (i) 0) * (n)) + (c)) % (1000000000)))])] Gd.none Wr_tE77 rfl Wr_tO115 rfl rfl rfl rfl rfl rfl rfl ?_
    refine n_append 102 (r) ([((((digs m).getD (i) 0) * (n)) + (c)) % (1000000000)]) [(101, (AO.row 115 1 (ns .u32 ([((((digs m).getD (i) 0) * (n)) + (c)) % (1000000000)]))))] Gd.none Wr_tE77 Wr_tO115 rfl rfl rfl rfl rfl (by simp only [List.length_append, List.length_cons, List.length_nil]; omega) (by decide) rfl rfl ?_
    refine o_assign (AV.row 102) Gd.none rfl ?_
    refine aops_end ?_
    refine hK10 _ ?_
    refine awp_region rfl ?_
    refine o_move (nm .u64 ((((digs m).getD (i) 0) * (n)) + (c))) Gd.none rfl ?_
    refine n_quo ((((digs m).getD (i) 0) * (n)) + (c)) (1000000000) Gd.none rfl rfl (by omega) (by simp only [topOf]; omega) ?_
    refine o_assign (nm .u64 (((((digs m).getD (i) 0) * (n)) + (c)) / (1000000000))) Gd.none rfl ?_
    refine aops_end ?_
    refine hK7 _ ?_
    refine awp_region rfl ?_
    refine n_add (i) (1) Gd.none rfl rfl (by simp only [topOf]; omega) ?_
    refine o_move (nm .i64 ((i) + (1))) Gd.none rfl ?_
    refine aops_end ?_
    refine ⟨_, _, ?lt, ⟨i + 1, (r) ++ ([((((digs m).getD (i) 0) * (n)) + (c)) % (1000000000)]), ((((digs m).getD (i) 0) * (n)) + (c)) / (1000000000), (by simp [hl]), (by omega), (hd.snoc (Nat.mod_lt _ (by decide))), (by omega), (times_step hl hv rfl), rfl, rfl⟩, ?wk⟩
    case lt => omega
    case wk => exact Wk.trans (Wk.sub (σ' := ⟨[(1, (nm .u64 (n))), (5, (AV.row 102)), (6, (nm .u64 (((((digs m).getD (i) 0) * (n)) + (c)) / (1000000000)))), (14, (AV.sl 1 (ns .u32 (digs m)))), (15, (nm .i64 ((digs m).length))), (16, (nm .i64 ((i) + (1))))], [(102, (AO.row 115 1 (ns .u32 ((r) ++ ([((((digs m).getD (i) 0) * (n)) + (c)) % (1000000000)])))))]⟩) (And.intro rfl (And.intro rfl (And.intro rfl (And.intro rfl (And.intro rfl (And.intro rfl (trivial))))))) (And.intro rfl (trivial))) (Wk.trans (Wk.ren (id := 102) (id' := 3) rfl) (Wk.sub (And.intro (by exact rfl) (And.intro (by first | rfl | (simp)) (And.intro (by first | rfl | exact congrArg (nm _) (by omega) | exact nm_int (by omega) | exact nm_int (by simp [IntKind.wrap, IntKind.bits, IntKind.signed]; omega)) (And.intro (by exact rfl) (And.intro (by exact rfl) (And.intro (by first | rfl | exact congrArg (nm _) (by omega) | exact nm_int (by omega) | exact nm_int (by simp [IntKind.wrap, IntKind.bits, IntKind.signed]; omega)) (trivial))))))) (And.intro (by first | rfl | exact row_ns (by simp) | exact congrArg (fun x => some (AO.blk (.stringIter _ x))) (by omega)) (trivial))))
  · refine awp_exit ?_
    refine hK3 _ ?_
    refine awp_seq fun K11 hK11 => ?_
    refine awp_region rfl ?_
    refine o_move (AV.row 3) Gd.none rfl ?_
    refine o_move (nm .u64 (c)) Gd.none rfl ?_
    refine n_conv (c) Gd.none rfl Wr_tI110 Wr_tI115 (by simp only [topOf]; omega) ?_
    refine o_buildSlice 101 (ns .u32 ([c])) [(0, [(nm .u32 (c))])] Gd.none Wr_tE77 rfl Wr_tO115 rfl rfl rfl rfl rfl rfl rfl ?_
    refine n_append 102 (r) ([c]) [(101, (AO.row 115 1 (ns .u32 ([c]))))] Gd.none Wr_tE77 Wr_tO115 rfl rfl rfl rfl rfl (by simp only [List.length_append, List.length_cons, List.length_nil]; omega) (by decide) rfl rfl ?_
    refine o_callG [(102, 1, (ns .u32 ((r) ++ ([c]))))] [(AV.lit (.bool false)), (AV.sl 1 (ns .u32 ((r) ++ ([c]))))] _ (intW ((sg (false) (val ((r) ++ ([c])))))) [(101, (AO.row 115 1 (ns .u32 ([c]))))] Gd.none Wr_tC81 rfl (And.intro ⟨_, rfl⟩ (trivial)) rfl rfl (LeL.cons (AV.le_refl _) (LeL.cons (AV.le_refl _) (LeL.nil))) (c_wTrim (false) ((r) ++ ([c])) (by first | assumption | exact dgn_dig _ _ | exact digs_dig _ | exact Dig.snoc (by assumption) (by assumption) | exact Dig.cons (by omega) (digs_dig _))) rfl ?_
    refine o_fieldS (AV.sl 1 (ns .u32 (digs ((sg (false) (val ((r) ++ ([c]))))).natAbs))) Gd.none Wr_tF79_1 Wr_tS77 rfl rfl ?_
    refine o_assign (AV.sl 1 (ns .u32 (digs ((sg (false) (val ((r) ++ ([c]))))).natAbs))) Gd.none rfl ?_
    refine aops_end ?_
    refine hK11 _ ?_
    refine awp_ret ?_
    refine post_ret ⟨[(AV.sl 1 (ns .u32 (digs ((sg (false) (val ((r) ++ ([c]))))).natAbs)))], And.intro (AV.le_refl _) (trivial), rfl, ?_⟩
    refine ns_congr ?_
    rw [sg_abs, times_fin (by omega) hl hv]

theorem c_wQuot (m n : Nat) (hn0 : 0 < n) (hm : (digs m).length ≤ 900000000) (hn : (digs n).length ≤ 900000000) : ECalls cx 89 [(AV.sl 1 (ns .u32 (digs m))), (AV.sl 1 (ns .u32 (digs n)))] (.tup [.sl 1 (ns .u32 (dgn (digs m).length (m / n))), .sl 1 (ns .u32 (digs (m % n)))]) := by
  refine ecalls_of_awp Tryd.func89 (c := _) rfl (Nat.le_of_ble_eq_true rfl) ?_
  show awp cx 65 _ (postF cx Tryd.f89 _) ⟨[(0, (AV.sl 1 (ns .u32 (digs m)))), (1, (AV.sl 1 (ns .u32 (digs n))))], []⟩
  refine awp_bound (i := 0) rfl fun hb => ?_
  replace hb := n_bnd hb
  refine awp_bound (i := 1) rfl fun hb2 => ?_
  replace hb2 := n_bnd hb2
  refine awp_seq fun K0 hK0 => ?_
  refine awp_region rfl ?_
  refine o_assign (AV.lit (.slice none 0 0)) Gd.none rfl ?_
  refine o_assign (AV.lit (.slice none 0 0)) Gd.none rfl ?_
  refine aops_end ?_
  refine hK0 _ ?_
  refine awp_seq fun K1 hK1 => ?_
  refine awp_region rfl ?_
  refine o_move (AV.sl 1 (ns .u32 (digs m))) Gd.none rfl ?_
  refine n_len (digs m) Gd.none Wr_tU77 rfl ?_
  refine n_make 2 ((digs m).length) Gd.none Wr_tE77 Wr_tO115 rfl rfl (by omega) rfl rfl ?_
  refine o_assign (AV.row 2) Gd.none rfl ?_
  refine aops_end ?_
  refine hK1 _ ?_
  refine awp_seq fun K2 hK2 => ?_
  refine awp_region rfl ?_
  refine o_assign (AV.lit (.slice none 0 0)) Gd.none rfl ?_
  refine aops_end ?_
  refine hK2 _ ?_
  refine awp_seq fun K3 hK3 => ?_
  refine awp_seq fun K4 hK4 => ?_
  refine awp_region rfl ?_
  refine o_move (AV.sl 1 (ns .u32 (digs m))) Gd.none rfl ?_
  refine n_len (digs m) Gd.none Wr_tU77 rfl ?_
  refine o_sub (a := ((((digs m).length : Nat) : Int))) (c := (((1 : Nat) : Int))) Gd.none rfl rfl (by exact wrap64 (by omega) (by omega)) ?_
  refine o_assign (AV.lit (.int .i64 (((((digs m).length : Nat) : Int)) - (((1 : Nat) : Int))))) Gd.none rfl ?_
  refine aops_end ?_
  refine hK4 _ ?_
  refine awp_block ?_
  refine awp_wk (Wk.slot (i := 7) (y := (AV.slc 1 (ns .u32 (digs 0)) ((digs 0).length))) (AV.le_nilc' (by decide) (by simp [digs_zero, ns]) (by simp [digs_zero]))) ?_
  refine awp_loopR (fun κ σ => ∃ (j : Nat), ∃ (o : List Nat), ∃ (r : Nat), (j ≤ (digs m).length) ∧ (o.length = (digs m).length) ∧ (Dig o) ∧ (∀ k, k < j → o.getD k 0 = 0) ∧ (r < n) ∧ (val ((digs m).drop j) = n * val (o.drop j) + r) ∧ (j) = κ ∧ σ = ⟨[(0, (AV.sl 1 (ns .u32 (digs m)))), (1, (AV.sl 1 (ns .u32 (digs n)))), (6, (AV.row 3)), (8, (AV.lit (.int .i64 ((j : Int) - 1)))), (7, (AV.slc 1 (ns .u32 (digs (r))) ((digs (r)).length)))], [(3, (AO.row 115 1 (ns .u32 (o))))]⟩) ⟨_, _, ⟨(digs m).length, List.replicate (digs m).length 0, 0, (Nat.le_refl _), (by simp), (Dig.repl _), (fun k hk => by rw [List.getD_eq_getElem?_getD, List.getElem?_replicate]; split <;> rfl), hn0, (by rw [val_drop_all (Nat.le_refl _), val_drop_all (by simp)]; simp), rfl, rfl⟩, ?wk0⟩ ?rd0
  case wk0 =>
    exact Wk.trans (Wk.sub (σ' := ⟨[(0, (AV.sl 1 (ns .u32 (digs m)))), (1, (AV.sl 1 (ns .u32 (digs n)))), (6, (AV.row 2)), (8, (AV.lit (.int .i64 (((((digs m).length : Nat) : Int)) - (((1 : Nat) : Int)))))), (7, (AV.slc 1 (ns .u32 (digs 0)) ((digs 0).length)))], [(2, (AO.row 115 1 (ns .u32 (List.replicate ((digs m).length) 0))))]⟩) (And.intro rfl (And.intro rfl (And.intro rfl (And.intro rfl (And.intro rfl (trivial)))))) (And.intro rfl (trivial))) (Wk.trans (Wk.ren (id := 2) (id' := 3) rfl) (Wk.sub (And.intro (by exact rfl) (And.intro (by exact rfl) (And.intro (by first | rfl | (simp)) (And.intro (by first | rfl | exact int_eq (by omega) | exact int_nm (by omega)) (And.intro (by first | rfl | (simp)) (trivial)))))) (And.intro (by first | rfl | exact row_ns (by simp) | exact congrArg (fun x => some (AO.blk (.stringIter _ x))) (by omega)) (trivial))))
  rintro κ _ ⟨j, o, r, hj, hl, hd, hz, hr, hv, rfl, rfl⟩
  have hA := Dig.getD (digs_dig m) (j - 1)
  have hrl := digs_len_le (Nat.le_of_lt hr)
  have hXt := quo_top hA hr
  have hXl := digs_len_le (Nat.le_of_lt hXt)
  have hXm := digs_mul_len n 1000000000
  have h10 : (digs 1000000000).length ≤ 3 := digs_len_small (by decide)
  refine awp_seq fun K5 hK5 => ?_
  refine awp_seq fun K6 hK6 => ?_
  refine awp_region rfl ?_
  refine o_move (AV.lit (.int .i64 ((j : Int) - 1))) Gd.none rfl ?_
  refine o_geq (a := ((j : Int) - 1)) (c := (((0 : Nat) : Int))) Gd.none rfl rfl ?_
  refine aops_end ?_
  refine hK6 _ ?_
  refine awp_condQ (q := (((0 : Nat) : Int)) ≤ ((j : Int) - 1)) rfl (fun h1 => ?_) (fun h1 => ?_)
  · refine awp_wk (Wk.slot (i := 8) (y := (nm .i64 (j - 1))) (AV.le_eq (by exact nm_int (by omega)))) ?_
    refine awp_skip ?_
    refine hK5 _ ?_
    refine awp_seq fun K7 hK7 => ?_
    refine awp_block ?_
    refine awp_seq fun K8 hK8 => ?_
    refine awp_region rfl ?_
    refine o_move (AV.slc 1 (ns .u32 (digs (r))) ((digs (r)).length)) Gd.none rfl ?_
    refine o_move (AV.sl 1 (ns .u32 (digs m))) Gd.none rfl ?_
    refine o_move (nm .i64 (j - 1)) Gd.none rfl ?_
    refine n_index (digs m) (j - 1) Gd.none Wr_tE77 rfl rfl (by omega) ?_
    refine n_loadI (digs m) (j - 1) Gd.none Wr_tS115 rfl (by omega) ?_
    refine o_buildSlice 101 (ns .u32 ([(digs m).getD (j - 1) 0])) [(0, [(nm .u32 ((digs m).getD (j - 1) 0))])] Gd.none Wr_tE77 rfl Wr_tO115 rfl rfl rfl rfl rfl rfl rfl ?_
    refine o_callG [(101, 1, (ns .u32 ([(digs m).getD (j - 1) 0])))] [(AV.slc 1 (ns .u32 (digs (r))) ((digs (r)).length)), (nm .i64 (0)), (AV.sl 1 (ns .u32 ([(digs m).getD (j - 1) 0])))] _ (AV.sl 1 (ns .u32 (((digs m).getD (j - 1) 0) :: digs (r)))) [(3, (AO.row 115 1 (ns .u32 (o))))] Gd.none Wr_tC96 rfl (And.intro ⟨_, rfl⟩ (trivial)) rfl rfl (LeL.cons (AV.le_refl _) (LeL.cons (AV.le_refl _) (LeL.cons (AV.le_refl _) (LeL.nil)))) (c_insert (digs (r)) ((digs m).getD (j - 1) 0) (by omega)) rfl ?_
    refine o_call [(AV.lit (.bool false)), (AV.sl 1 (ns .u32 (((digs m).getD (j - 1) 0) :: digs (r))))] (intC ((sg (false) (val (((digs m).getD (j - 1) 0) :: digs (r)))))) Gd.none Wr_tC81 rfl (c_wTrimX (false) (((digs m).getD (j - 1) 0) :: digs (r)) (by first | assumption | exact dgn_dig _ _ | exact digs_dig _ | exact Dig.snoc (by assumption) (by assumption) | exact Dig.cons (by omega) (digs_dig _))) ?_
    refine o_fieldS (AV.slc 1 (ns .u32 (digs ((sg (false) (val (((digs m).getD (j - 1) 0) :: digs (r))))).natAbs)) ((digs ((sg (false) (val (((digs m).getD (j - 1) 0) :: digs (r))))).natAbs).length)) Gd.none Wr_tF79_1 Wr_tS77 rfl rfl ?_
    refine n_as (v' := (AV.slc 1 (ns .u32 (digs (((digs m).getD (j - 1) 0 + 1000000000 * r)))) ((digs (((digs m).getD (j - 1) 0 + 1000000000 * r))).length))) (by exact nc_sg (by simp only [val, val_digs])) ?_
    refine o_assign (AV.slc 1 (ns .u32 (digs (((digs m).getD (j - 1) 0 + 1000000000 * r)))) ((digs (((digs m).getD (j - 1) 0 + 1000000000 * r))).length)) Gd.none rfl ?_
    refine aops_end ?_
    refine hK8 _ ?_
    refine awp_seq fun K9 hK9 => ?_
    refine awp_seq fun K10 hK10 => ?_
    refine awp_region rfl ?_
    refine o_move (AV.slc 1 (ns .u32 (digs (((digs m).getD (j - 1) 0 + 1000000000 * r)))) ((digs (((digs m).getD (j - 1) 0 + 1000000000 * r))).length)) Gd.none rfl ?_
    refine o_move (AV.sl 1 (ns .u32 (digs n))) Gd.none rfl ?_
    refine o_callG [] [(AV.slc 1 (ns .u32 (digs (((digs m).getD (j - 1) 0 + 1000000000 * r)))) ((digs (((digs m).getD (j - 1) 0 + 1000000000 * r))).length)), (AV.sl 1 (ns .u32 (digs n)))] _ (AV.lit (.int .i64 (cmpN ((((digs m).getD (j - 1) 0 + 1000000000 * r))) (n)))) [(3, (AO.row 115 1 (ns .u32 (o))))] Gd.none Wr_tC87 rfl (trivial) rfl rfl (LeL.cons (AV.le_slc) (LeL.cons (AV.le_refl _) (LeL.nil))) (c_wSize ((((digs m).getD (j - 1) 0 + 1000000000 * r))) (n)) rfl ?_
    refine o_lss (a := (cmpN ((((digs m).getD (j - 1) 0 + 1000000000 * r))) (n))) (c := (((0 : Nat) : Int))) Gd.none rfl rfl ?_
    refine aops_end ?_
    refine hK10 _ ?_
    refine awp_condQ (q := (cmpN ((((digs m).getD (j - 1) 0 + 1000000000 * r))) (n)) < (((0 : Nat) : Int))) rfl (fun h2 => ?_) (fun h2 => ?_)
    · have hXn := cmpN_neg h2
      refine awp_exit ?_
      refine hK7 _ ?_
      refine awp_region rfl ?_
      refine o_move (nm .i64 (j - 1)) Gd.none rfl ?_
      refine o_sub (a := (((j - 1 : Nat) : Int))) (c := (((1 : Nat) : Int))) Gd.none rfl rfl (by exact wrap64 (by omega) (by omega)) ?_
      refine o_assign (AV.lit (.int .i64 ((((j - 1 : Nat) : Int)) - (((1 : Nat) : Int))))) Gd.none rfl ?_
      refine aops_end ?_
      refine ⟨_, _, ?lt, ⟨j - 1, o, ((digs m).getD (j - 1) 0 + 1000000000 * r), (by omega), hl, hd, (fun k hk => hz k (by omega)), hXn, (quo_skip (by omega) hl (by rw [Nat.sub_add_cancel (by omega)]; exact hv) (hz _ (by omega)) hXn), rfl, rfl⟩, ?wk⟩
      case lt => omega
      case wk => exact Wk.sub (And.intro (by exact rfl) (And.intro (by exact rfl) (And.intro (by exact rfl) (And.intro (by first | rfl | exact int_eq (by omega) | exact int_nm (by omega)) (And.intro (by first | rfl | (simp)) (trivial)))))) (And.intro (by first | rfl | exact row_ns (by simp) | exact congrArg (fun x => some (AO.blk (.stringIter _ x))) (by omega)) (trivial))
    · have hXn := cmpN_nneg h2
      refine awp_skip ?_
      refine hK9 _ ?_
      refine awp_seq fun K11 hK11 => ?_
      refine awp_region rfl ?_
      refine o_assign (nm .u64 (0)) Gd.none rfl ?_
      refine o_assign (nm .u64 (1000000000)) Gd.none rfl ?_
      refine aops_end ?_
      refine hK11 _ ?_
      refine awp_seq fun K12 hK12 => ?_
      refine awp_block ?_
      refine awp_loopR (fun κ σ => ∃ (l : Nat), ∃ (h : Nat), (l < h) ∧ (h ≤ 1000000000) ∧ (n * l ≤ ((digs m).getD (j - 1) 0 + 1000000000 * r)) ∧ (((digs m).getD (j - 1) 0 + 1000000000 * r) < n * h) ∧ (h - l) = κ ∧ σ = ⟨[(0, (AV.sl 1 (ns .u32 (digs m)))), (1, (AV.sl 1 (ns .u32 (digs n)))), (6, (AV.row 3)), (8, (nm .i64 (j - 1))), (7, (AV.slc 1 (ns .u32 (digs (((digs m).getD (j - 1) 0 + 1000000000 * r)))) ((digs (((digs m).getD (j - 1) 0 + 1000000000 * r))).length))), (9, (nm .u64 (l))), (10, (nm .u64 (h)))], [(3, (AO.row 115 1 (ns .u32 (o))))]⟩) ⟨_, _, ⟨0, 1000000000, (by decide), (Nat.le_refl _), (by rw [Nat.mul_zero]; exact Nat.zero_le _), hXt, rfl, rfl⟩, ?wk1⟩ ?rd1
      case wk1 =>
        exact Wk.sub (And.intro (by exact rfl) (And.intro (by exact rfl) (And.intro (by exact rfl) (And.intro (by exact rfl) (And.intro (by exact rfl) (And.intro (by first | rfl | exact congrArg (nm _) (by omega) | exact nm_int (by omega) | exact nm_int (by simp [IntKind.wrap, IntKind.bits, IntKind.signed]; omega)) (And.intro (by first | rfl | exact congrArg (nm _) (by omega) | exact nm_int (by omega) | exact nm_int (by simp [IntKind.wrap, IntKind.bits, IntKind.signed]; omega)) (trivial)))))))) (And.intro (by first | rfl | exact row_ns (by simp) | exact congrArg (fun x => some (AO.blk (.stringIter _ x))) (by omega)) (trivial))
      rintro κ _ ⟨l, h, hlh, hh, hlo, hhi, rfl, rfl⟩
      have hml := digs_mul_len n ((l + h) / 2)
      have hmd := digs_len_small (n := (l + h) / 2) (by omega)
      have hnl := digs_len_le hlo
      refine awp_seq fun K13 hK13 => ?_
      refine awp_seq fun K14 hK14 => ?_
      refine awp_region rfl ?_
      refine o_move (nm .u64 (h)) Gd.none rfl ?_
      refine o_move (nm .u64 (l)) Gd.none rfl ?_
      refine n_sub (h) (l) Gd.none rfl rfl (by omega) (by simp only [topOf]; omega) ?_
      refine n_gtr ((h) - (l)) (1) Gd.none rfl rfl ?_
      refine aops_end ?_
      refine hK14 _ ?_
      refine awp_condQ (q := (1) < ((h) - (l))) rfl (fun h3 => ?_) (fun h3 => ?_)
      · refine awp_skip ?_
        refine hK13 _ ?_
        refine awp_block ?_
        refine awp_seq fun K15 hK15 => ?_
        refine awp_region rfl ?_
        refine o_move (nm .u64 (l)) Gd.none rfl ?_
        refine o_move (nm .u64 (h)) Gd.none rfl ?_
        refine n_add (l) (h) Gd.none rfl rfl (by simp only [topOf]; omega) ?_
        refine n_quo ((l) + (h)) (2) Gd.none rfl rfl (by omega) (by simp only [topOf]; omega) ?_
        refine o_assign (nm .u64 (((l) + (h)) / (2))) Gd.none rfl ?_
        refine aops_end ?_
        refine hK15 _ ?_
        refine awp_seq fun K16 hK16 => ?_
        refine awp_region rfl ?_
        refine o_move (AV.sl 1 (ns .u32 (digs n))) Gd.none rfl ?_
        refine o_move (nm .u64 (((l) + (h)) / (2))) Gd.none rfl ?_
        refine o_call [(AV.sl 1 (ns .u32 (digs n))), (nm .u64 (((l) + (h)) / (2)))] (AV.sl 1 (ns .u32 (digs (n * (((l) + (h)) / (2)))))) Gd.none Wr_tC97 rfl (c_wTimes (n) (((l) + (h)) / (2)) (by omega) (by omega)) ?_
        refine o_move (AV.slc 1 (ns .u32 (digs (((digs m).getD (j - 1) 0 + 1000000000 * r)))) ((digs (((digs m).getD (j - 1) 0 + 1000000000 * r))).length)) Gd.none rfl ?_
        refine o_callG [] [(AV.sl 1 (ns .u32 (digs (n * (((l) + (h)) / (2)))))), (AV.slc 1 (ns .u32 (digs (((digs m).getD (j - 1) 0 + 1000000000 * r)))) ((digs (((digs m).getD (j - 1) 0 + 1000000000 * r))).length))] _ (AV.lit (.int .i64 (cmpN ((n * (((l) + (h)) / (2)))) ((((digs m).getD (j - 1) 0 + 1000000000 * r)))))) [(3, (AO.row 115 1 (ns .u32 (o))))] Gd.none Wr_tC87 rfl (trivial) rfl rfl (LeL.cons (AV.le_refl _) (LeL.cons (AV.le_slc) (LeL.nil))) (c_wSize ((n * (((l) + (h)) / (2)))) ((((digs m).getD (j - 1) 0 + 1000000000 * r)))) rfl ?_
        refine o_leq (a := (cmpN ((n * (((l) + (h)) / (2)))) ((((digs m).getD (j - 1) 0 + 1000000000 * r))))) (c := (((0 : Nat) : Int))) Gd.none rfl rfl ?_
        refine aops_end ?_
        refine hK16 _ ?_
        refine awp_condQ (q := (cmpN ((n * (((l) + (h)) / (2)))) ((((digs m).getD (j - 1) 0 + 1000000000 * r)))) ≤ (((0 : Nat) : Int))) rfl (fun h4 => ?_) (fun h4 => ?_)
        · refine awp_region rfl ?_
          refine o_move (nm .u64 (((l) + (h)) / (2))) Gd.none rfl ?_
          refine o_assign (nm .u64 (((l) + (h)) / (2))) Gd.none rfl ?_
          refine aops_end ?_
          refine ⟨_, _, ?lt, ⟨(l + h) / 2, h, (by omega), hh, (cmpN_le h4), hhi, rfl, rfl⟩, ?wk⟩
          case lt => omega
          case wk => exact Wk.sub (And.intro (by exact rfl) (And.intro (by exact rfl) (And.intro (by exact rfl) (And.intro (by exact rfl) (And.intro (by exact rfl) (And.intro (by first | rfl | exact congrArg (nm _) (by omega) | exact nm_int (by omega) | exact nm_int (by simp [IntKind.wrap, IntKind.bits, IntKind.signed]; omega)) (And.intro (by exact rfl) (trivial)))))))) (And.intro (by first | rfl | exact row_ns (by simp) | exact congrArg (fun x => some (AO.blk (.stringIter _ x))) (by omega)) (trivial))
        · refine awp_region rfl ?_
          refine o_move (nm .u64 (((l) + (h)) / (2))) Gd.none rfl ?_
          refine o_assign (nm .u64 (((l) + (h)) / (2))) Gd.none rfl ?_
          refine aops_end ?_
          refine ⟨_, _, ?lt, ⟨l, (l + h) / 2, (by omega), (by omega), hlo, (cmpN_nle h4), rfl, rfl⟩, ?wk⟩
          case lt => omega
          case wk => exact Wk.sub (And.intro (by exact rfl) (And.intro (by exact rfl) (And.intro (by exact rfl) (And.intro (by exact rfl) (And.intro (by exact rfl) (And.intro (by exact rfl) (And.intro (by first | rfl | exact congrArg (nm _) (by omega) | exact nm_int (by omega) | exact nm_int (by simp [IntKind.wrap, IntKind.bits, IntKind.signed]; omega)) (trivial)))))))) (And.intro (by first | rfl | exact row_ns (by simp) | exact congrArg (fun x => some (AO.blk (.stringIter _ x))) (by omega)) (trivial))
      · have hh1 : h = l + 1 := by omega
        have hend := hhi
        rw [hh1] at hend
        refine awp_exit ?_
        refine hK12 _ ?_
        refine awp_seq fun K17 hK17 => ?_
        refine awp_region rfl ?_
        refine o_move (AV.row 3) Gd.none rfl ?_
        refine o_move (nm .i64 (j - 1)) Gd.none rfl ?_
        refine o_move (nm .u64 (l)) Gd.none rfl ?_
        refine n_conv (l) Gd.none rfl Wr_tI110 Wr_tI115 (by simp only [topOf]; omega) ?_
        refine n_indexRow (o) (j - 1) Gd.none Wr_tE77 rfl rfl rfl (by omega) ?_
        refine n_storeRow (o) (j - 1) (l) [(3, (AO.row 115 1 (ns .u32 ((o).set (j - 1) (l)))))] Gd.none Wr_tZ115 rfl rfl rfl (by omega) rfl ?_
        refine aops_end ?_
        refine hK17 _ ?_
        refine awp_region rfl ?_
        refine o_move (AV.slc 1 (ns .u32 (digs (((digs m).getD (j - 1) 0 + 1000000000 * r)))) ((digs (((digs m).getD (j - 1) 0 + 1000000000 * r))).length)) Gd.none rfl ?_
        refine o_move (AV.sl 1 (ns .u32 (digs n))) Gd.none rfl ?_
        refine o_move (nm .u64 (l)) Gd.none rfl ?_
        refine o_call [(AV.sl 1 (ns .u32 (digs n))), (nm .u64 (l))] (AV.sl 1 (ns .u32 (digs (n * (l))))) Gd.none Wr_tC97 rfl (c_wTimes (n) (l) (by omega) (by omega)) ?_
        refine o_callG [] [(AV.slc 1 (ns .u32 (digs (((digs m).getD (j - 1) 0 + 1000000000 * r)))) ((digs (((digs m).getD (j - 1) 0 + 1000000000 * r))).length)), (AV.sl 1 (ns .u32 (digs (n * (l)))))] _ (AV.sl 1 (ns .u32 (dgn (digs ((((digs m).getD (j - 1) 0 + 1000000000 * r)))).length ((((digs m).getD (j - 1) 0 + 1000000000 * r)) - (n * (l)))))) [(3, (AO.row 115 1 (ns .u32 ((o).set (j - 1) (l)))))] Gd.none Wr_tC88 rfl (trivial) rfl rfl (LeL.cons (AV.le_slc) (LeL.cons (AV.le_refl _) (LeL.nil))) (c_wLess ((((digs m).getD (j - 1) 0 + 1000000000 * r))) ((n * (l))) (by omega) (by omega) (by omega)) rfl ?_
        refine o_call [(AV.lit (.bool false)), (AV.sl 1 (ns .u32 (dgn (digs ((((digs m).getD (j - 1) 0 + 1000000000 * r)))).length ((((digs m).getD (j - 1) 0 + 1000000000 * r)) - (n * (l))))))] (intC ((sg (false) (val (dgn (digs ((((digs m).getD (j - 1) 0 + 1000000000 * r)))).length ((((digs m).getD (j - 1) 0 + 1000000000 * r)) - (n * (l)))))))) Gd.none Wr_tC81 rfl (c_wTrimX (false) (dgn (digs ((((digs m).getD (j - 1) 0 + 1000000000 * r)))).length ((((digs m).getD (j - 1) 0 + 1000000000 * r)) - (n * (l)))) (by first | assumption | exact dgn_dig _ _ | exact digs_dig _ | exact Dig.snoc (by assumption) (by assumption) | exact Dig.cons (by omega) (digs_dig _))) ?_
        refine o_fieldS (AV.slc 1 (ns .u32 (digs ((sg (false) (val (dgn (digs ((((digs m).getD (j - 1) 0 + 1000000000 * r)))).length ((((digs m).getD (j - 1) 0 + 1000000000 * r)) - (n * (l))))))).natAbs)) ((digs ((sg (false) (val (dgn (digs ((((digs m).getD (j - 1) 0 + 1000000000 * r)))).length ((((digs m).getD (j - 1) 0 + 1000000000 * r)) - (n * (l))))))).natAbs).length)) Gd.none Wr_tF79_1 Wr_tS77 rfl rfl ?_
        refine n_as (v' := (AV.slc 1 (ns .u32 (digs (((digs m).getD (j - 1) 0 + 1000000000 * r) - n * l))) ((digs (((digs m).getD (j - 1) 0 + 1000000000 * r) - n * l)).length))) (by exact nc_sg (val_minus _ _)) ?_
        refine o_assign (AV.slc 1 (ns .u32 (digs (((digs m).getD (j - 1) 0 + 1000000000 * r) - n * l))) ((digs (((digs m).getD (j - 1) 0 + 1000000000 * r) - n * l)).length)) Gd.none rfl ?_
        refine aops_end ?_
        refine hK7 _ ?_
        refine awp_region rfl ?_
        refine o_move (nm .i64 (j - 1)) Gd.none rfl ?_
        refine o_sub (a := (((j - 1 : Nat) : Int))) (c := (((1 : Nat) : Int))) Gd.none rfl rfl (by exact wrap64 (by omega) (by omega)) ?_
        refine o_assign (AV.lit (.int .i64 ((((j - 1 : Nat) : Int)) - (((1 : Nat) : Int))))) Gd.none rfl ?_
        refine aops_end ?_
        refine ⟨_, _, ?lt, ⟨j - 1, o.set (j - 1) l, ((digs m).getD (j - 1) 0 + 1000000000 * r) - n * l, (by omega), (by simp only [List.length_set]; exact hl), (hd.set (by omega)), (fun k hk => by rw [getD_set_off (by omega)]; exact hz k (by omega)), (quo_rest hlo hend), (quo_put (by omega) hl (by rw [Nat.sub_add_cancel (by omega)]; exact hv) hlo hend), rfl, rfl⟩, ?wk⟩
        case lt => omega
        case wk => exact Wk.sub (And.intro (by exact rfl) (And.intro (by exact rfl) (And.intro (by exact rfl) (And.intro (by first | rfl | exact int_eq (by omega) | exact int_nm (by omega)) (And.intro (by first | rfl | (simp)) (trivial)))))) (And.intro (by first | rfl | exact row_ns (by simp) | exact congrArg (fun x => some (AO.blk (.stringIter _ x))) (by omega)) (trivial))
  · have hj0 : j = 0 := by omega
    have hv0 := hv
    rw [hj0] at hv0
    have hE := div_end hr hv0
    refine awp_exit ?_
    refine hK3 _ ?_
    refine awp_seq fun K18 hK18 => ?_
    refine awp_region rfl ?_
    refine o_move (AV.row 3) Gd.none rfl ?_
    refine o_move (AV.slc 1 (ns .u32 (digs (r))) ((digs (r)).length)) Gd.none rfl ?_
    refine o_assign (AV.row 3) Gd.none rfl ?_
    refine o_assign (AV.slc 1 (ns .u32 (digs (r))) ((digs (r)).length)) Gd.none rfl ?_
    refine aops_end ?_
    refine hK18 _ ?_
    refine awp_wk (σ' := ⟨[(4, (AV.row 3)), (5, (AV.slc 1 (ns .u32 (digs (r))) ((digs (r)).length)))], [(3, (AO.row 115 1 (ns .u32 (o))))]⟩) (Wk.sub (And.intro rfl (And.intro rfl (trivial))) (And.intro rfl (trivial))) ?_
    refine awp_wk (σ' := ⟨[(4, (AV.sl 1 (ns .u32 (o)))), (5, (AV.slc 1 (ns .u32 (digs (r))) ((digs (r)).length)))], []⟩) (Wk.freeze (id := 3) (e := 115) (sz := 1) (cs := (ns .u32 (o))) rfl) ?_
    refine awp_ret ?_
    refine post_ret ⟨[(AV.sl 1 (ns .u32 (o))), (AV.sl 1 (ns .u32 (digs (r))))], And.intro (AV.le_refl _) (And.intro (AV.le_slc) (trivial)), rfl, ?_⟩
    exact tup_eq2 (ns_congr (dgn_eq hd hl hE.1).symm) (ns_congr (by rw [← hE.2]))

end Go.Proofs.YtbilndahjkimkaaDoor

set_option linter.unusedVariables false
set_option linter.unusedSimpArgs false
namespace Go.Proofs.YtbilndahjkimkaaDoor
open Go Go.Ab Go.Mth
theorem Ws_tO79 : tyZero cx.P 79 = some [(Go.Value.bool false), (Go.Value.slice none 0 0)] := by kernel_rfl
theorem Ws_tF79_1 : tyField cx.P 79 1 = some (1, 77) := by kernel_rfl
theorem Ws_tS77 : tySc cx.P 77 = true := by kernel_rfl
theorem Ws_tC89 : callable cx.P 89 = true := by kernel_rfl
theorem Ws_tF79_0 : tyField cx.P 79 0 = some (0, 4) := by kernel_rfl
theorem Ws_tS4 : tySc cx.P 4 = true := by kernel_rfl
theorem Ws_tC81 : callable cx.P 81 = true := by kernel_rfl
theorem Ws_tZ79 : tySize cx.P 79 = some 2 := by kernel_rfl
theorem Ws_tA79 : tyAgg cx.P 79 = some 2 := by kernel_rfl
theorem Ws_tC68 : callable cx.P 68 = true := by kernel_rfl
theorem Ws_tC59 : callable cx.P 59 = true := by kernel_rfl
theorem Ws_tC90 : callable cx.P 90 = true := by kernel_rfl
theorem Ws_tC61 : callable cx.P 61 = true := by kernel_rfl
theorem c_wDivide (x y : Int) (hy : 0 < y) (hx : (digs x.natAbs).length ≤ 800000000) (hyl : (digs y.natAbs).length ≤ 800000000) : ECalls cx 62 [(intW (x)), (intW (y))] (.tup [intW (x / y), intW (x % y)]) := by
  refine ecalls_of_awp Tryd.func62 (c := _) rfl (Nat.le_of_ble_eq_true rfl) ?_
  show awp cx 40 _ (postF cx Tryd.f62 _) ⟨[(0, (intW (x))), (1, (intW (y)))], []⟩
  have hlq := fun b => len_qN b x y
  have hlr := fun b => len_rN b x y
  have hq1 : (digs ((sg (true) (val (dgn (digs ((x).natAbs)).length ((x).natAbs / (y).natAbs)))).natAbs)).length ≤ (digs x.natAbs).length := hlq true
  have hr1 : (digs ((sg (true) (val (digs ((x).natAbs % (y).natAbs)))).natAbs)).length ≤ (digs x.natAbs).length := hlr true
  have ho := len_one
  refine awp_seq fun K0 hK0 => ?_
  refine awp_region rfl ?_
  refine o_box 2 [(bp (x < 0)), (AV.sl 1 (ns .u32 (digs (x).natAbs)))] Gd.none rfl rfl ?_
  refine o_box 3 [(bp (y < 0)), (AV.sl 1 (ns .u32 (digs (y).natAbs)))] Gd.none rfl rfl ?_
  refine o_alloc 4 [(AV.lit (.bool false)), (AV.lit (.slice none 0 0))] Gd.none Ws_tO79 rfl rfl rfl ?_
  refine o_alloc 5 [(AV.lit (.bool false)), (AV.lit (.slice none 0 0))] Gd.none Ws_tO79 rfl rfl rfl ?_
  refine aops_end ?_
  refine hK0 _ ?_
  refine awp_seq fun K1 hK1 => ?_
  refine awp_region rfl ?_
  refine o_fieldRef 1 Gd.none Ws_tF79_1 rfl rfl ?_
  refine o_loadS (AV.sl 1 (ns .u32 (digs (x).natAbs))) Gd.none Ws_tS77 rfl rfl rfl ?_
  refine o_fieldRef 1 Gd.none Ws_tF79_1 rfl rfl ?_
  refine o_loadS (AV.sl 1 (ns .u32 (digs (y).natAbs))) Gd.none Ws_tS77 rfl rfl rfl ?_
  refine o_call [(AV.sl 1 (ns .u32 (digs (x).natAbs))), (AV.sl 1 (ns .u32 (digs (y).natAbs)))] (AV.tup [(AV.sl 1 (ns .u32 (dgn (digs ((x).natAbs)).length ((x).natAbs / (y).natAbs)))), (AV.sl 1 (ns .u32 (digs ((x).natAbs % (y).natAbs))))]) Gd.none Ws_tC89 rfl (c_wQuot ((x).natAbs) ((y).natAbs) (by omega) (by omega) (by omega)) ?_
  refine o_move (AV.tup [(AV.sl 1 (ns .u32 (dgn (digs ((x).natAbs)).length ((x).natAbs / (y).natAbs)))), (AV.sl 1 (ns .u32 (digs ((x).natAbs % (y).natAbs))))]) Gd.none rfl ?_
  refine o_extract (AV.sl 1 (ns .u32 (dgn (digs ((x).natAbs)).length ((x).natAbs / (y).natAbs)))) Gd.none rfl rfl ?_
  refine o_extract (AV.sl 1 (ns .u32 (digs ((x).natAbs % (y).natAbs)))) Gd.none rfl rfl ?_
  refine o_assign (AV.sl 1 (ns .u32 (dgn (digs ((x).natAbs)).length ((x).natAbs / (y).natAbs)))) Gd.none rfl ?_
  refine o_assign (AV.sl 1 (ns .u32 (digs ((x).natAbs % (y).natAbs)))) Gd.none rfl ?_
  refine aops_end ?_
  refine hK1 _ ?_
  refine awp_seq fun K2 hK2 => ?_
  refine awp_seq fun K3 hK3 => ?_
  refine awp_region rfl ?_
  refine o_fieldRef 0 Gd.none Ws_tF79_0 rfl rfl ?_
  refine o_loadS (bp (x < 0)) Gd.none Ws_tS4 rfl rfl rfl ?_
  refine o_notP (q := x < 0) Gd.none rfl ?_
  refine aops_end ?_
  refine hK3 _ ?_
  refine awp_condQ (q := ¬ (x < 0)) rfl (fun h1 => ?_) (fun h1 => ?_)
  · refine awp_seq fun K4 hK4 => ?_
    refine awp_region rfl ?_
    refine o_move (AV.sl 1 (ns .u32 (dgn (digs ((x).natAbs)).length ((x).natAbs / (y).natAbs)))) Gd.none rfl ?_
    refine o_call [(AV.lit (.bool false)), (AV.sl 1 (ns .u32 (dgn (digs ((x).natAbs)).length ((x).natAbs / (y).natAbs))))] (intW ((sg (false) (val (dgn (digs ((x).natAbs)).length ((x).natAbs / (y).natAbs)))))) Gd.none Ws_tC81 rfl (c_wTrim (false) (dgn (digs ((x).natAbs)).length ((x).natAbs / (y).natAbs)) (by first | assumption | exact dgn_dig _ _ | exact digs_dig _ | exact Dig.snoc (by assumption) (by assumption) | exact Dig.cons (by omega) (digs_dig _))) ?_
    refine o_move (AV.sl 1 (ns .u32 (digs ((x).natAbs % (y).natAbs)))) Gd.none rfl ?_
    refine o_call [(AV.lit (.bool false)), (AV.sl 1 (ns .u32 (digs ((x).natAbs % (y).natAbs))))] (intW ((sg (false) (val (digs ((x).natAbs % (y).natAbs)))))) Gd.none Ws_tC81 rfl (c_wTrim (false) (digs ((x).natAbs % (y).natAbs)) (by first | assumption | exact dgn_dig _ _ | exact digs_dig _ | exact Dig.snoc (by assumption) (by assumption) | exact Dig.cons (by omega) (digs_dig _))) ?_
    refine o_store [(5, (AO.var 79 [(AV.lit (.bool false)), (AV.lit (.slice none 0 0))])), (4, (AO.var 79 [(bp ((sg (false) (val (dgn (digs ((x).natAbs)).length ((x).natAbs / (y).natAbs)))) < 0)), (AV.sl 1 (ns .u32 (digs ((sg (false) (val (dgn (digs ((x).natAbs)).length ((x).natAbs / (y).natAbs))))).natAbs)))])), (3, (AO.var 79 [(bp (y < 0)), (AV.sl 1 (ns .u32 (digs (y).natAbs)))])), (2, (AO.var 79 [(bp (x < 0)), (AV.sl 1 (ns .u32 (digs (x).natAbs)))]))] Gd.none Ws_tZ79 rfl rfl rfl rfl rfl rfl ?_
    refine o_store [(5, (AO.var 79 [(bp ((sg (false) (val (digs ((x).natAbs % (y).natAbs)))) < 0)), (AV.sl 1 (ns .u32 (digs ((sg (false) (val (digs ((x).natAbs % (y).natAbs))))).natAbs)))])), (4, (AO.var 79 [(bp ((sg (false) (val (dgn (digs ((x).natAbs)).length ((x).natAbs / (y).natAbs)))) < 0)), (AV.sl 1 (ns .u32 (digs ((sg (false) (val (dgn (digs ((x).natAbs)).length ((x).natAbs / (y).natAbs))))).natAbs)))])), (3, (AO.var 79 [(bp (y < 0)), (AV.sl 1 (ns .u32 (digs (y).natAbs)))])), (2, (AO.var 79 [(bp (x < 0)), (AV.sl 1 (ns .u32 (digs (x).natAbs)))]))] Gd.none Ws_tZ79 rfl rfl rfl rfl rfl rfl ?_
    refine aops_end ?_
    refine hK4 _ ?_
    refine awp_ret ?_
    refine post_ret ⟨[(AV.agg [(bp ((sg (false) (val (dgn (digs ((x).natAbs)).length ((x).natAbs / (y).natAbs)))) < 0)), (AV.sl 1 (ns .u32 (digs ((sg (false) (val (dgn (digs ((x).natAbs)).length ((x).natAbs / (y).natAbs))))).natAbs)))]), (AV.agg [(bp ((sg (false) (val (digs ((x).natAbs % (y).natAbs)))) < 0)), (AV.sl 1 (ns .u32 (digs ((sg (false) (val (digs ((x).natAbs % (y).natAbs))))).natAbs)))])], And.intro ⟨4, (AO.var 79 [(bp ((sg (false) (val (dgn (digs ((x).natAbs)).length ((x).natAbs / (y).natAbs)))) < 0)), (AV.sl 1 (ns .u32 (digs ((sg (false) (val (dgn (digs ((x).natAbs)).length ((x).natAbs / (y).natAbs))))).natAbs)))]), rfl, rfl, rfl, Or.inl ⟨Ws_tA79, AV.le_refl _⟩⟩ (And.intro ⟨5, (AO.var 79 [(bp ((sg (false) (val (digs ((x).natAbs % (y).natAbs)))) < 0)), (AV.sl 1 (ns .u32 (digs ((sg (false) (val (digs ((x).natAbs % (y).natAbs))))).natAbs)))]), rfl, rfl, rfl, Or.inl ⟨Ws_tA79, AV.le_refl _⟩⟩ (trivial)), rfl, ?_⟩
    have e := div1 h1 hy
    exact tup_eq2 (congrArg intW e.1) (congrArg intW e.2)
  · refine awp_skip ?_
    refine hK2 _ ?_
    refine awp_seq fun K5 hK5 => ?_
    refine awp_region rfl ?_
    refine o_move (AV.sl 1 (ns .u32 (dgn (digs ((x).natAbs)).length ((x).natAbs / (y).natAbs)))) Gd.none rfl ?_
    refine o_call [(AV.lit (.bool true)), (AV.sl 1 (ns .u32 (dgn (digs ((x).natAbs)).length ((x).natAbs / (y).natAbs))))] (intW ((sg (true) (val (dgn (digs ((x).natAbs)).length ((x).natAbs / (y).natAbs)))))) Gd.none Ws_tC81 rfl (c_wTrim (true) (dgn (digs ((x).natAbs)).length ((x).natAbs / (y).natAbs)) (by first | assumption | exact dgn_dig _ _ | exact digs_dig _ | exact Dig.snoc (by assumption) (by assumption) | exact Dig.cons (by omega) (digs_dig _))) ?_
    refine o_move (AV.sl 1 (ns .u32 (digs ((x).natAbs % (y).natAbs)))) Gd.none rfl ?_
    refine o_call [(AV.lit (.bool true)), (AV.sl 1 (ns .u32 (digs ((x).natAbs % (y).natAbs))))] (intW ((sg (true) (val (digs ((x).natAbs % (y).natAbs)))))) Gd.none Ws_tC81 rfl (c_wTrim (true) (digs ((x).natAbs % (y).natAbs)) (by first | assumption | exact dgn_dig _ _ | exact digs_dig _ | exact Dig.snoc (by assumption) (by assumption) | exact Dig.cons (by omega) (digs_dig _))) ?_
    refine o_alloc 6 [(AV.lit (.bool false)), (AV.lit (.slice none 0 0))] Gd.none Ws_tO79 rfl rfl rfl ?_
    refine o_alloc 7 [(AV.lit (.bool false)), (AV.lit (.slice none 0 0))] Gd.none Ws_tO79 rfl rfl rfl ?_
    refine o_store [(7, (AO.var 79 [(AV.lit (.bool false)), (AV.lit (.slice none 0 0))])), (6, (AO.var 79 [(bp ((sg (true) (val (dgn (digs ((x).natAbs)).length ((x).natAbs / (y).natAbs)))) < 0)), (AV.sl 1 (ns .u32 (digs ((sg (true) (val (dgn (digs ((x).natAbs)).length ((x).natAbs / (y).natAbs))))).natAbs)))])), (5, (AO.var 79 [(AV.lit (.bool false)), (AV.lit (.slice none 0 0))])), (4, (AO.var 79 [(AV.lit (.bool false)), (AV.lit (.slice none 0 0))])), (3, (AO.var 79 [(bp (y < 0)), (AV.sl 1 (ns .u32 (digs (y).natAbs)))])), (2, (AO.var 79 [(bp (x < 0)), (AV.sl 1 (ns .u32 (digs (x).natAbs)))]))] Gd.none Ws_tZ79 rfl rfl rfl rfl rfl rfl ?_
    refine o_store [(7, (AO.var 79 [(bp ((sg (true) (val (digs ((x).natAbs % (y).natAbs)))) < 0)), (AV.sl 1 (ns .u32 (digs ((sg (true) (val (digs ((x).natAbs % (y).natAbs))))).natAbs)))])), (6, (AO.var 79 [(bp ((sg (true) (val (dgn (digs ((x).natAbs)).length ((x).natAbs / (y).natAbs)))) < 0)), (AV.sl 1 (ns .u32 (digs ((sg (true) (val (dgn (digs ((x).natAbs)).length ((x).natAbs / (y).natAbs))))).natAbs)))])), (5, (AO.var 79 [(AV.lit (.bool false)), (AV.lit (.slice none 0 0))])), (4, (AO.var 79 [(AV.lit (.bool false)), (AV.lit (.slice none 0 0))])), (3, (AO.var 79 [(bp (y < 0)), (AV.sl 1 (ns .u32 (digs (y).natAbs)))])), (2, (AO.var 79 [(bp (x < 0)), (AV.sl 1 (ns .u32 (digs (x).natAbs)))]))] Gd.none Ws_tZ79 rfl rfl rfl rfl rfl rfl ?_
    refine aops_end ?_
    refine hK5 _ ?_
    refine awp_seq fun K6 hK6 => ?_
    refine awp_seq fun K7 hK7 => ?_
    refine awp_region rfl ?_
    refine o_loadA [(bp ((sg (true) (val (digs ((x).natAbs % (y).natAbs)))) < 0)), (AV.sl 1 (ns .u32 (digs ((sg (true) (val (digs ((x).natAbs % (y).natAbs))))).natAbs)))] Gd.none Ws_tA79 rfl rfl rfl rfl rfl ?_
    refine o_call [(AV.agg [(bp ((sg (true) (val (digs ((x).natAbs % (y).natAbs)))) < 0)), (AV.sl 1 (ns .u32 (digs ((sg (true) (val (digs ((x).natAbs % (y).natAbs))))).natAbs)))])] (AV.lit (.int .i64 (sgn ((sg (true) (val (digs ((x).natAbs % (y).natAbs)))))))) Gd.none Ws_tC68 rfl (c_wSign ((sg (true) (val (digs ((x).natAbs % (y).natAbs)))))) ?_
    refine o_lss (a := (sgn ((sg (true) (val (digs ((x).natAbs % (y).natAbs))))))) (c := (((0 : Nat) : Int))) Gd.none rfl rfl ?_
    refine aops_end ?_
    refine hK7 _ ?_
    refine awp_condQ (q := (sgn ((sg (true) (val (digs ((x).natAbs % (y).natAbs)))))) < (((0 : Nat) : Int))) rfl (fun h2 => ?_) (fun h2 => ?_)
    · refine awp_seq fun K8 hK8 => ?_
      refine awp_regionD rfl ?_
      refine o_loadA [(bp ((sg (true) (val (dgn (digs ((x).natAbs)).length ((x).natAbs / (y).natAbs)))) < 0)), (AV.sl 1 (ns .u32 (digs ((sg (true) (val (dgn (digs ((x).natAbs)).length ((x).natAbs / (y).natAbs))))).natAbs)))] Gd.none Ws_tA79 rfl rfl rfl rfl rfl ?_
      refine o_call [(nm .i64 (1))] (intW ((1 : Int))) Gd.none Ws_tC59 rfl (c_wOf ((1 : Int)) (by first | decide | omega) (by first | decide | omega)) ?_
      refine o_call [(AV.agg [(bp ((sg (true) (val (dgn (digs ((x).natAbs)).length ((x).natAbs / (y).natAbs)))) < 0)), (AV.sl 1 (ns .u32 (digs ((sg (true) (val (dgn (digs ((x).natAbs)).length ((x).natAbs / (y).natAbs))))).natAbs)))]), (intW ((1 : Int)))] (intW (((sg (true) (val (dgn (digs ((x).natAbs)).length ((x).natAbs / (y).natAbs)))) - (1 : Int)))) Gd.none Ws_tC90 rfl (c_wSub ((sg (true) (val (dgn (digs ((x).natAbs)).length ((x).natAbs / (y).natAbs))))) ((1 : Int)) (by first | assumption | omega | (simp only [Int.natAbs_neg]; omega)) (by first | assumption | omega | (simp only [Int.natAbs_neg]; omega))) ?_
      refine o_loadA [(bp ((sg (true) (val (digs ((x).natAbs % (y).natAbs)))) < 0)), (AV.sl 1 (ns .u32 (digs ((sg (true) (val (digs ((x).natAbs % (y).natAbs))))).natAbs)))] Gd.none Ws_tA79 rfl rfl rfl rfl rfl ?_
      refine o_loadA [(bp (y < 0)), (AV.sl 1 (ns .u32 (digs (y).natAbs)))] Gd.none Ws_tA79 rfl rfl rfl rfl rfl ?_
      refine o_call [(AV.agg [(bp ((sg (true) (val (digs ((x).natAbs % (y).natAbs)))) < 0)), (AV.sl 1 (ns .u32 (digs ((sg (true) (val (digs ((x).natAbs % (y).natAbs))))).natAbs)))]), (AV.agg [(bp (y < 0)), (AV.sl 1 (ns .u32 (digs (y).natAbs)))])] (intW (((sg (true) (val (digs ((x).natAbs % (y).natAbs)))) + y))) Gd.none Ws_tC61 rfl (c_wAdd ((sg (true) (val (digs ((x).natAbs % (y).natAbs))))) (y) (by first | assumption | omega | (simp only [Int.natAbs_neg]; omega)) (by first | assumption | omega | (simp only [Int.natAbs_neg]; omega))) ?_
      refine o_store [(7, (AO.var 79 [(bp ((sg (true) (val (digs ((x).natAbs % (y).natAbs)))) < 0)), (AV.sl 1 (ns .u32 (digs ((sg (true) (val (digs ((x).natAbs % (y).natAbs))))).natAbs)))])), (6, (AO.var 79 [(bp ((sg (true) (val (dgn (digs ((x).natAbs)).length ((x).natAbs / (y).natAbs)))) < 0)), (AV.sl 1 (ns .u32 (digs ((sg (true) (val (dgn (digs ((x).natAbs)).length ((x).natAbs / (y).natAbs))))).natAbs)))])), (5, (AO.var 79 [(AV.lit (.bool false)), (AV.lit (.slice none 0 0))])), (4, (AO.var 79 [(bp (((sg (true) (val (dgn (digs ((x).natAbs)).length ((x).natAbs / (y).natAbs)))) - (1 : Int)) < 0)), (AV.sl 1 (ns .u32 (digs (((sg (true) (val (dgn (digs ((x).natAbs)).length ((x).natAbs / (y).natAbs)))) - (1 : Int))).natAbs)))])), (3, (AO.var 79 [(bp (y < 0)), (AV.sl 1 (ns .u32 (digs (y).natAbs)))])), (2, (AO.var 79 [(bp (x < 0)), (AV.sl 1 (ns .u32 (digs (x).natAbs)))]))] Gd.none Ws_tZ79 rfl rfl rfl rfl rfl rfl ?_
      refine o_store [(7, (AO.var 79 [(bp ((sg (true) (val (digs ((x).natAbs % (y).natAbs)))) < 0)), (AV.sl 1 (ns .u32 (digs ((sg (true) (val (digs ((x).natAbs % (y).natAbs))))).natAbs)))])), (6, (AO.var 79 [(bp ((sg (true) (val (dgn (digs ((x).natAbs)).length ((x).natAbs / (y).natAbs)))) < 0)), (AV.sl 1 (ns .u32 (digs ((sg (true) (val (dgn (digs ((x).natAbs)).length ((x).natAbs / (y).natAbs))))).natAbs)))])), (5, (AO.var 79 [(bp (((sg (true) (val (digs ((x).natAbs % (y).natAbs)))) + y) < 0)), (AV.sl 1 (ns .u32 (digs (((sg (true) (val (digs ((x).natAbs % (y).natAbs)))) + y)).natAbs)))])), (4, (AO.var 79 [(bp (((sg (true) (val (dgn (digs ((x).natAbs)).length ((x).natAbs / (y).natAbs)))) - (1 : Int)) < 0)), (AV.sl 1 (ns .u32 (digs (((sg (true) (val (dgn (digs ((x).natAbs)).length ((x).natAbs / (y).natAbs)))) - (1 : Int))).natAbs)))])), (3, (AO.var 79 [(bp (y < 0)), (AV.sl 1 (ns .u32 (digs (y).natAbs)))])), (2, (AO.var 79 [(bp (x < 0)), (AV.sl 1 (ns .u32 (digs (x).natAbs)))]))] Gd.none Ws_tZ79 rfl rfl rfl rfl rfl rfl ?_
      refine aops_end ⟨by kernel_rfl, ?_⟩
      refine hK8 _ ?_
      refine awp_ret ?_
      refine post_ret ⟨[(AV.agg [(bp (((sg (true) (val (dgn (digs ((x).natAbs)).length ((x).natAbs / (y).natAbs)))) - (1 : Int)) < 0)), (AV.sl 1 (ns .u32 (digs (((sg (true) (val (dgn (digs ((x).natAbs)).length ((x).natAbs / (y).natAbs)))) - (1 : Int))).natAbs)))]), (AV.agg [(bp (((sg (true) (val (digs ((x).natAbs % (y).natAbs)))) + y) < 0)), (AV.sl 1 (ns .u32 (digs (((sg (true) (val (digs ((x).natAbs % (y).natAbs)))) + y)).natAbs)))])], And.intro ⟨4, (AO.var 79 [(bp (((sg (true) (val (dgn (digs ((x).natAbs)).length ((x).natAbs / (y).natAbs)))) - (1 : Int)) < 0)), (AV.sl 1 (ns .u32 (digs (((sg (true) (val (dgn (digs ((x).natAbs)).length ((x).natAbs / (y).natAbs)))) - (1 : Int))).natAbs)))]), rfl, rfl, rfl, Or.inl ⟨Ws_tA79, AV.le_refl _⟩⟩ (And.intro ⟨5, (AO.var 79 [(bp (((sg (true) (val (digs ((x).natAbs % (y).natAbs)))) + y) < 0)), (AV.sl 1 (ns .u32 (digs (((sg (true) (val (digs ((x).natAbs % (y).natAbs)))) + y)).natAbs)))]), rfl, rfl, rfl, Or.inl ⟨Ws_tA79, AV.le_refl _⟩⟩ (trivial)), rfl, ?_⟩
      have e := div2 (Decidable.not_not.1 h1) hy h2
      exact tup_eq2 (congrArg intW e.1) (congrArg intW e.2)
    · refine awp_skip ?_
      refine hK6 _ ?_
      refine awp_seq fun K9 hK9 => ?_
      refine awp_regionD rfl ?_
      refine o_loadA [(bp ((sg (true) (val (dgn (digs ((x).natAbs)).length ((x).natAbs / (y).natAbs)))) < 0)), (AV.sl 1 (ns .u32 (digs ((sg (true) (val (dgn (digs ((x).natAbs)).length ((x).natAbs / (y).natAbs))))).natAbs)))] Gd.none Ws_tA79 rfl rfl rfl rfl rfl ?_
      refine o_loadA [(bp ((sg (true) (val (digs ((x).natAbs % (y).natAbs)))) < 0)), (AV.sl 1 (ns .u32 (digs ((sg (true) (val (digs ((x).natAbs % (y).natAbs))))).natAbs)))] Gd.none Ws_tA79 rfl rfl rfl rfl rfl ?_
      refine o_store [(7, (AO.var 79 [(bp ((sg (true) (val (digs ((x).natAbs % (y).natAbs)))) < 0)), (AV.sl 1 (ns .u32 (digs ((sg (true) (val (digs ((x).natAbs % (y).natAbs))))).natAbs)))])), (6, (AO.var 79 [(bp ((sg (true) (val (dgn (digs ((x).natAbs)).length ((x).natAbs / (y).natAbs)))) < 0)), (AV.sl 1 (ns .u32 (digs ((sg (true) (val (dgn (digs ((x).natAbs)).length ((x).natAbs / (y).natAbs))))).natAbs)))])), (5, (AO.var 79 [(AV.lit (.bool false)), (AV.lit (.slice none 0 0))])), (4, (AO.var 79 [(bp ((sg (true) (val (dgn (digs ((x).natAbs)).length ((x).natAbs / (y).natAbs)))) < 0)), (AV.sl 1 (ns .u32 (digs ((sg (true) (val (dgn (digs ((x).natAbs)).length ((x).natAbs / (y).natAbs))))).natAbs)))])), (3, (AO.var 79 [(bp (y < 0)), (AV.sl 1 (ns .u32 (digs (y).natAbs)))])), (2, (AO.var 79 [(bp (x < 0)), (AV.sl 1 (ns .u32 (digs (x).natAbs)))]))] Gd.none Ws_tZ79 rfl rfl rfl rfl rfl rfl ?_
      refine o_store [(7, (AO.var 79 [(bp ((sg (true) (val (digs ((x).natAbs % (y).natAbs)))) < 0)), (AV.sl 1 (ns .u32 (digs ((sg (true) (val (digs ((x).natAbs % (y).natAbs))))).natAbs)))])), (6, (AO.var 79 [(bp ((sg (true) (val (dgn (digs ((x).natAbs)).length ((x).natAbs / (y).natAbs)))) < 0)), (AV.sl 1 (ns .u32 (digs ((sg (true) (val (dgn (digs ((x).natAbs)).length ((x).natAbs / (y).natAbs))))).natAbs)))])), (5, (AO.var 79 [(bp ((sg (true) (val (digs ((x).natAbs % (y).natAbs)))) < 0)), (AV.sl 1 (ns .u32 (digs ((sg (true) (val (digs ((x).natAbs % (y).natAbs))))).natAbs)))])), (4, (AO.var 79 [(bp ((sg (true) (val (dgn (digs ((x).natAbs)).length ((x).natAbs / (y).natAbs)))) < 0)), (AV.sl 1 (ns .u32 (digs ((sg (true) (val (dgn (digs ((x).natAbs)).length ((x).natAbs / (y).natAbs))))).natAbs)))])), (3, (AO.var 79 [(bp (y < 0)), (AV.sl 1 (ns .u32 (digs (y).natAbs)))])), (2, (AO.var 79 [(bp (x < 0)), (AV.sl 1 (ns .u32 (digs (x).natAbs)))]))] Gd.none Ws_tZ79 rfl rfl rfl rfl rfl rfl ?_
      refine aops_end ⟨by kernel_rfl, ?_⟩
      refine hK9 _ ?_
      refine awp_ret ?_
      refine post_ret ⟨[(AV.agg [(bp ((sg (true) (val (dgn (digs ((x).natAbs)).length ((x).natAbs / (y).natAbs)))) < 0)), (AV.sl 1 (ns .u32 (digs ((sg (true) (val (dgn (digs ((x).natAbs)).length ((x).natAbs / (y).natAbs))))).natAbs)))]), (AV.agg [(bp ((sg (true) (val (digs ((x).natAbs % (y).natAbs)))) < 0)), (AV.sl 1 (ns .u32 (digs ((sg (true) (val (digs ((x).natAbs % (y).natAbs))))).natAbs)))])], And.intro ⟨4, (AO.var 79 [(bp ((sg (true) (val (dgn (digs ((x).natAbs)).length ((x).natAbs / (y).natAbs)))) < 0)), (AV.sl 1 (ns .u32 (digs ((sg (true) (val (dgn (digs ((x).natAbs)).length ((x).natAbs / (y).natAbs))))).natAbs)))]), rfl, rfl, rfl, Or.inl ⟨Ws_tA79, AV.le_refl _⟩⟩ (And.intro ⟨5, (AO.var 79 [(bp ((sg (true) (val (digs ((x).natAbs % (y).natAbs)))) < 0)), (AV.sl 1 (ns .u32 (digs ((sg (true) (val (digs ((x).natAbs % (y).natAbs))))).natAbs)))]), rfl, rfl, rfl, Or.inl ⟨Ws_tA79, AV.le_refl _⟩⟩ (trivial)), rfl, ?_⟩
      have e := div3 (Decidable.not_not.1 h1) hy h2
      exact tup_eq2 (congrArg intW e.1) (congrArg intW e.2)

end Go.Proofs.YtbilndahjkimkaaDoor

set_option linter.unusedVariables false
set_option linter.unusedSimpArgs false
namespace Go.Proofs.YtbilndahjkimkaaDoor
open Go Go.Ab Go.Mth
theorem Xa_tU22 : cx.P.underlying 22 = some (.slice 3) := by kernel_rfl
theorem Xa_tE22 : tyElem cx.P 22 = some (3, 1, 8) := by kernel_rfl
theorem Xa_tS3 : tySc cx.P 3 = true := by kernel_rfl
theorem Xa_tF24_0 : tyField cx.P 24 0 = some (0, 3) := by kernel_rfl
theorem Xa_tO89 : tyZero cx.P 89 = some [(Go.Value.bool false), (Go.Value.slice none 0 0), (Go.Value.bool false), (Go.Value.slice none 0 0), (Go.Value.bool false), (Go.Value.slice none 0 0)] := by kernel_rfl
theorem Xa_tC59 : callable cx.P 59 = true := by kernel_rfl
theorem Xa_tP89 : tyPlaces cx.P 89 = some (fun i => (#[(0, 2), (2, 2), (4, 2)] : Array (Nat × Nat))[i]?) := by kernel_rfl
theorem Xa_tZ89 : tySize cx.P 89 = some 6 := by kernel_rfl
theorem Xa_tC84 : callable cx.P 84 = true := by kernel_rfl
theorem Xa_tF24_1 : tyField cx.P 24 1 = some (1, 22) := by kernel_rfl
theorem Xa_tS22 : tySc cx.P 22 = true := by kernel_rfl
theorem Xa_tO79 : tyZero cx.P 79 = some [(Go.Value.bool false), (Go.Value.slice none 0 0)] := by kernel_rfl
theorem Xa_tZ79 : tySize cx.P 79 = some 2 := by kernel_rfl
theorem Xa_tF89_0 : tyField cx.P 89 0 = some (0, 79) := by kernel_rfl
theorem Xa_tA79 : tyAgg cx.P 79 = some 2 := by kernel_rfl
theorem Xa_tC60 : callable cx.P 60 = true := by kernel_rfl
theorem Xa_tF89_1 : tyField cx.P 89 1 = some (2, 79) := by kernel_rfl
theorem Xa_tF89_2 : tyField cx.P 89 2 = some (4, 79) := by kernel_rfl
theorem Xa_tF24_2 : tyField cx.P 24 2 = some (2, 22) := by kernel_rfl
theorem Xa_tC61 : callable cx.P 61 = true := by kernel_rfl
theorem Xa_tA89 : tyAgg cx.P 89 = some 6 := by kernel_rfl
theorem Xa_tO41 : tyZero cx.P 41 = some [(Go.Value.string {data := #[]}), (Go.Value.string {data := #[]}), (Go.Value.string {data := #[]})] := by kernel_rfl
theorem Xa_tC64 : callable cx.P 64 = true := by kernel_rfl
theorem Xa_tP41 : tyPlaces cx.P 41 = some (fun i => (#[(0, 1), (1, 1), (2, 1)] : Array (Nat × Nat))[i]?) := by kernel_rfl
theorem Xa_tZ41 : tySize cx.P 41 = some 3 := by kernel_rfl
theorem Xa_tA41 : tyAgg cx.P 41 = some 3 := by kernel_rfl
theorem Xa_tA24 : tyAgg cx.P 24 = some 3 := by kernel_rfl
theorem Xa_tC46 : callable cx.P 46 = true := by kernel_rfl
theorem Xa_tC55 : callable cx.P 55 = true := by kernel_rfl
theorem Xa_tC56 : callable cx.P 56 = true := by kernel_rfl
theorem Xa_tC57 : callable cx.P 57 = true := by kernel_rfl
theorem c_oIs (m : MapM) (w : List Int) : ECalls cx 55 [(mapV m), (AV.sl 1 (is .i64 (w)))] (bp (OkW m w)) := by
  refine ecalls_of_awp Tryd.func55 (c := _) rfl (Nat.le_of_ble_eq_true rfl) ?_
  show awp cx 25 _ (postF cx Tryd.f55 _) ⟨[(0, (mapV m)), (1, (AV.sl 1 (is .i64 (w))))], []⟩
  refine awp_bound (i := 1) rfl fun hwl => ?_
  replace hwl := is_bnd hwl
  refine awp_seq fun K0 hK0 => ?_
  refine awp_region rfl ?_
  refine o_box 2 [(AV.lit (.int .i64 (m.mod))), (AV.sl 1 (is .i64 (m.mul))), (AV.sl 1 (is .i64 (m.add)))] Gd.none rfl rfl ?_
  refine o_assign (AV.lit (.bool false)) Gd.none rfl ?_
  refine aops_end ?_
  refine hK0 _ ?_
  refine awp_seq fun K1 hK1 => ?_
  refine awp_seq fun K2 hK2 => ?_
  refine awp_region rfl ?_
  refine o_move (AV.sl 1 (is .i64 (w))) Gd.none rfl ?_
  refine i_len (w) Gd.none Xa_tU22 rfl ?_
  refine o_move (nm .i64 (0)) Gd.none rfl ?_
  refine aops_end ?_
  refine hK2 _ ?_
  refine awp_block ?_
  refine awp_loopR (fun κ σ => ∃ (i : Nat), (i ≤ w.length) ∧ (∀ k, k < i → 0 ≤ w.getD k 0 ∧ w.getD k 0 < m.mod) ∧ (w.length - i) = κ ∧ σ = ⟨[(1, (AV.sl 1 (is .i64 (w)))), (2, (AV.ref 2 (0))), (7, (AV.sl 1 (is .i64 (w)))), (8, (nm .i64 ((w).length))), (9, (nm .i64 (i)))], [(2, (AO.var 24 [(AV.lit (.int .i64 (m.mod))), (AV.sl 1 (is .i64 (m.mul))), (AV.sl 1 (is .i64 (m.add)))]))]⟩) ⟨_, _, ⟨0, (by omega), (fun k hk => by omega), rfl, rfl⟩, ?wk0⟩ ?rd0
  case wk0 =>
    exact Wk.sub (And.intro (by exact rfl) (And.intro (by exact rfl) (And.intro (by exact rfl) (And.intro (by exact rfl) (And.intro (by first | rfl | exact congrArg (nm _) (by omega) | exact nm_int (by omega) | exact nm_int (by simp [IntKind.wrap, IntKind.bits, IntKind.signed]; omega)) (trivial)))))) (And.intro (by first | rfl | exact row_ns (by simp) | exact congrArg (fun x => some (AO.blk (.stringIter _ x))) (by omega)) (trivial))
  rintro κ _ ⟨i, hi, hf, rfl, rfl⟩
  refine awp_seq fun K3 hK3 => ?_
  refine awp_region rfl ?_
  refine n_lss (i) ((w).length) Gd.none rfl rfl ?_
  refine aops_end ?_
  refine hK3 _ ?_
  refine awp_seq fun K4 hK4 => ?_
  refine awp_condQ (q := (i) < ((w).length)) rfl (fun h1 => ?_) (fun h1 => ?_)
  · refine awp_skip ?_
    refine hK4 _ ?_
    refine awp_seq fun K5 hK5 => ?_
    refine awp_block ?_
    refine awp_seq fun K6 hK6 => ?_
    refine awp_region rfl ?_
    refine i_index (w) (i) Gd.none Xa_tE22 rfl rfl (by omega) ?_
    refine i_loadI (w) (i) Gd.none Xa_tS3 rfl (by omega) ?_
    refine o_assign (AV.lit (.int .i64 ((w).getD (i) 0))) Gd.none rfl ?_
    refine aops_end ?_
    refine hK6 _ ?_
    refine awp_seq fun K7 hK7 => ?_
    refine awp_region rfl ?_
    refine o_move (AV.lit (.int .i64 ((w).getD (i) 0))) Gd.none rfl ?_
    refine o_lss (a := ((w).getD (i) 0)) (c := (((0 : Nat) : Int))) Gd.none rfl rfl ?_
    refine o_move (bp (((w).getD (i) 0) < (((0 : Nat) : Int)))) Gd.none rfl ?_
    refine o_splitP (q := ((w).getD (i) 0) < (((0 : Nat) : Int))) 15 rfl (fun h2 => ?_) (fun h2 => ?_)
    · refine o_skip (b := decide (((w).getD (i) 0) < (((0 : Nat) : Int)))) rfl rfl (decide_eq_true h2) ?_
      refine o_skip (b := decide (((w).getD (i) 0) < (((0 : Nat) : Int)))) rfl rfl (decide_eq_true h2) ?_
      refine o_skip (b := decide (((w).getD (i) 0) < (((0 : Nat) : Int)))) rfl rfl (decide_eq_true h2) ?_
      refine o_skip (b := decide (((w).getD (i) 0) < (((0 : Nat) : Int)))) rfl rfl (decide_eq_true h2) ?_
      refine o_pickT (b := decide (((w).getD (i) 0) < (((0 : Nat) : Int)))) (AV.lit (.bool true)) Gd.none rfl (decide_eq_true h2) rfl ?_
      refine aops_end ?_
      refine hK7 _ ?_
      refine awp_condB (b := true) rfl (fun _ => ?_) (fun hh => absurd (hh.symm.trans rfl) (by decide))
      refine awp_seq fun K8 hK8 => ?_
      refine awp_region rfl ?_
      refine o_assign (AV.lit (.bool false)) Gd.none rfl ?_
      refine aops_end ?_
      refine hK8 _ ?_
      refine awp_ret ?_
      refine post_ret ⟨[(AV.lit (.bool false))], And.intro (AV.le_refl _) (trivial), rfl, ?_⟩
      exact (bl_bp (b := false) ⟨fun h => (by cases h), fun h => absurd h (fun hh => absurd (isW_get hh.1 h1).1 (by omega))⟩).symm
    · refine o_move (AV.lit (.int .i64 ((w).getD (i) 0))) (Gd.yes rfl rfl (decide_eq_false h2)) rfl ?_
      refine o_fieldRef 0 (Gd.yes rfl rfl (decide_eq_false h2)) Xa_tF24_0 rfl rfl ?_
      refine o_loadS (AV.lit (.int .i64 (m.mod))) (Gd.yes rfl rfl (decide_eq_false h2)) Xa_tS3 rfl rfl rfl ?_
      refine o_geq (a := ((w).getD (i) 0)) (c := (m.mod)) (Gd.yes rfl rfl (decide_eq_false h2)) rfl rfl ?_
      refine o_pickF (b := decide (((w).getD (i) 0) < (((0 : Nat) : Int)))) (bp ((m.mod) ≤ ((w).getD (i) 0))) Gd.none rfl (decide_eq_false h2) rfl ?_
      refine aops_end ?_
      refine hK7 _ ?_
      refine awp_condQ (q := (m.mod) ≤ ((w).getD (i) 0)) rfl (fun h3 => ?_) (fun h3 => ?_)
      · refine awp_seq fun K9 hK9 => ?_
        refine awp_region rfl ?_
        refine o_assign (AV.lit (.bool false)) Gd.none rfl ?_
        refine aops_end ?_
        refine hK9 _ ?_
        refine awp_ret ?_
        refine post_ret ⟨[(AV.lit (.bool false))], And.intro (AV.le_refl _) (trivial), rfl, ?_⟩
        exact (bl_bp (b := false) ⟨fun h => (by cases h), fun h => absurd h (fun hh => absurd (isW_get hh.1 h1).2 (by omega))⟩).symm
      · refine awp_skip ?_
        refine hK5 _ ?_
        refine awp_region rfl ?_
        refine n_add (i) (1) Gd.none rfl rfl (by simp only [topOf]; omega) ?_
        refine o_move (nm .i64 ((i) + (1))) Gd.none rfl ?_
        refine aops_end ?_
        refine ⟨_, _, ?lt, ⟨i + 1, (by omega), (fun k hk => by rcases Nat.lt_or_ge k i with e | e; exact hf k e; rw [show k = i by omega]; omega), rfl, rfl⟩, ?wk⟩
        case lt => omega
        case wk => exact Wk.sub (And.intro (by exact rfl) (And.intro (by exact rfl) (And.intro (by exact rfl) (And.intro (by exact rfl) (And.intro (by first | rfl | exact congrArg (nm _) (by omega) | exact nm_int (by omega) | exact nm_int (by simp [IntKind.wrap, IntKind.bits, IntKind.signed]; omega)) (trivial)))))) (And.intro (by first | rfl | exact row_ns (by simp) | exact congrArg (fun x => some (AO.blk (.stringIter _ x))) (by omega)) (trivial))
  · refine awp_exit ?_
    refine hK1 _ ?_
    refine awp_seq fun K10 hK10 => ?_
    refine awp_region rfl ?_
    refine o_move (AV.sl 1 (is .i64 (w))) Gd.none rfl ?_
    refine i_len (w) Gd.none Xa_tU22 rfl ?_
    refine n_leq ((w).length) (200) Gd.none rfl rfl ?_
    refine o_assign (bp (((w).length) ≤ (200))) Gd.none rfl ?_
    refine aops_end ?_
    refine hK10 _ ?_
    refine awp_ret ?_
    refine post_ret ⟨[(bp (((w).length) ≤ (200)))], And.intro (AV.le_refl _) (trivial), rfl, ?_⟩
    exact bp_congr ⟨fun h => h.2, fun h => ⟨isW_of fun k hk => hf k (by omega), h⟩⟩

theorem c_oOf (m : MapM) (w : List Int) (hM : OkM m) (hw : IsW m w) (hl : w.length ≤ 200) : ECalls cx 56 [(mapV m), (AV.sl 1 (is .i64 (w)))] (linW (lineZ m w)) := by
  refine ecalls_of_awp Tryd.func56 (c := _) rfl (Nat.le_of_ble_eq_true rfl) ?_
  show awp cx 25 _ (postF cx Tryd.f56 _) ⟨[(0, (mapV m)), (1, (AV.sl 1 (is .i64 (w))))], []⟩
  have hM2 := hM
  obtain ⟨o1, o2, o3, o4, o5⟩ := hM2
  refine awp_seq fun K0 hK0 => ?_
  refine awp_region rfl ?_
  refine o_box 2 [(AV.lit (.int .i64 (m.mod))), (AV.sl 1 (is .i64 (m.mul))), (AV.sl 1 (is .i64 (m.add)))] Gd.none rfl rfl ?_
  refine o_alloc 3 [(AV.lit (.bool false)), (AV.lit (.slice none 0 0)), (AV.lit (.bool false)), (AV.lit (.slice none 0 0)), (AV.lit (.bool false)), (AV.lit (.slice none 0 0))] Gd.none Xa_tO89 rfl rfl rfl ?_
  refine aops_end ?_
  refine hK0 _ ?_
  refine awp_seq fun K1 hK1 => ?_
  refine awp_region rfl ?_
  refine o_call [(nm .i64 (1))] (intW ((1 : Int))) Gd.none Xa_tC59 rfl (c_wOf ((1 : Int)) (by first | decide | omega) (by first | decide | omega)) ?_
  refine o_call [(nm .i64 (0))] (intW ((0 : Int))) Gd.none Xa_tC59 rfl (c_wOf ((0 : Int)) (by first | decide | omega) (by first | decide | omega)) ?_
  refine o_call [(nm .i64 (1))] (intW ((1 : Int))) Gd.none Xa_tC59 rfl (c_wOf ((1 : Int)) (by first | decide | omega) (by first | decide | omega)) ?_
  refine o_build [(bp ((1 : Int) < 0)), (AV.sl 1 (ns .u32 (digs ((1 : Int)).natAbs))), (bp ((0 : Int) < 0)), (AV.sl 1 (ns .u32 (digs ((0 : Int)).natAbs))), (bp ((1 : Int) < 0)), (AV.sl 1 (ns .u32 (digs ((1 : Int)).natAbs)))] [(0, [(bp ((1 : Int) < 0)), (AV.sl 1 (ns .u32 (digs ((1 : Int)).natAbs)))]), (1, [(bp ((0 : Int) < 0)), (AV.sl 1 (ns .u32 (digs ((0 : Int)).natAbs)))]), (2, [(bp ((1 : Int) < 0)), (AV.sl 1 (ns .u32 (digs ((1 : Int)).natAbs)))])] Gd.none Xa_tP89 Xa_tO89 rfl rfl rfl ?_
  refine o_alloc 4 [(AV.lit (.bool false)), (AV.lit (.slice none 0 0)), (AV.lit (.bool false)), (AV.lit (.slice none 0 0)), (AV.lit (.bool false)), (AV.lit (.slice none 0 0))] Gd.none Xa_tO89 rfl rfl rfl ?_
  refine o_store [(4, (AO.var 89 [(bp ((1 : Int) < 0)), (AV.sl 1 (ns .u32 (digs ((1 : Int)).natAbs))), (bp ((0 : Int) < 0)), (AV.sl 1 (ns .u32 (digs ((0 : Int)).natAbs))), (bp ((1 : Int) < 0)), (AV.sl 1 (ns .u32 (digs ((1 : Int)).natAbs)))])), (3, (AO.var 89 [(AV.lit (.bool false)), (AV.lit (.slice none 0 0)), (AV.lit (.bool false)), (AV.lit (.slice none 0 0)), (AV.lit (.bool false)), (AV.lit (.slice none 0 0))])), (2, (AO.var 24 [(AV.lit (.int .i64 (m.mod))), (AV.sl 1 (is .i64 (m.mul))), (AV.sl 1 (is .i64 (m.add)))]))] Gd.none Xa_tZ89 rfl rfl rfl rfl rfl rfl ?_
  refine aops_end ?_
  refine hK1 _ ?_
  refine awp_seq fun K2 hK2 => ?_
  refine awp_region rfl ?_
  refine o_makeFunc [(AV.ref 2 (0)), (AV.ref 4 (0))] Gd.none rfl ?_
  refine o_assign (AV.clo 84 [(AV.ref 2 (0)), (AV.ref 4 (0))]) Gd.none rfl ?_
  refine aops_end ?_
  refine hK2 _ ?_
  refine awp_seq fun K3 hK3 => ?_
  refine awp_seq fun K4 hK4 => ?_
  refine awp_region rfl ?_
  refine o_move (AV.sl 1 (is .i64 (w))) Gd.none rfl ?_
  refine i_len (w) Gd.none Xa_tU22 rfl ?_
  refine o_move (nm .i64 (0)) Gd.none rfl ?_
  refine aops_end ?_
  refine hK4 _ ?_
  refine awp_block ?_
  refine awp_loopR (fun κ σ => ∃ (i : Nat), ∃ (l : LinZ), (i ≤ w.length) ∧ (l = lineZ m (w.take i)) ∧ (w.length - i) = κ ∧ σ = ⟨[(2, (AV.ref 2 (0))), (4, (AV.ref 3 (0))), (5, (AV.ref 4 (0))), (6, (AV.clo 84 [(AV.ref 2 (0)), (AV.ref 4 (0))])), (14, (AV.sl 1 (is .i64 (w)))), (15, (nm .i64 ((w).length))), (16, (nm .i64 (i)))], [(2, (AO.var 24 [(AV.lit (.int .i64 (m.mod))), (AV.sl 1 (is .i64 (m.mul))), (AV.sl 1 (is .i64 (m.add)))])), (3, (AO.var 89 [(AV.lit (.bool false)), (AV.lit (.slice none 0 0)), (AV.lit (.bool false)), (AV.lit (.slice none 0 0)), (AV.lit (.bool false)), (AV.lit (.slice none 0 0))])), (4, (AO.var 89 [(bp (((l).mul) < 0)), (AV.sl 1 (ns .u32 (digs ((l).mul).natAbs))), (bp (((l).add) < 0)), (AV.sl 1 (ns .u32 (digs ((l).add).natAbs))), (bp (((l).div) < 0)), (AV.sl 1 (ns .u32 (digs ((l).div).natAbs)))]))]⟩) ⟨_, _, ⟨0, oneZ, (by omega), rfl, rfl, rfl⟩, ?wk0⟩ ?rd0
  case wk0 =>
    exact Wk.sub (And.intro (by exact rfl) (And.intro (by exact rfl) (And.intro (by exact rfl) (And.intro (by exact rfl) (And.intro (by exact rfl) (And.intro (by exact rfl) (And.intro (by first | rfl | exact congrArg (nm _) (by omega) | exact nm_int (by omega) | exact nm_int (by simp [IntKind.wrap, IntKind.bits, IntKind.signed]; omega)) (trivial)))))))) (And.intro (by first | rfl | exact row_ns (by simp) | exact congrArg (fun x => some (AO.blk (.stringIter _ x))) (by omega)) (And.intro (by first | rfl | exact row_ns (by simp) | exact congrArg (fun x => some (AO.blk (.stringIter _ x))) (by omega)) (And.intro (by first | rfl | exact row_ns (by simp) | exact congrArg (fun x => some (AO.blk (.stringIter _ x))) (by omega)) (trivial))))
  rintro κ _ ⟨i, l, hi, hl2, rfl, rfl⟩
  refine awp_seq fun K5 hK5 => ?_
  refine awp_region rfl ?_
  refine n_lss (i) ((w).length) Gd.none rfl rfl ?_
  refine aops_end ?_
  refine hK5 _ ?_
  refine awp_seq fun K6 hK6 => ?_
  refine awp_condQ (q := (i) < ((w).length)) rfl (fun h1 => ?_) (fun h1 => ?_)
  · have hwi := isW_get hw h1
    refine awp_skip ?_
    refine hK6 _ ?_
    refine awp_seq fun K7 hK7 => ?_
    refine awp_block ?_
    refine awp_seq fun K8 hK8 => ?_
    refine awp_region rfl ?_
    refine i_index (w) (i) Gd.none Xa_tE22 rfl rfl (by omega) ?_
    refine i_loadI (w) (i) Gd.none Xa_tS3 rfl (by omega) ?_
    refine n_as (v' := (nm .i64 (((w).getD (i) 0).toNat))) (nm_int (by omega)) ?_
    refine o_assign (nm .i64 (((w).getD (i) 0).toNat)) Gd.none rfl ?_
    refine aops_end ?_
    refine hK8 _ ?_
    refine awp_wk (σ' := ⟨[(2, (AV.ref 2 (0))), (4, (AV.ref 3 (0))), (5, (AV.ref 4 (0))), (6, (AV.clo 84 [(AV.ref 2 (0)), (AV.ref 4 (0))])), (14, (AV.sl 1 (is .i64 (w)))), (15, (nm .i64 ((w).length))), (16, (nm .i64 (i))), (17, (bp ((i) < ((w).length)))), (18, (AV.ip ((is .i64 (w)).drop (i)))), (19, (nm .i64 (((w).getD (i) 0).toNat))), (8, (nm .i64 (((w).getD (i) 0).toNat)))], [(2, (AO.var 24 [(AV.lit (.int .i64 (m.mod))), (AV.sl 1 (is .i64 (m.mul))), (AV.sl 1 (is .i64 (m.add)))])), (3, (AO.var 89 [(AV.lit (.bool false)), (AV.lit (.slice none 0 0)), (AV.lit (.bool false)), (AV.lit (.slice none 0 0)), (AV.lit (.bool false)), (AV.lit (.slice none 0 0))])), (4, (AO.var 89 [(bp (((l).mul) < 0)), (AV.sl 1 (ns .u32 (digs ((l).mul).natAbs))), (bp (((l).add) < 0)), (AV.sl 1 (ns .u32 (digs ((l).add).natAbs))), (bp (((l).div) < 0)), (AV.sl 1 (ns .u32 (digs ((l).div).natAbs)))]))]⟩) (Wk.sub (And.intro rfl (And.intro rfl (And.intro rfl (And.intro rfl (And.intro rfl (And.intro rfl (And.intro rfl (And.intro rfl (And.intro rfl (And.intro rfl (And.intro rfl (trivial)))))))))))) (And.intro rfl (And.intro rfl (And.intro rfl (trivial))))) ?_
    refine awp_regionSK 2 22 _ 84 [(AV.ref 2 (0)), (AV.ref 4 (0))] _ _ _ _ _ [(nm .i64 (((w).getD (i) 0).toNat)), (AV.ref 2 (0)), (AV.ref 4 (0))] (linW (thenZ m l ((w).getD (i) 0))) [(2, (AO.var 24 [(AV.lit (.int .i64 (m.mod))), (AV.sl 1 (is .i64 (m.mul))), (AV.sl 1 (is .i64 (m.add)))])), (3, (AO.var 89 [(AV.lit (.bool false)), (AV.lit (.slice none 0 0)), (AV.lit (.bool false)), (AV.lit (.slice none 0 0)), (AV.lit (.bool false)), (AV.lit (.slice none 0 0))])), (4, (AO.var 89 [(bp (((l).mul) < 0)), (AV.sl 1 (ns .u32 (digs ((l).mul).natAbs))), (bp (((l).add) < 0)), (AV.sl 1 (ns .u32 (digs ((l).add).natAbs))), (bp (((l).div) < 0)), (AV.sl 1 (ns .u32 (digs ((l).div).natAbs)))]))] rfl rfl Xa_tC84 ?_
    refine o_move (AV.clo 84 [(AV.ref 2 (0)), (AV.ref 4 (0))]) Gd.none rfl ?_
    refine o_move (nm .i64 (((w).getD (i) 0).toNat)) Gd.none rfl ?_
    refine aops_end ⟨rfl, rfl, ?sc1, ?_⟩
    case sc1 =>
      refine scalls_of_awpB 9010 Tryd.func84 (c := _) rfl (Nat.le_of_ble_eq_true rfl) rfl rfl rfl (fun us1 => ?_)
      show awp cx 37 _ (postS cx Tryd.f84 (linW (thenZ m l ((w).getD (i) 0))) [(2, (AO.var 24 [(AV.lit (.int .i64 (m.mod))), (AV.sl 1 (is .i64 (m.mul))), (AV.sl 1 (is .i64 (m.add)))])), (3, (AO.var 89 [(AV.lit (.bool false)), (AV.lit (.slice none 0 0)), (AV.lit (.bool false)), (AV.lit (.slice none 0 0)), (AV.lit (.bool false)), (AV.lit (.slice none 0 0))])), (4, (AO.var 89 [(bp (((l).mul) < 0)), (AV.sl 1 (ns .u32 (digs ((l).mul).natAbs))), (bp (((l).add) < 0)), (AV.sl 1 (ns .u32 (digs ((l).add).natAbs))), (bp (((l).div) < 0)), (AV.sl 1 (ns .u32 (digs ((l).div).natAbs)))]))] 9010 [(nm .i64 (((w).getD (i) 0).toNat)), (AV.clo 84 [(AV.ref 2 (0)), (AV.ref 4 (0))]), (AV.ref 2 (0)), (AV.ref 3 (0)), (AV.ref 4 (0)), (AV.clo 84 [(AV.ref 2 (0)), (AV.ref 4 (0))]), (AV.sl 1 (is .i64 (w))), (nm .i64 ((w).length)), (nm .i64 (i)), (bp ((i) < ((w).length))), (AV.ip ((is .i64 (w)).drop (i))), (nm .i64 (((w).getD (i) 0).toNat)), (nm .i64 (((w).getD (i) 0).toNat))] us1) ⟨[(0, (nm .i64 (((w).getD (i) 0).toNat))), (1, (AV.ref 2 (0))), (2, (AV.ref 4 (0)))], [(9010, (AO.pin [(nm .i64 (((w).getD (i) 0).toNat)), (AV.clo 84 [(AV.ref 2 (0)), (AV.ref 4 (0))]), (AV.ref 2 (0)), (AV.ref 3 (0)), (AV.ref 4 (0)), (AV.clo 84 [(AV.ref 2 (0)), (AV.ref 4 (0))]), (AV.sl 1 (is .i64 (w))), (nm .i64 ((w).length)), (nm .i64 (i)), (bp ((i) < ((w).length))), (AV.ip ((is .i64 (w)).drop (i))), (nm .i64 (((w).getD (i) 0).toNat)), (nm .i64 (((w).getD (i) 0).toNat))] us1)), (2, (AO.var 24 [(AV.lit (.int .i64 (m.mod))), (AV.sl 1 (is .i64 (m.mul))), (AV.sl 1 (is .i64 (m.add)))])), (3, (AO.var 89 [(AV.lit (.bool false)), (AV.lit (.slice none 0 0)), (AV.lit (.bool false)), (AV.lit (.slice none 0 0)), (AV.lit (.bool false)), (AV.lit (.slice none 0 0))])), (4, (AO.var 89 [(bp (((l).mul) < 0)), (AV.sl 1 (ns .u32 (digs ((l).mul).natAbs))), (bp (((l).add) < 0)), (AV.sl 1 (ns .u32 (digs ((l).add).natAbs))), (bp (((l).div) < 0)), (AV.sl 1 (ns .u32 (digs ((l).div).natAbs)))]))]⟩
      have hor := o5 (((w).getD (i) 0).toNat) (by omega)
      obtain ⟨L1, L2, L3⟩ := line_len hM (w.take i) (isW_take hw i)
      have L4 : (w.take i).length ≤ 200 := by rw [List.length_take]; omega
      rw [← hl2] at L1 L2 L3
      have hq1 := small_len (z := ((m.mul).getD (((w).getD (i) 0).toNat) 0)) (by omega)
      have ha1 := small_len (z := ((m.add).getD (((w).getD (i) 0).toNat) 0)) (by omega)
      have hd1 := small_len (z := m.mod) (by omega)
      have hm1 := len_mulZ l.mul ((m.mul).getD (((w).getD (i) 0).toNat) 0)
      have hm2 := len_mulZ l.add ((m.mul).getD (((w).getD (i) 0).toNat) 0)
      have hm3 := len_mulZ l.div ((m.add).getD (((w).getD (i) 0).toNat) 0)
      refine awp_seq fun K9 hK9 => ?_
      refine awp_region rfl ?_
      refine o_alloc 101 [(AV.lit (.bool false)), (AV.lit (.slice none 0 0)), (AV.lit (.bool false)), (AV.lit (.slice none 0 0)), (AV.lit (.bool false)), (AV.lit (.slice none 0 0))] Gd.none Xa_tO89 rfl rfl rfl ?_
      refine aops_end ?_
      refine hK9 _ ?_
      refine awp_seq fun K10 hK10 => ?_
      refine awp_region rfl ?_
      refine o_fieldRef 1 Gd.none Xa_tF24_1 rfl rfl ?_
      refine o_loadS (AV.sl 1 (is .i64 (m.mul))) Gd.none Xa_tS22 rfl rfl rfl ?_
      refine o_move (nm .i64 (((w).getD (i) 0).toNat)) Gd.none rfl ?_
      refine i_index (m.mul) (((w).getD (i) 0).toNat) Gd.none Xa_tE22 rfl rfl (by omega) ?_
      refine i_loadI (m.mul) (((w).getD (i) 0).toNat) Gd.none Xa_tS3 rfl (by omega) ?_
      refine o_call [(AV.lit (.int .i64 ((m.mul).getD (((w).getD (i) 0).toNat) 0)))] (intW ((m.mul).getD (((w).getD (i) 0).toNat) 0)) Gd.none Xa_tC59 rfl (c_wOf ((m.mul).getD (((w).getD (i) 0).toNat) 0) (by first | decide | omega) (by first | decide | omega)) ?_
      refine o_alloc 102 [(AV.lit (.bool false)), (AV.lit (.slice none 0 0))] Gd.none Xa_tO79 rfl rfl rfl ?_
      refine o_store [(102, (AO.var 79 [(bp ((m.mul).getD (((w).getD (i) 0).toNat) 0 < 0)), (AV.sl 1 (ns .u32 (digs ((m.mul).getD (((w).getD (i) 0).toNat) 0).natAbs)))])), (101, (AO.var 89 [(AV.lit (.bool false)), (AV.lit (.slice none 0 0)), (AV.lit (.bool false)), (AV.lit (.slice none 0 0)), (AV.lit (.bool false)), (AV.lit (.slice none 0 0))])), (9010, (AO.pin [(nm .i64 (((w).getD (i) 0).toNat)), (AV.clo 84 [(AV.ref 2 (0)), (AV.ref 4 (0))]), (AV.ref 2 (0)), (AV.ref 3 (0)), (AV.ref 4 (0)), (AV.clo 84 [(AV.ref 2 (0)), (AV.ref 4 (0))]), (AV.sl 1 (is .i64 (w))), (nm .i64 ((w).length)), (nm .i64 (i)), (bp ((i) < ((w).length))), (AV.ip ((is .i64 (w)).drop (i))), (nm .i64 (((w).getD (i) 0).toNat)), (nm .i64 (((w).getD (i) 0).toNat))] us1)), (2, (AO.var 24 [(AV.lit (.int .i64 (m.mod))), (AV.sl 1 (is .i64 (m.mul))), (AV.sl 1 (is .i64 (m.add)))])), (3, (AO.var 89 [(AV.lit (.bool false)), (AV.lit (.slice none 0 0)), (AV.lit (.bool false)), (AV.lit (.slice none 0 0)), (AV.lit (.bool false)), (AV.lit (.slice none 0 0))])), (4, (AO.var 89 [(bp (((l).mul) < 0)), (AV.sl 1 (ns .u32 (digs ((l).mul).natAbs))), (bp (((l).add) < 0)), (AV.sl 1 (ns .u32 (digs ((l).add).natAbs))), (bp (((l).div) < 0)), (AV.sl 1 (ns .u32 (digs ((l).div).natAbs)))]))] Gd.none Xa_tZ79 rfl rfl rfl rfl rfl rfl ?_
      refine aops_end ?_
      refine hK10 _ ?_
      refine awp_seq fun K11 hK11 => ?_
      refine awp_regionD rfl ?_
      refine o_fieldRef 0 Gd.none Xa_tF89_0 rfl rfl ?_
      refine o_loadA [(bp (((l).mul) < 0)), (AV.sl 1 (ns .u32 (digs ((l).mul).natAbs)))] Gd.none Xa_tA79 rfl rfl rfl rfl rfl ?_
      refine o_loadA [(bp ((m.mul).getD (((w).getD (i) 0).toNat) 0 < 0)), (AV.sl 1 (ns .u32 (digs ((m.mul).getD (((w).getD (i) 0).toNat) 0).natAbs)))] Gd.none Xa_tA79 rfl rfl rfl rfl rfl ?_
      refine o_call [(AV.agg [(bp (((l).mul) < 0)), (AV.sl 1 (ns .u32 (digs ((l).mul).natAbs)))]), (AV.agg [(bp ((m.mul).getD (((w).getD (i) 0).toNat) 0 < 0)), (AV.sl 1 (ns .u32 (digs ((m.mul).getD (((w).getD (i) 0).toNat) 0).natAbs)))])] (intW ((((l).mul) * (m.mul).getD (((w).getD (i) 0).toNat) 0))) Gd.none Xa_tC60 rfl (c_wMul (((l).mul)) ((m.mul).getD (((w).getD (i) 0).toNat) 0) (by first | assumption | omega | (simp only [Int.natAbs_neg]; omega)) (by first | assumption | omega | (simp only [Int.natAbs_neg]; omega))) ?_
      refine o_fieldRef 2 Gd.none Xa_tF89_1 rfl rfl ?_
      refine o_loadA [(bp (((l).add) < 0)), (AV.sl 1 (ns .u32 (digs ((l).add).natAbs)))] Gd.none Xa_tA79 rfl rfl rfl rfl rfl ?_
      refine o_loadA [(bp ((m.mul).getD (((w).getD (i) 0).toNat) 0 < 0)), (AV.sl 1 (ns .u32 (digs ((m.mul).getD (((w).getD (i) 0).toNat) 0).natAbs)))] Gd.none Xa_tA79 rfl rfl rfl rfl rfl ?_
      refine o_call [(AV.agg [(bp (((l).add) < 0)), (AV.sl 1 (ns .u32 (digs ((l).add).natAbs)))]), (AV.agg [(bp ((m.mul).getD (((w).getD (i) 0).toNat) 0 < 0)), (AV.sl 1 (ns .u32 (digs ((m.mul).getD (((w).getD (i) 0).toNat) 0).natAbs)))])] (intW ((((l).add) * (m.mul).getD (((w).getD (i) 0).toNat) 0))) Gd.none Xa_tC60 rfl (c_wMul (((l).add)) ((m.mul).getD (((w).getD (i) 0).toNat) 0) (by first | assumption | omega | (simp only [Int.natAbs_neg]; omega)) (by first | assumption | omega | (simp only [Int.natAbs_neg]; omega))) ?_
      refine o_fieldRef 4 Gd.none Xa_tF89_2 rfl rfl ?_
      refine o_loadA [(bp (((l).div) < 0)), (AV.sl 1 (ns .u32 (digs ((l).div).natAbs)))] Gd.none Xa_tA79 rfl rfl rfl rfl rfl ?_
      refine o_fieldRef 2 Gd.none Xa_tF24_2 rfl rfl ?_
      refine o_loadS (AV.sl 1 (is .i64 (m.add))) Gd.none Xa_tS22 rfl rfl rfl ?_
      refine o_move (nm .i64 (((w).getD (i) 0).toNat)) Gd.none rfl ?_
      refine i_index (m.add) (((w).getD (i) 0).toNat) Gd.none Xa_tE22 rfl rfl (by omega) ?_
      refine i_loadI (m.add) (((w).getD (i) 0).toNat) Gd.none Xa_tS3 rfl (by omega) ?_
      refine o_call [(AV.lit (.int .i64 ((m.add).getD (((w).getD (i) 0).toNat) 0)))] (intW ((m.add).getD (((w).getD (i) 0).toNat) 0)) Gd.none Xa_tC59 rfl (c_wOf ((m.add).getD (((w).getD (i) 0).toNat) 0) (by first | decide | omega) (by first | decide | omega)) ?_
      refine o_call [(AV.agg [(bp (((l).div) < 0)), (AV.sl 1 (ns .u32 (digs ((l).div).natAbs)))]), (intW ((m.add).getD (((w).getD (i) 0).toNat) 0))] (intW ((((l).div) * (m.add).getD (((w).getD (i) 0).toNat) 0))) Gd.none Xa_tC60 rfl (c_wMul (((l).div)) ((m.add).getD (((w).getD (i) 0).toNat) 0) (by first | assumption | omega | (simp only [Int.natAbs_neg]; omega)) (by first | assumption | omega | (simp only [Int.natAbs_neg]; omega))) ?_
      refine o_call [(intW ((((l).add) * (m.mul).getD (((w).getD (i) 0).toNat) 0))), (intW ((((l).div) * (m.add).getD (((w).getD (i) 0).toNat) 0)))] (intW (((((l).add) * (m.mul).getD (((w).getD (i) 0).toNat) 0) + (((l).div) * (m.add).getD (((w).getD (i) 0).toNat) 0)))) Gd.none Xa_tC61 rfl (c_wAdd ((((l).add) * (m.mul).getD (((w).getD (i) 0).toNat) 0)) ((((l).div) * (m.add).getD (((w).getD (i) 0).toNat) 0)) (by first | assumption | omega | (simp only [Int.natAbs_neg]; omega)) (by first | assumption | omega | (simp only [Int.natAbs_neg]; omega))) ?_
      refine o_fieldRef 4 Gd.none Xa_tF89_2 rfl rfl ?_
      refine o_loadA [(bp (((l).div) < 0)), (AV.sl 1 (ns .u32 (digs ((l).div).natAbs)))] Gd.none Xa_tA79 rfl rfl rfl rfl rfl ?_
      refine o_fieldRef 0 Gd.none Xa_tF24_0 rfl rfl ?_
      refine o_loadS (AV.lit (.int .i64 (m.mod))) Gd.none Xa_tS3 rfl rfl rfl ?_
      refine o_call [(AV.lit (.int .i64 (m.mod)))] (intW ((m.mod))) Gd.none Xa_tC59 rfl (c_wOf (m.mod) (by first | decide | omega) (by first | decide | omega)) ?_
      refine o_call [(AV.agg [(bp (((l).div) < 0)), (AV.sl 1 (ns .u32 (digs ((l).div).natAbs)))]), (intW ((m.mod)))] (intW ((((l).div) * (m.mod)))) Gd.none Xa_tC60 rfl (c_wMul (((l).div)) ((m.mod)) (by first | assumption | omega | (simp only [Int.natAbs_neg]; omega)) (by first | assumption | omega | (simp only [Int.natAbs_neg]; omega))) ?_
      refine o_build [(bp ((((l).mul) * (m.mul).getD (((w).getD (i) 0).toNat) 0) < 0)), (AV.sl 1 (ns .u32 (digs ((((l).mul) * (m.mul).getD (((w).getD (i) 0).toNat) 0)).natAbs))), (bp (((((l).add) * (m.mul).getD (((w).getD (i) 0).toNat) 0) + (((l).div) * (m.add).getD (((w).getD (i) 0).toNat) 0)) < 0)), (AV.sl 1 (ns .u32 (digs (((((l).add) * (m.mul).getD (((w).getD (i) 0).toNat) 0) + (((l).div) * (m.add).getD (((w).getD (i) 0).toNat) 0))).natAbs))), (bp ((((l).div) * (m.mod)) < 0)), (AV.sl 1 (ns .u32 (digs ((((l).div) * (m.mod))).natAbs)))] [(0, [(bp ((((l).mul) * (m.mul).getD (((w).getD (i) 0).toNat) 0) < 0)), (AV.sl 1 (ns .u32 (digs ((((l).mul) * (m.mul).getD (((w).getD (i) 0).toNat) 0)).natAbs)))]), (1, [(bp (((((l).add) * (m.mul).getD (((w).getD (i) 0).toNat) 0) + (((l).div) * (m.add).getD (((w).getD (i) 0).toNat) 0)) < 0)), (AV.sl 1 (ns .u32 (digs (((((l).add) * (m.mul).getD (((w).getD (i) 0).toNat) 0) + (((l).div) * (m.add).getD (((w).getD (i) 0).toNat) 0))).natAbs)))]), (2, [(bp ((((l).div) * (m.mod)) < 0)), (AV.sl 1 (ns .u32 (digs ((((l).div) * (m.mod))).natAbs)))])] Gd.none Xa_tP89 Xa_tO89 rfl rfl rfl ?_
      refine o_store [(102, (AO.var 79 [(bp ((m.mul).getD (((w).getD (i) 0).toNat) 0 < 0)), (AV.sl 1 (ns .u32 (digs ((m.mul).getD (((w).getD (i) 0).toNat) 0).natAbs)))])), (101, (AO.var 89 [(bp ((((l).mul) * (m.mul).getD (((w).getD (i) 0).toNat) 0) < 0)), (AV.sl 1 (ns .u32 (digs ((((l).mul) * (m.mul).getD (((w).getD (i) 0).toNat) 0)).natAbs))), (bp (((((l).add) * (m.mul).getD (((w).getD (i) 0).toNat) 0) + (((l).div) * (m.add).getD (((w).getD (i) 0).toNat) 0)) < 0)), (AV.sl 1 (ns .u32 (digs (((((l).add) * (m.mul).getD (((w).getD (i) 0).toNat) 0) + (((l).div) * (m.add).getD (((w).getD (i) 0).toNat) 0))).natAbs))), (bp ((((l).div) * (m.mod)) < 0)), (AV.sl 1 (ns .u32 (digs ((((l).div) * (m.mod))).natAbs)))])), (9010, (AO.pin [(nm .i64 (((w).getD (i) 0).toNat)), (AV.clo 84 [(AV.ref 2 (0)), (AV.ref 4 (0))]), (AV.ref 2 (0)), (AV.ref 3 (0)), (AV.ref 4 (0)), (AV.clo 84 [(AV.ref 2 (0)), (AV.ref 4 (0))]), (AV.sl 1 (is .i64 (w))), (nm .i64 ((w).length)), (nm .i64 (i)), (bp ((i) < ((w).length))), (AV.ip ((is .i64 (w)).drop (i))), (nm .i64 (((w).getD (i) 0).toNat)), (nm .i64 (((w).getD (i) 0).toNat))] us1)), (2, (AO.var 24 [(AV.lit (.int .i64 (m.mod))), (AV.sl 1 (is .i64 (m.mul))), (AV.sl 1 (is .i64 (m.add)))])), (3, (AO.var 89 [(AV.lit (.bool false)), (AV.lit (.slice none 0 0)), (AV.lit (.bool false)), (AV.lit (.slice none 0 0)), (AV.lit (.bool false)), (AV.lit (.slice none 0 0))])), (4, (AO.var 89 [(bp (((l).mul) < 0)), (AV.sl 1 (ns .u32 (digs ((l).mul).natAbs))), (bp (((l).add) < 0)), (AV.sl 1 (ns .u32 (digs ((l).add).natAbs))), (bp (((l).div) < 0)), (AV.sl 1 (ns .u32 (digs ((l).div).natAbs)))]))] Gd.none Xa_tZ89 rfl rfl rfl rfl rfl rfl ?_
      refine aops_end ⟨by kernel_rfl, ?_⟩
      refine hK11 _ ?_
      refine awp_wk (σ' := ⟨[(4, (AV.ref 101 (0)))], [(9010, (AO.pin [(nm .i64 (((w).getD (i) 0).toNat)), (AV.clo 84 [(AV.ref 2 (0)), (AV.ref 4 (0))]), (AV.ref 2 (0)), (AV.ref 3 (0)), (AV.ref 4 (0)), (AV.clo 84 [(AV.ref 2 (0)), (AV.ref 4 (0))]), (AV.sl 1 (is .i64 (w))), (nm .i64 ((w).length)), (nm .i64 (i)), (bp ((i) < ((w).length))), (AV.ip ((is .i64 (w)).drop (i))), (nm .i64 (((w).getD (i) 0).toNat)), (nm .i64 (((w).getD (i) 0).toNat))] us1)), (2, (AO.var 24 [(AV.lit (.int .i64 (m.mod))), (AV.sl 1 (is .i64 (m.mul))), (AV.sl 1 (is .i64 (m.add)))])), (3, (AO.var 89 [(AV.lit (.bool false)), (AV.lit (.slice none 0 0)), (AV.lit (.bool false)), (AV.lit (.slice none 0 0)), (AV.lit (.bool false)), (AV.lit (.slice none 0 0))])), (4, (AO.var 89 [(bp (((l).mul) < 0)), (AV.sl 1 (ns .u32 (digs ((l).mul).natAbs))), (bp (((l).add) < 0)), (AV.sl 1 (ns .u32 (digs ((l).add).natAbs))), (bp (((l).div) < 0)), (AV.sl 1 (ns .u32 (digs ((l).div).natAbs)))])), (101, (AO.var 89 [(bp ((((l).mul) * (m.mul).getD (((w).getD (i) 0).toNat) 0) < 0)), (AV.sl 1 (ns .u32 (digs ((((l).mul) * (m.mul).getD (((w).getD (i) 0).toNat) 0)).natAbs))), (bp (((((l).add) * (m.mul).getD (((w).getD (i) 0).toNat) 0) + (((l).div) * (m.add).getD (((w).getD (i) 0).toNat) 0)) < 0)), (AV.sl 1 (ns .u32 (digs (((((l).add) * (m.mul).getD (((w).getD (i) 0).toNat) 0) + (((l).div) * (m.add).getD (((w).getD (i) 0).toNat) 0))).natAbs))), (bp ((((l).div) * (m.mod)) < 0)), (AV.sl 1 (ns .u32 (digs ((((l).div) * (m.mod))).natAbs)))]))]⟩) (Wk.sub (And.intro rfl (trivial)) (And.intro rfl (And.intro rfl (And.intro rfl (And.intro rfl (And.intro rfl (trivial))))))) ?_
      refine awp_ret ?_
      refine postS_ret (extra := [(101, (AO.var 89 [(bp ((((l).mul) * (m.mul).getD (((w).getD (i) 0).toNat) 0) < 0)), (AV.sl 1 (ns .u32 (digs ((((l).mul) * (m.mul).getD (((w).getD (i) 0).toNat) 0)).natAbs))), (bp (((((l).add) * (m.mul).getD (((w).getD (i) 0).toNat) 0) + (((l).div) * (m.add).getD (((w).getD (i) 0).toNat) 0)) < 0)), (AV.sl 1 (ns .u32 (digs (((((l).add) * (m.mul).getD (((w).getD (i) 0).toNat) 0) + (((l).div) * (m.add).getD (((w).getD (i) 0).toNat) 0))).natAbs))), (bp ((((l).div) * (m.mod)) < 0)), (AV.sl 1 (ns .u32 (digs ((((l).div) * (m.mod))).natAbs)))]))]) ⟨[(AV.agg [(bp ((((l).mul) * (m.mul).getD (((w).getD (i) 0).toNat) 0) < 0)), (AV.sl 1 (ns .u32 (digs ((((l).mul) * (m.mul).getD (((w).getD (i) 0).toNat) 0)).natAbs))), (bp (((((l).add) * (m.mul).getD (((w).getD (i) 0).toNat) 0) + (((l).div) * (m.add).getD (((w).getD (i) 0).toNat) 0)) < 0)), (AV.sl 1 (ns .u32 (digs (((((l).add) * (m.mul).getD (((w).getD (i) 0).toNat) 0) + (((l).div) * (m.add).getD (((w).getD (i) 0).toNat) 0))).natAbs))), (bp ((((l).div) * (m.mod)) < 0)), (AV.sl 1 (ns .u32 (digs ((((l).div) * (m.mod))).natAbs)))])], And.intro ⟨101, (AO.var 89 [(bp ((((l).mul) * (m.mul).getD (((w).getD (i) 0).toNat) 0) < 0)), (AV.sl 1 (ns .u32 (digs ((((l).mul) * (m.mul).getD (((w).getD (i) 0).toNat) 0)).natAbs))), (bp (((((l).add) * (m.mul).getD (((w).getD (i) 0).toNat) 0) + (((l).div) * (m.add).getD (((w).getD (i) 0).toNat) 0)) < 0)), (AV.sl 1 (ns .u32 (digs (((((l).add) * (m.mul).getD (((w).getD (i) 0).toNat) 0) + (((l).div) * (m.add).getD (((w).getD (i) 0).toNat) 0))).natAbs))), (bp ((((l).div) * (m.mod)) < 0)), (AV.sl 1 (ns .u32 (digs ((((l).div) * (m.mod))).natAbs)))]), rfl, rfl, rfl, Or.inl ⟨Xa_tA89, AV.le_refl _⟩⟩ (trivial), ?_⟩ rfl
      exact linK_eq (Int.mul_comm _ _) (congr (congrArg HAdd.hAdd (Int.mul_comm _ _)) (Int.mul_comm _ _)) rfl
    refine o_store [(2, (AO.var 24 [(AV.lit (.int .i64 (m.mod))), (AV.sl 1 (is .i64 (m.mul))), (AV.sl 1 (is .i64 (m.add)))])), (3, (AO.var 89 [(AV.lit (.bool false)), (AV.lit (.slice none 0 0)), (AV.lit (.bool false)), (AV.lit (.slice none 0 0)), (AV.lit (.bool false)), (AV.lit (.slice none 0 0))])), (4, (AO.var 89 [(bp (((thenZ m l ((w).getD (i) 0)).mul) < 0)), (AV.sl 1 (ns .u32 (digs ((thenZ m l ((w).getD (i) 0)).mul).natAbs))), (bp (((thenZ m l ((w).getD (i) 0)).add) < 0)), (AV.sl 1 (ns .u32 (digs ((thenZ m l ((w).getD (i) 0)).add).natAbs))), (bp (((thenZ m l ((w).getD (i) 0)).div) < 0)), (AV.sl 1 (ns .u32 (digs ((thenZ m l ((w).getD (i) 0)).div).natAbs)))]))] Gd.none Xa_tZ89 rfl rfl rfl rfl rfl rfl ?_
    refine aops_end ?_
    refine hK7 _ ?_
    refine awp_region rfl ?_
    refine n_add (i) (1) Gd.none rfl rfl (by simp only [topOf]; omega) ?_
    refine o_move (nm .i64 ((i) + (1))) Gd.none rfl ?_
    refine aops_end ?_
    refine ⟨_, _, ?lt, ⟨i + 1, (thenZ m l ((w).getD (i) 0)), (by omega), (by rw [hl2]; exact lineZ_next h1), rfl, rfl⟩, ?wk⟩
    case lt => omega
    case wk => exact Wk.sub (And.intro (by exact rfl) (And.intro (by exact rfl) (And.intro (by exact rfl) (And.intro (by exact rfl) (And.intro (by exact rfl) (And.intro (by exact rfl) (And.intro (by first | rfl | exact congrArg (nm _) (by omega) | exact nm_int (by omega) | exact nm_int (by simp [IntKind.wrap, IntKind.bits, IntKind.signed]; omega)) (trivial)))))))) (And.intro (by first | rfl | exact row_ns (by simp) | exact congrArg (fun x => some (AO.blk (.stringIter _ x))) (by omega)) (And.intro (by first | rfl | exact row_ns (by simp) | exact congrArg (fun x => some (AO.blk (.stringIter _ x))) (by omega)) (And.intro (by first | rfl | exact row_ns (by simp) | exact congrArg (fun x => some (AO.blk (.stringIter _ x))) (by omega)) (trivial))))
  · refine awp_exit ?_
    refine hK3 _ ?_
    refine awp_seq fun K12 hK12 => ?_
    refine awp_region rfl ?_
    refine o_loadA [(bp (((l).mul) < 0)), (AV.sl 1 (ns .u32 (digs ((l).mul).natAbs))), (bp (((l).add) < 0)), (AV.sl 1 (ns .u32 (digs ((l).add).natAbs))), (bp (((l).div) < 0)), (AV.sl 1 (ns .u32 (digs ((l).div).natAbs)))] Gd.none Xa_tA89 rfl rfl rfl rfl rfl ?_
    refine o_store [(2, (AO.var 24 [(AV.lit (.int .i64 (m.mod))), (AV.sl 1 (is .i64 (m.mul))), (AV.sl 1 (is .i64 (m.add)))])), (3, (AO.var 89 [(bp (((l).mul) < 0)), (AV.sl 1 (ns .u32 (digs ((l).mul).natAbs))), (bp (((l).add) < 0)), (AV.sl 1 (ns .u32 (digs ((l).add).natAbs))), (bp (((l).div) < 0)), (AV.sl 1 (ns .u32 (digs ((l).div).natAbs)))])), (4, (AO.var 89 [(bp (((l).mul) < 0)), (AV.sl 1 (ns .u32 (digs ((l).mul).natAbs))), (bp (((l).add) < 0)), (AV.sl 1 (ns .u32 (digs ((l).add).natAbs))), (bp (((l).div) < 0)), (AV.sl 1 (ns .u32 (digs ((l).div).natAbs)))]))] Gd.none Xa_tZ89 rfl rfl rfl rfl rfl rfl ?_
    refine aops_end ?_
    refine hK12 _ ?_
    refine awp_ret ?_
    refine post_ret ⟨[(AV.agg [(bp (((l).mul) < 0)), (AV.sl 1 (ns .u32 (digs ((l).mul).natAbs))), (bp (((l).add) < 0)), (AV.sl 1 (ns .u32 (digs ((l).add).natAbs))), (bp (((l).div) < 0)), (AV.sl 1 (ns .u32 (digs ((l).div).natAbs)))])], And.intro ⟨3, (AO.var 89 [(bp (((l).mul) < 0)), (AV.sl 1 (ns .u32 (digs ((l).mul).natAbs))), (bp (((l).add) < 0)), (AV.sl 1 (ns .u32 (digs ((l).add).natAbs))), (bp (((l).div) < 0)), (AV.sl 1 (ns .u32 (digs ((l).div).natAbs)))]), rfl, rfl, rfl, Or.inl ⟨Xa_tA89, AV.le_refl _⟩⟩ (trivial), rfl, ?_⟩
    exact congrArg linW (by rw [hl2, List.take_of_length_le (by omega)])

theorem c_oTold (l : LinZ) (h1 : (digs l.mul.natAbs).length ≤ 1000000) (h2 : (digs l.add.natAbs).length ≤ 1000000) (h3 : (digs l.div.natAbs).length ≤ 1000000) : ECalls cx 57 [(linW (l))] (lineV (lineT l)) := by
  refine ecalls_of_awp Tryd.func57 (c := _) rfl (Nat.le_of_ble_eq_true rfl) ?_
  show awp cx 13 _ (postF cx Tryd.f57 _) ⟨[(0, (linW (l)))], []⟩
  refine awp_seq fun K0 hK0 => ?_
  refine awp_region rfl ?_
  refine o_box 2 [(bp (((l).mul) < 0)), (AV.sl 1 (ns .u32 (digs ((l).mul).natAbs))), (bp (((l).add) < 0)), (AV.sl 1 (ns .u32 (digs ((l).add).natAbs))), (bp (((l).div) < 0)), (AV.sl 1 (ns .u32 (digs ((l).div).natAbs)))] Gd.none rfl rfl ?_
  refine o_alloc 3 [(AV.lit (.string (({data := #[]} : ByteArray)))), (AV.lit (.string (({data := #[]} : ByteArray)))), (AV.lit (.string (({data := #[]} : ByteArray))))] Gd.none Xa_tO41 rfl rfl rfl ?_
  refine aops_end ?_
  refine hK0 _ ?_
  refine awp_seq fun K1 hK1 => ?_
  refine awp_regionD rfl ?_
  refine o_fieldRef 0 Gd.none Xa_tF89_0 rfl rfl ?_
  refine o_loadA [(bp (((l).mul) < 0)), (AV.sl 1 (ns .u32 (digs ((l).mul).natAbs)))] Gd.none Xa_tA79 rfl rfl rfl rfl rfl ?_
  refine o_call [(AV.agg [(bp (((l).mul) < 0)), (AV.sl 1 (ns .u32 (digs ((l).mul).natAbs)))])] (AV.lit (.string (txt (((l).mul))))) Gd.none Xa_tC64 rfl (c_wText (((l).mul)) (by first | assumption | omega | (simp only [Int.natAbs_neg]; omega))) ?_
  refine o_fieldRef 2 Gd.none Xa_tF89_1 rfl rfl ?_
  refine o_loadA [(bp (((l).add) < 0)), (AV.sl 1 (ns .u32 (digs ((l).add).natAbs)))] Gd.none Xa_tA79 rfl rfl rfl rfl rfl ?_
  refine o_call [(AV.agg [(bp (((l).add) < 0)), (AV.sl 1 (ns .u32 (digs ((l).add).natAbs)))])] (AV.lit (.string (txt (((l).add))))) Gd.none Xa_tC64 rfl (c_wText (((l).add)) (by first | assumption | omega | (simp only [Int.natAbs_neg]; omega))) ?_
  refine o_fieldRef 4 Gd.none Xa_tF89_2 rfl rfl ?_
  refine o_loadA [(bp (((l).div) < 0)), (AV.sl 1 (ns .u32 (digs ((l).div).natAbs)))] Gd.none Xa_tA79 rfl rfl rfl rfl rfl ?_
  refine o_call [(AV.agg [(bp (((l).div) < 0)), (AV.sl 1 (ns .u32 (digs ((l).div).natAbs)))])] (AV.lit (.string (txt (((l).div))))) Gd.none Xa_tC64 rfl (c_wText (((l).div)) (by first | assumption | omega | (simp only [Int.natAbs_neg]; omega))) ?_
  refine o_build [(AV.lit (.string (txt (((l).mul))))), (AV.lit (.string (txt (((l).add))))), (AV.lit (.string (txt (((l).div)))))] [(0, [(AV.lit (.string (txt (((l).mul)))))]), (1, [(AV.lit (.string (txt (((l).add)))))]), (2, [(AV.lit (.string (txt (((l).div)))))])] Gd.none Xa_tP41 Xa_tO41 rfl rfl rfl ?_
  refine o_store [(3, (AO.var 41 [(AV.lit (.string (txt (((l).mul))))), (AV.lit (.string (txt (((l).add))))), (AV.lit (.string (txt (((l).div)))))])), (2, (AO.var 89 [(bp (((l).mul) < 0)), (AV.sl 1 (ns .u32 (digs ((l).mul).natAbs))), (bp (((l).add) < 0)), (AV.sl 1 (ns .u32 (digs ((l).add).natAbs))), (bp (((l).div) < 0)), (AV.sl 1 (ns .u32 (digs ((l).div).natAbs)))]))] Gd.none Xa_tZ41 rfl rfl rfl rfl rfl rfl ?_
  refine aops_end ⟨by kernel_rfl, ?_⟩
  refine hK1 _ ?_
  refine awp_ret ?_
  refine post_ret ⟨[(AV.agg [(AV.lit (.string (txt (((l).mul))))), (AV.lit (.string (txt (((l).add))))), (AV.lit (.string (txt (((l).div)))))])], And.intro ⟨3, (AO.var 41 [(AV.lit (.string (txt (((l).mul))))), (AV.lit (.string (txt (((l).add))))), (AV.lit (.string (txt (((l).div)))))]), rfl, rfl, rfl, Or.inl ⟨Xa_tA41, AV.le_refl _⟩⟩ (trivial), rfl, ?_⟩
  rfl

theorem c_oLine (m : MapM) (w : List Int) (hwl : w.length ≤ 17592186044416) : ECalls cx 20 [(mapV m), (AV.sl 1 (is .i64 (w)))] (.tup [lineV (lineS m w), nm .i64 (lineE m w)]) := by
  refine ecalls_of_awp Tryd.func20 (c := _) rfl (Nat.le_of_ble_eq_true rfl) ?_
  show awp cx 21 _ (postF cx Tryd.f20 _) ⟨[(0, (mapV m)), (1, (AV.sl 1 (is .i64 (w))))], []⟩
  refine awp_seq fun K0 hK0 => ?_
  refine awp_region rfl ?_
  refine o_box 2 [(AV.lit (.int .i64 (m.mod))), (AV.sl 1 (is .i64 (m.mul))), (AV.sl 1 (is .i64 (m.add)))] Gd.none rfl rfl ?_
  refine o_alloc 3 [(AV.lit (.string (({data := #[]} : ByteArray)))), (AV.lit (.string (({data := #[]} : ByteArray)))), (AV.lit (.string (({data := #[]} : ByteArray))))] Gd.none Xa_tO41 rfl rfl rfl ?_
  refine o_assign (nm .i64 (0)) Gd.none rfl ?_
  refine aops_end ?_
  refine hK0 _ ?_
  refine awp_seq fun K1 hK1 => ?_
  refine awp_block ?_
  refine awp_seq fun K2 hK2 => ?_
  refine awp_region rfl ?_
  refine o_loadA [(AV.lit (.int .i64 (m.mod))), (AV.sl 1 (is .i64 (m.mul))), (AV.sl 1 (is .i64 (m.add)))] Gd.none Xa_tA24 rfl rfl rfl rfl rfl ?_
  refine o_call [(AV.agg [(AV.lit (.int .i64 (m.mod))), (AV.sl 1 (is .i64 (m.mul))), (AV.sl 1 (is .i64 (m.add)))])] (AV.lit (.bool (okM m))) Gd.none Xa_tC46 rfl (c_sValid m) ?_
  refine o_not (b := okM m) Gd.none rfl ?_
  refine o_assign (AV.lit (.bool (!(okM m)))) Gd.none rfl ?_
  refine aops_end ?_
  refine hK2 _ ?_
  refine awp_condB (b := !(okM m)) rfl (fun h1 => ?_) (fun h1 => ?_)
  · have hm' : ¬ okM m = true := by simpa using h1
    refine awp_seq fun K3 hK3 => ?_
    refine awp_region rfl ?_
    refine o_build [(AV.lit (.string (({data := #[]} : ByteArray)))), (AV.lit (.string (({data := #[]} : ByteArray)))), (AV.lit (.string (({data := #[]} : ByteArray))))] [] Gd.none Xa_tP41 Xa_tO41 rfl rfl rfl ?_
    refine o_store [(3, (AO.var 41 [(AV.lit (.string (({data := #[]} : ByteArray)))), (AV.lit (.string (({data := #[]} : ByteArray)))), (AV.lit (.string (({data := #[]} : ByteArray))))])), (2, (AO.var 24 [(AV.lit (.int .i64 (m.mod))), (AV.sl 1 (is .i64 (m.mul))), (AV.sl 1 (is .i64 (m.add)))]))] Gd.none Xa_tZ41 rfl rfl rfl rfl rfl rfl ?_
    refine o_assign (nm .i64 (1)) Gd.none rfl ?_
    refine aops_end ?_
    refine hK3 _ ?_
    refine awp_ret ?_
    refine post_ret ⟨[(AV.agg [(AV.lit (.string (({data := #[]} : ByteArray)))), (AV.lit (.string (({data := #[]} : ByteArray)))), (AV.lit (.string (({data := #[]} : ByteArray))))]), (nm .i64 (1))], And.intro ⟨3, (AO.var 41 [(AV.lit (.string (({data := #[]} : ByteArray)))), (AV.lit (.string (({data := #[]} : ByteArray)))), (AV.lit (.string (({data := #[]} : ByteArray))))]), rfl, rfl, rfl, Or.inl ⟨Xa_tA41, AV.le_refl _⟩⟩ (And.intro (AV.le_refl _) (trivial)), rfl, ?_⟩
    exact tup_eq2 (congrArg lineV (line_1 hm').2) (congrArg (nm _) (line_1 hm').1)
  · have hm' : okM m = true := by simpa using h1
    have hM := okM_iff.1 hm'
    refine awp_seq fun K4 hK4 => ?_
    refine awp_region rfl ?_
    refine o_loadA [(AV.lit (.int .i64 (m.mod))), (AV.sl 1 (is .i64 (m.mul))), (AV.sl 1 (is .i64 (m.add)))] Gd.none Xa_tA24 rfl rfl rfl rfl rfl ?_
    refine o_move (AV.sl 1 (is .i64 (w))) Gd.none rfl ?_
    refine o_call [(AV.agg [(AV.lit (.int .i64 (m.mod))), (AV.sl 1 (is .i64 (m.mul))), (AV.sl 1 (is .i64 (m.add)))]), (AV.sl 1 (is .i64 (w)))] (bp (OkW m (w))) Gd.none Xa_tC55 rfl (c_oIs m (w)) ?_
    refine o_notP (q := OkW m (w)) Gd.none rfl ?_
    refine o_assign (bp (¬ (OkW m (w)))) Gd.none rfl ?_
    refine aops_end ?_
    refine hK4 _ ?_
    refine awp_condQ (q := ¬ (OkW m (w))) rfl (fun h2 => ?_) (fun h2 => ?_)
    · refine awp_seq fun K5 hK5 => ?_
      refine awp_region rfl ?_
      refine o_build [(AV.lit (.string (({data := #[]} : ByteArray)))), (AV.lit (.string (({data := #[]} : ByteArray)))), (AV.lit (.string (({data := #[]} : ByteArray))))] [] Gd.none Xa_tP41 Xa_tO41 rfl rfl rfl ?_
      refine o_store [(3, (AO.var 41 [(AV.lit (.string (({data := #[]} : ByteArray)))), (AV.lit (.string (({data := #[]} : ByteArray)))), (AV.lit (.string (({data := #[]} : ByteArray))))])), (2, (AO.var 24 [(AV.lit (.int .i64 (m.mod))), (AV.sl 1 (is .i64 (m.mul))), (AV.sl 1 (is .i64 (m.add)))]))] Gd.none Xa_tZ41 rfl rfl rfl rfl rfl rfl ?_
      refine o_assign (nm .i64 (2)) Gd.none rfl ?_
      refine aops_end ?_
      refine hK5 _ ?_
      refine awp_ret ?_
      refine post_ret ⟨[(AV.agg [(AV.lit (.string (({data := #[]} : ByteArray)))), (AV.lit (.string (({data := #[]} : ByteArray)))), (AV.lit (.string (({data := #[]} : ByteArray))))]), (nm .i64 (2))], And.intro ⟨3, (AO.var 41 [(AV.lit (.string (({data := #[]} : ByteArray)))), (AV.lit (.string (({data := #[]} : ByteArray)))), (AV.lit (.string (({data := #[]} : ByteArray))))]), rfl, rfl, rfl, Or.inl ⟨Xa_tA41, AV.le_refl _⟩⟩ (And.intro (AV.le_refl _) (trivial)), rfl, ?_⟩
      exact tup_eq2 (congrArg lineV (line_2 hm' h2).2) (congrArg (nm _) (line_2 hm' h2).1)
    · have hW : OkW m w := Decidable.not_not.1 h2
      obtain ⟨L1, L2, L3⟩ := line_len hM w hW.1
      have hWl := hW.2
      refine awp_skip ?_
      refine hK1 _ ?_
      refine awp_seq fun K6 hK6 => ?_
      refine awp_region rfl ?_
      refine o_loadA [(AV.lit (.int .i64 (m.mod))), (AV.sl 1 (is .i64 (m.mul))), (AV.sl 1 (is .i64 (m.add)))] Gd.none Xa_tA24 rfl rfl rfl rfl rfl ?_
      refine o_move (AV.sl 1 (is .i64 (w))) Gd.none rfl ?_
      refine o_call [(AV.agg [(AV.lit (.int .i64 (m.mod))), (AV.sl 1 (is .i64 (m.mul))), (AV.sl 1 (is .i64 (m.add)))]), (AV.sl 1 (is .i64 (w)))] (linW (lineZ m (w))) Gd.none Xa_tC56 rfl (c_oOf m (w) (by first | assumption | exact okM_iff.1 (by assumption)) (by first | assumption | exact (by assumption : OkW _ _).1 | exact isW_take (by assumption : OkW _ _).1 _) (by first | omega | exact (by assumption : OkW _ _).2)) ?_
      refine o_call [(linW (lineZ m (w)))] (AV.agg [(AV.lit (.string ((lineT (lineZ m (w))).mul))), (AV.lit (.string ((lineT (lineZ m (w))).add))), (AV.lit (.string ((lineT (lineZ m (w))).div)))]) Gd.none Xa_tC57 rfl (c_oTold (lineZ m (w)) (by omega) (by omega) (by omega)) ?_
      refine o_store [(3, (AO.var 41 [(AV.lit (.string ((lineT (lineZ m (w))).mul))), (AV.lit (.string ((lineT (lineZ m (w))).add))), (AV.lit (.string ((lineT (lineZ m (w))).div)))])), (2, (AO.var 24 [(AV.lit (.int .i64 (m.mod))), (AV.sl 1 (is .i64 (m.mul))), (AV.sl 1 (is .i64 (m.add)))]))] Gd.none Xa_tZ41 rfl rfl rfl rfl rfl rfl ?_
      refine o_assign (nm .i64 (0)) Gd.none rfl ?_
      refine aops_end ?_
      refine hK6 _ ?_
      refine awp_ret ?_
      refine post_ret ⟨[(AV.agg [(AV.lit (.string ((lineT (lineZ m (w))).mul))), (AV.lit (.string ((lineT (lineZ m (w))).add))), (AV.lit (.string ((lineT (lineZ m (w))).div)))]), (nm .i64 (0))], And.intro ⟨3, (AO.var 41 [(AV.lit (.string ((lineT (lineZ m (w))).mul))), (AV.lit (.string ((lineT (lineZ m (w))).add))), (AV.lit (.string ((lineT (lineZ m (w))).div)))]), rfl, rfl, rfl, Or.inl ⟨Xa_tA41, AV.le_refl _⟩⟩ (And.intro (AV.le_refl _) (trivial)), rfl, ?_⟩
      exact tup_eq2 (congrArg lineV (line_0 hm' hW).2) (congrArg (nm _) (line_0 hm' hW).1)

end Go.Proofs.YtbilndahjkimkaaDoor

