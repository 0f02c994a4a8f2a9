import Derived.Test.YtkngglpnejdicaaDoorWd
set_option linter.unusedVariables false
set_option linter.unusedSimpArgs false
namespace Go.Proofs.YtkngglpnejdicaaDoor
open Go Go.Ab Go.Mth
theorem We_tT9 : cx.P.underlying 9 = some .string := by kernel_rfl
theorem We_tO36 : tyZero cx.P 36 = some [(Go.Value.bool false), (Go.Value.slice none 0 0)] := by kernel_rfl
theorem We_tI5 : tyInt cx.P 5 = some .u8 := by kernel_rfl
theorem We_tI3 : tyInt cx.P 3 = some .i64 := by kernel_rfl
theorem We_tE22 : tyElem cx.P 22 = some (3, 1, 8) := by kernel_rfl
theorem We_tO3 : tyZero cx.P 3 = some [(Go.Value.int IntKind.i64 0)] := by kernel_rfl
theorem We_tC74 : callable cx.P 74 = true := by kernel_rfl
theorem We_tZ36 : tySize cx.P 36 = some 2 := by kernel_rfl
theorem We_tA36 : tyAgg cx.P 36 = some 2 := by kernel_rfl
theorem c_rValid (a : ByteArray) (hsz : a.size ≤ 9223372036854775807) : ECalls cx 29 [(AV.lit (.string (a)))] (.lit (.bool (okS a))) := by
  refine ecalls_of_awp Tryd.func29 (c := _) rfl (Nat.le_of_ble_eq_true rfl) ?_
  show awp cx 51 _ (postF cx Tryd.f29 _) ⟨[(0, (AV.lit (.string (a))))], []⟩
  refine awp_seq fun K0 hK0 => ?_
  refine awp_region rfl ?_
  refine o_assign (AV.lit (.bool false)) Gd.none rfl ?_
  refine aops_end ?_
  refine hK0 _ ?_
  refine awp_seq fun K1 hK1 => ?_
  refine awp_region rfl ?_
  refine o_move (AV.lit (.string (a))) Gd.none rfl ?_
  refine n_lenS (a) Gd.none rfl We_tT9 ?_
  refine o_assign (nm .i64 ((a).size)) Gd.none rfl ?_
  refine aops_end ?_
  refine hK1 _ ?_
  refine awp_seq fun K2 hK2 => ?_
  refine awp_region rfl ?_
  refine o_assign (nm .i64 (0)) Gd.none rfl ?_
  refine aops_end ?_
  refine hK2 _ ?_
  refine awp_seqJ (J := fun σ => True ∧ σ = ⟨[(0, (AV.lit (.string (a)))), (3, (nm .i64 (a.size - sgnAt a))), (4, (nm .i64 (sgnAt a)))], []⟩) ?ja0 ?jb0
  case ja0 =>
    refine awp_seq fun K3 hK3 => ?_
    refine awp_region rfl ?_
    refine o_move (AV.lit (.string (a))) Gd.none rfl ?_
    refine o_neqS (a := (a)) (c := (({data := #[]} : ByteArray))) Gd.none rfl rfl ?_
    refine o_move (bp ((a).toList ≠ (({data := #[]} : ByteArray)).toList)) Gd.none rfl ?_
    refine o_splitP (q := (a).toList ≠ (({data := #[]} : ByteArray)).toList) 10 rfl (fun h1 => ?_) (fun h1 => ?_)
    · refine o_move (AV.lit (.string (a))) (Gd.yes rfl rfl (decide_eq_true h1)) rfl ?_
      refine n_indexS (a) (0) (Gd.yes rfl rfl (decide_eq_true h1)) We_tT9 rfl rfl (by have := mt str_nil.2 h1; omega) ?_
      refine n_eql (byt (a) (0)) (45) (Gd.yes rfl rfl (decide_eq_true h1)) rfl rfl ?_
      refine o_pickT (b := decide ((a).toList ≠ (({data := #[]} : ByteArray)).toList)) (bp ((byt (a) (0)) = (45))) Gd.none rfl (decide_eq_true h1) rfl ?_
      refine aops_end ?_
      refine hK3 _ ?_
      refine awp_condQ (q := (byt (a) (0)) = (45)) rfl (fun h2 => ?_) (fun h2 => ?_)
      · refine awp_seq fun K4 hK4 => ?_
        refine awp_region rfl ?_
        refine o_move (nm .i64 ((a).size)) Gd.none rfl ?_
        refine n_sub ((a).size) (1) Gd.none rfl rfl (by have := mt str_nil.2 h1; omega) (by simp only [topOf]; omega) ?_
        refine o_assign (nm .i64 (((a).size) - (1))) Gd.none rfl ?_
        refine aops_end ?_
        refine hK4 _ ?_
        refine awp_region rfl ?_
        refine o_assign (nm .i64 (1)) Gd.none rfl ?_
        refine aops_end ?_
        have hs : sgnAt a = 1 := if_pos h2
        have hne := mt str_nil.2 h1
        exact ⟨_, ⟨trivial, rfl⟩, Wk.sub (And.intro (by exact rfl) (And.intro (by first | rfl | exact congrArg (nm _) (by omega) | exact nm_int (by omega) | exact nm_int (by simp [IntKind.wrap, IntKind.bits, IntKind.signed]; omega)) (And.intro (by first | rfl | exact congrArg (nm _) (by omega) | exact nm_int (by omega) | exact nm_int (by simp [IntKind.wrap, IntKind.bits, IntKind.signed]; omega)) (trivial)))) (trivial)⟩
      · refine awp_skip ?_
        have hs : sgnAt a = 0 := if_neg h2
        exact ⟨_, ⟨trivial, rfl⟩, Wk.sub (And.intro (by exact rfl) (And.intro (by first | rfl | exact congrArg (nm _) (by omega) | exact nm_int (by omega) | exact nm_int (by simp [IntKind.wrap, IntKind.bits, IntKind.signed]; omega)) (And.intro (by first | rfl | exact congrArg (nm _) (by omega) | exact nm_int (by omega) | exact nm_int (by simp [IntKind.wrap, IntKind.bits, IntKind.signed]; omega)) (trivial)))) (trivial)⟩
    · refine o_skip (b := decide ((a).toList ≠ (({data := #[]} : ByteArray)).toList)) rfl rfl (decide_eq_false h1) ?_
      refine o_skip (b := decide ((a).toList ≠ (({data := #[]} : ByteArray)).toList)) rfl rfl (decide_eq_false h1) ?_
      refine o_skip (b := decide ((a).toList ≠ (({data := #[]} : ByteArray)).toList)) rfl rfl (decide_eq_false h1) ?_
      refine o_pickF (b := decide ((a).toList ≠ (({data := #[]} : ByteArray)).toList)) (AV.lit (.bool false)) Gd.none rfl (decide_eq_false h1) rfl ?_
      refine aops_end ?_
      refine hK3 _ ?_
      refine awp_condB (b := false) rfl (fun hh => absurd (hh.symm.trans rfl) (by decide)) (fun _ => ?_)
      refine awp_skip ?_
      have hs : sgnAt a = 0 := if_neg (by rw [byt_nil (str_nil.1 (Decidable.not_not.1 h1))]; decide)
      exact ⟨_, ⟨trivial, rfl⟩, Wk.sub (And.intro (by exact rfl) (And.intro (by first | rfl | exact congrArg (nm _) (by omega) | exact nm_int (by omega) | exact nm_int (by simp [IntKind.wrap, IntKind.bits, IntKind.signed]; omega)) (And.intro (by first | rfl | exact congrArg (nm _) (by omega) | exact nm_int (by omega) | exact nm_int (by simp [IntKind.wrap, IntKind.bits, IntKind.signed]; omega)) (trivial)))) (trivial)⟩
  rintro _ ⟨-, rfl⟩
  have hs1 : sgnAt a ≤ 1 := by unfold sgnAt; split <;> omega
  refine awp_seq fun K5 hK5 => ?_
  refine awp_seq fun K6 hK6 => ?_
  refine awp_region rfl ?_
  refine o_move (nm .i64 (a.size - sgnAt a)) Gd.none rfl ?_
  refine n_lss (a.size - sgnAt a) (1) Gd.none rfl rfl ?_
  refine o_move (bp ((a.size - sgnAt a) < (1))) Gd.none rfl ?_
  refine o_splitP (q := (a.size - sgnAt a) < (1)) 19 rfl (fun h3 => ?_) (fun h3 => ?_)
  · refine o_skip (b := decide ((a.size - sgnAt a) < (1))) rfl rfl (decide_eq_true h3) ?_
    refine o_skip (b := decide ((a.size - sgnAt a) < (1))) rfl rfl (decide_eq_true h3) ?_
    refine o_pickT (b := decide ((a.size - sgnAt a) < (1))) (AV.lit (.bool true)) Gd.none rfl (decide_eq_true h3) rfl ?_
    refine o_move (AV.lit (.bool true)) Gd.none rfl ?_
    refine o_skip (b := true) rfl rfl rfl ?_
    refine o_skip (b := true) rfl rfl rfl ?_
    refine o_skip (b := true) rfl rfl rfl ?_
    refine o_skip (b := true) rfl rfl rfl ?_
    refine o_skip (b := true) rfl rfl rfl ?_
    refine o_skipU rfl rfl ?_
    refine o_skipU rfl rfl ?_
    refine o_skipU rfl rfl ?_
    refine o_skip (b := true) rfl rfl rfl ?_
    refine o_pickT (b := true) (AV.lit (.bool true)) Gd.none rfl rfl rfl ?_
    refine aops_end ?_
    refine hK6 _ ?_
    refine awp_condB (b := true) rfl (fun _ => ?_) (fun hh => absurd (hh.symm.trans rfl) (by decide))
    refine awp_seq fun K7 hK7 => ?_
    refine awp_region rfl ?_
    refine o_assign (AV.lit (.bool false)) Gd.none rfl ?_
    refine aops_end ?_
    refine hK7 _ ?_
    refine awp_ret ?_
    refine post_ret ⟨[(AV.lit (.bool false))], And.intro (AV.le_refl _) (trivial), rfl, ?_⟩
    refine bl_eq (okS_no fun h => ?_)
    obtain ⟨o1, o2, o3, o4⟩ := h
    first | omega | (have := o4 i (by omega) (by omega); omega)
  · refine o_move (nm .i64 (a.size - sgnAt a)) (Gd.yes rfl rfl (decide_eq_false h3)) rfl ?_
    refine n_gtr (a.size - sgnAt a) (2000) (Gd.yes rfl rfl (decide_eq_false h3)) rfl rfl ?_
    refine o_pickF (b := decide ((a.size - sgnAt a) < (1))) (bp ((2000) < (a.size - sgnAt a))) Gd.none rfl (decide_eq_false h3) rfl ?_
    refine o_move (bp ((2000) < (a.size - sgnAt a))) Gd.none rfl ?_
    refine o_splitP (q := (2000) < (a.size - sgnAt a)) 23 rfl (fun h4 => ?_) (fun h4 => ?_)
    · refine o_skip (b := decide ((2000) < (a.size - sgnAt a))) rfl rfl (decide_eq_true h4) ?_
      refine o_skip (b := decide ((2000) < (a.size - sgnAt a))) rfl rfl (decide_eq_true h4) ?_
      refine o_skip (b := decide ((2000) < (a.size - sgnAt a))) rfl rfl (decide_eq_true h4) ?_
      refine o_skip (b := decide ((2000) < (a.size - sgnAt a))) rfl rfl (decide_eq_true h4) ?_
      refine o_skip (b := decide ((2000) < (a.size - sgnAt a))) rfl rfl (decide_eq_true h4) ?_
      refine o_skipU rfl rfl ?_
      refine o_skipU rfl rfl ?_
      refine o_skipU rfl rfl ?_
      refine o_skip (b := decide ((2000) < (a.size - sgnAt a))) rfl rfl (decide_eq_true h4) ?_
      refine o_pickT (b := decide ((2000) < (a.size - sgnAt a))) (AV.lit (.bool true)) Gd.none rfl (decide_eq_true h4) rfl ?_
      refine aops_end ?_
      refine hK6 _ ?_
      refine awp_condB (b := true) rfl (fun _ => ?_) (fun hh => absurd (hh.symm.trans rfl) (by decide))
      refine awp_seq fun K8 hK8 => ?_
      refine awp_region rfl ?_
      refine o_assign (AV.lit (.bool false)) Gd.none rfl ?_
      refine aops_end ?_
      refine hK8 _ ?_
      refine awp_ret ?_
      refine post_ret ⟨[(AV.lit (.bool false))], And.intro (AV.le_refl _) (trivial), rfl, ?_⟩
      refine bl_eq (okS_no fun h => ?_)
      obtain ⟨o1, o2, o3, o4⟩ := h
      first | omega | (have := o4 i (by omega) (by omega); omega)
    · refine o_move (AV.lit (.string (a))) (Gd.yes rfl rfl (decide_eq_false h4)) rfl ?_
      refine o_move (nm .i64 (sgnAt a)) (Gd.yes rfl rfl (decide_eq_false h4)) rfl ?_
      refine n_indexS (a) (sgnAt a) (Gd.yes rfl rfl (decide_eq_false h4)) We_tT9 rfl rfl (by omega) ?_
      refine n_eql (byt (a) (sgnAt a)) (48) (Gd.yes rfl rfl (decide_eq_false h4)) rfl rfl ?_
      refine o_move (bp ((byt (a) (sgnAt a)) = (48))) (Gd.yes rfl rfl (decide_eq_false h4)) rfl ?_
      refine o_splitP (q := (byt (a) (sgnAt a)) = (48)) 28 rfl (fun h5 => ?_) (fun h5 => ?_)
      · refine o_move (AV.lit (.string (a))) (Gd.yes rfl rfl (decide_eq_true h5)) rfl ?_
        refine n_lenS (a) (Gd.yes rfl rfl (decide_eq_true h5)) rfl We_tT9 ?_
        refine n_gtr ((a).size) (1) (Gd.yes rfl rfl (decide_eq_true h5)) rfl rfl ?_
        refine o_pickT (b := decide ((byt (a) (sgnAt a)) = (48))) (bp ((1) < ((a).size))) (Gd.yes rfl rfl (decide_eq_false h4)) rfl (decide_eq_true h5) rfl ?_
        refine o_pickF (b := decide ((2000) < (a.size - sgnAt a))) (bp ((1) < ((a).size))) Gd.none rfl (decide_eq_false h4) rfl ?_
        refine aops_end ?_
        refine hK6 _ ?_
        refine awp_condQ (q := (1) < ((a).size)) rfl (fun h6 => ?_) (fun h6 => ?_)
        · refine awp_seq fun K9 hK9 => ?_
          refine awp_region rfl ?_
          refine o_assign (AV.lit (.bool false)) Gd.none rfl ?_
          refine aops_end ?_
          refine hK9 _ ?_
          refine awp_ret ?_
          refine post_ret ⟨[(AV.lit (.bool false))], And.intro (AV.le_refl _) (trivial), rfl, ?_⟩
          refine bl_eq (okS_no fun h => ?_)
          obtain ⟨o1, o2, o3, o4⟩ := h
          first | omega | (have := o4 i (by omega) (by omega); omega)
        · refine awp_skip ?_
          refine hK5 _ ?_
          refine awp_seq fun K10 hK10 => ?_
          refine awp_seq fun K11 hK11 => ?_
          refine awp_region rfl ?_
          refine o_move (nm .i64 (sgnAt a)) Gd.none rfl ?_
          refine o_assign (nm .i64 (sgnAt a)) Gd.none rfl ?_
          refine aops_end ?_
          refine hK11 _ ?_
          refine awp_block ?_
          refine awp_loopR (fun κ σ => ∃ (i : Nat), (sgnAt a ≤ i) ∧ (i ≤ a.size) ∧ (∀ k, sgnAt a ≤ k → k < i → 48 ≤ byt a k ∧ byt a k ≤ 57) ∧ (a.size - i) = κ ∧ σ = ⟨[(0, (AV.lit (.string (a)))), (5, (nm .i64 (i)))], []⟩) ⟨_, _, ⟨sgnAt a, (by omega), (by omega), (fun k h1 h2 => by omega), rfl, rfl⟩, ?wk1⟩ ?rd1
          case wk1 =>
            exact Wk.sub (And.intro (by exact rfl) (And.intro (by first | rfl | exact congrArg (nm _) (by omega) | exact nm_int (by omega) | exact nm_int (by simp [IntKind.wrap, IntKind.bits, IntKind.signed]; omega)) (trivial))) (trivial)
          rintro κ _ ⟨i, hi, hi2, hv, rfl, rfl⟩
          refine awp_seq fun K12 hK12 => ?_
          refine awp_seq fun K13 hK13 => ?_
          refine awp_region rfl ?_
          refine o_move (nm .i64 (i)) Gd.none rfl ?_
          refine o_move (AV.lit (.string (a))) Gd.none rfl ?_
          refine n_lenS (a) Gd.none rfl We_tT9 ?_
          refine n_lss (i) ((a).size) Gd.none rfl rfl ?_
          refine aops_end ?_
          refine hK13 _ ?_
          refine awp_condQ (q := (i) < ((a).size)) rfl (fun h7 => ?_) (fun h7 => ?_)
          · refine awp_skip ?_
            refine hK12 _ ?_
            refine awp_seq fun K14 hK14 => ?_
            refine awp_block ?_
            refine awp_seq fun K15 hK15 => ?_
            refine awp_region rfl ?_
            refine o_move (AV.lit (.string (a))) Gd.none rfl ?_
            refine o_move (nm .i64 (i)) Gd.none rfl ?_
            refine n_indexS (a) (i) Gd.none We_tT9 rfl rfl (by omega) ?_
            refine n_lss (byt (a) (i)) (48) Gd.none rfl rfl ?_
            refine o_move (bp ((byt (a) (i)) < (48))) Gd.none rfl ?_
            refine o_splitP (q := (byt (a) (i)) < (48)) 45 rfl (fun h8 => ?_) (fun h8 => ?_)
            · refine o_skip (b := decide ((byt (a) (i)) < (48))) rfl rfl (decide_eq_true h8) ?_
              refine o_skip (b := decide ((byt (a) (i)) < (48))) rfl rfl (decide_eq_true h8) ?_
              refine o_skip (b := decide ((byt (a) (i)) < (48))) rfl rfl (decide_eq_true h8) ?_
              refine o_skip (b := decide ((byt (a) (i)) < (48))) rfl rfl (decide_eq_true h8) ?_
              refine o_pickT (b := decide ((byt (a) (i)) < (48))) (AV.lit (.bool true)) Gd.none rfl (decide_eq_true h8) rfl ?_
              refine aops_end ?_
              refine hK15 _ ?_
              refine awp_condB (b := true) rfl (fun _ => ?_) (fun hh => absurd (hh.symm.trans rfl) (by decide))
              refine awp_seq fun K16 hK16 => ?_
              refine awp_region rfl ?_
              refine o_assign (AV.lit (.bool false)) Gd.none rfl ?_
              refine aops_end ?_
              refine hK16 _ ?_
              refine awp_ret ?_
              refine post_ret ⟨[(AV.lit (.bool false))], And.intro (AV.le_refl _) (trivial), rfl, ?_⟩
              refine bl_eq (okS_no fun h => ?_)
              obtain ⟨o1, o2, o3, o4⟩ := h
              first | omega | (have := o4 i (by omega) (by omega); omega)
            · refine o_move (AV.lit (.string (a))) (Gd.yes rfl rfl (decide_eq_false h8)) rfl ?_
              refine o_move (nm .i64 (i)) (Gd.yes rfl rfl (decide_eq_false h8)) rfl ?_
              refine n_indexS (a) (i) (Gd.yes rfl rfl (decide_eq_false h8)) We_tT9 rfl rfl (by omega) ?_
              refine n_gtr (byt (a) (i)) (57) (Gd.yes rfl rfl (decide_eq_false h8)) rfl rfl ?_
              refine o_pickF (b := decide ((byt (a) (i)) < (48))) (bp ((57) < (byt (a) (i)))) Gd.none rfl (decide_eq_false h8) rfl ?_
              refine aops_end ?_
              refine hK15 _ ?_
              refine awp_condQ (q := (57) < (byt (a) (i))) rfl (fun h9 => ?_) (fun h9 => ?_)
              · refine awp_seq fun K17 hK17 => ?_
                refine awp_region rfl ?_
                refine o_assign (AV.lit (.bool false)) Gd.none rfl ?_
                refine aops_end ?_
                refine hK17 _ ?_
                refine awp_ret ?_
                refine post_ret ⟨[(AV.lit (.bool false))], And.intro (AV.le_refl _) (trivial), rfl, ?_⟩
                refine bl_eq (okS_no fun h => ?_)
                obtain ⟨o1, o2, o3, o4⟩ := h
                first | omega | (have := o4 i (by omega) (by omega); omega)
              · refine awp_skip ?_
                refine hK14 _ ?_
                refine awp_region rfl ?_
                refine o_move (nm .i64 (i)) Gd.none rfl ?_
                refine n_add (i) (1) Gd.none rfl rfl (by simp only [topOf]; omega) ?_
                refine o_assign (nm .i64 ((i) + (1))) Gd.none rfl ?_
                refine aops_end ?_
                refine ⟨_, _, ?lt, ⟨i + 1, (by omega), (by omega), (fun k hk1 hk2 => by by_cases e : k = i; subst e; omega; exact hv k hk1 (by omega)), rfl, rfl⟩, ?wk⟩
                case lt => omega
                case wk => exact Wk.sub (And.intro (by exact rfl) (And.intro (by first | rfl | exact congrArg (nm _) (by omega) | exact nm_int (by omega) | exact nm_int (by simp [IntKind.wrap, IntKind.bits, IntKind.signed]; omega)) (trivial))) (trivial)
          · refine awp_exit ?_
            refine hK10 _ ?_
            refine awp_seq fun K18 hK18 => ?_
            refine awp_region rfl ?_
            refine o_assign (AV.lit (.bool true)) Gd.none rfl ?_
            refine aops_end ?_
            refine hK18 _ ?_
            refine awp_ret ?_
            refine post_ret ⟨[(AV.lit (.bool true))], And.intro (AV.le_refl _) (trivial), rfl, ?_⟩
            refine bl_eq (okS_yes ⟨by omega, by omega, by omega, fun k hk1 hk2 => hv k hk1 (by omega)⟩)
      · refine o_skip (b := decide ((byt (a) (sgnAt a)) = (48))) rfl rfl (decide_eq_false h5) ?_
        refine o_skip (b := decide ((byt (a) (sgnAt a)) = (48))) rfl rfl (decide_eq_false h5) ?_
        refine o_skip (b := decide ((byt (a) (sgnAt a)) = (48))) rfl rfl (decide_eq_false h5) ?_
        refine o_pickF (b := decide ((byt (a) (sgnAt a)) = (48))) (AV.lit (.bool false)) (Gd.yes rfl rfl (decide_eq_false h4)) rfl (decide_eq_false h5) rfl ?_
        refine o_pickF (b := decide ((2000) < (a.size - sgnAt a))) (AV.lit (.bool false)) Gd.none rfl (decide_eq_false h4) rfl ?_
        refine aops_end ?_
        refine hK6 _ ?_
        refine awp_condB (b := false) rfl (fun hh => absurd (hh.symm.trans rfl) (by decide)) (fun _ => ?_)
        refine awp_skip ?_
        refine hK5 _ ?_
        refine awp_seq fun K19 hK19 => ?_
        refine awp_seq fun K20 hK20 => ?_
        refine awp_region rfl ?_
        refine o_move (nm .i64 (sgnAt a)) Gd.none rfl ?_
        refine o_assign (nm .i64 (sgnAt a)) Gd.none rfl ?_
        refine aops_end ?_
        refine hK20 _ ?_
        refine awp_block ?_
        refine awp_loopR (fun κ σ => ∃ (i : Nat), (sgnAt a ≤ i) ∧ (i ≤ a.size) ∧ (∀ k, sgnAt a ≤ k → k < i → 48 ≤ byt a k ∧ byt a k ≤ 57) ∧ (a.size - i) = κ ∧ σ = ⟨[(0, (AV.lit (.string (a)))), (5, (nm .i64 (i)))], []⟩) ⟨_, _, ⟨sgnAt a, (by omega), (by omega), (fun k h1 h2 => by omega), rfl, rfl⟩, ?wk2⟩ ?rd2
        case wk2 =>
          exact Wk.sub (And.intro (by exact rfl) (And.intro (by first | rfl | exact congrArg (nm _) (by omega) | exact nm_int (by omega) | exact nm_int (by simp [IntKind.wrap, IntKind.bits, IntKind.signed]; omega)) (trivial))) (trivial)
        rintro κ _ ⟨i, hi, hi2, hv, rfl, rfl⟩
        refine awp_seq fun K21 hK21 => ?_
        refine awp_seq fun K22 hK22 => ?_
        refine awp_region rfl ?_
        refine o_move (nm .i64 (i)) Gd.none rfl ?_
        refine o_move (AV.lit (.string (a))) Gd.none rfl ?_
        refine n_lenS (a) Gd.none rfl We_tT9 ?_
        refine n_lss (i) ((a).size) Gd.none rfl rfl ?_
        refine aops_end ?_
        refine hK22 _ ?_
        refine awp_condQ (q := (i) < ((a).size)) rfl (fun h10 => ?_) (fun h10 => ?_)
        · refine awp_skip ?_
          refine hK21 _ ?_
          refine awp_seq fun K23 hK23 => ?_
          refine awp_block ?_
          refine awp_seq fun K24 hK24 => ?_
          refine awp_region rfl ?_
          refine o_move (AV.lit (.string (a))) Gd.none rfl ?_
          refine o_move (nm .i64 (i)) Gd.none rfl ?_
          refine n_indexS (a) (i) Gd.none We_tT9 rfl rfl (by omega) ?_
          refine n_lss (byt (a) (i)) (48) Gd.none rfl rfl ?_
          refine o_move (bp ((byt (a) (i)) < (48))) Gd.none rfl ?_
          refine o_splitP (q := (byt (a) (i)) < (48)) 45 rfl (fun h11 => ?_) (fun h11 => ?_)
          · refine o_skip (b := decide ((byt (a) (i)) < (48))) rfl rfl (decide_eq_true h11) ?_
            refine o_skip (b := decide ((byt (a) (i)) < (48))) rfl rfl (decide_eq_true h11) ?_
            refine o_skip (b := decide ((byt (a) (i)) < (48))) rfl rfl (decide_eq_true h11) ?_
            refine o_skip (b := decide ((byt (a) (i)) < (48))) rfl rfl (decide_eq_true h11) ?_
            refine o_pickT (b := decide ((byt (a) (i)) < (48))) (AV.lit (.bool true)) Gd.none rfl (decide_eq_true h11) rfl ?_
            refine aops_end ?_
            refine hK24 _ ?_
            refine awp_condB (b := true) rfl (fun _ => ?_) (fun hh => absurd (hh.symm.trans rfl) (by decide))
            refine awp_seq fun K25 hK25 => ?_
            refine awp_region rfl ?_
            refine o_assign (AV.lit (.bool false)) Gd.none rfl ?_
            refine aops_end ?_
            refine hK25 _ ?_
            refine awp_ret ?_
            refine post_ret ⟨[(AV.lit (.bool false))], And.intro (AV.le_refl _) (trivial), rfl, ?_⟩
            refine bl_eq (okS_no fun h => ?_)
            obtain ⟨o1, o2, o3, o4⟩ := h
            first | omega | (have := o4 i (by omega) (by omega); omega)
          · refine o_move (AV.lit (.string (a))) (Gd.yes rfl rfl (decide_eq_false h11)) rfl ?_
            refine o_move (nm .i64 (i)) (Gd.yes rfl rfl (decide_eq_false h11)) rfl ?_
            refine n_indexS (a) (i) (Gd.yes rfl rfl (decide_eq_false h11)) We_tT9 rfl rfl (by omega) ?_
            refine n_gtr (byt (a) (i)) (57) (Gd.yes rfl rfl (decide_eq_false h11)) rfl rfl ?_
            refine o_pickF (b := decide ((byt (a) (i)) < (48))) (bp ((57) < (byt (a) (i)))) Gd.none rfl (decide_eq_false h11) rfl ?_
            refine aops_end ?_
            refine hK24 _ ?_
            refine awp_condQ (q := (57) < (byt (a) (i))) rfl (fun h12 => ?_) (fun h12 => ?_)
            · refine awp_seq fun K26 hK26 => ?_
              refine awp_region rfl ?_
              refine o_assign (AV.lit (.bool false)) Gd.none rfl ?_
              refine aops_end ?_
              refine hK26 _ ?_
              refine awp_ret ?_
              refine post_ret ⟨[(AV.lit (.bool false))], And.intro (AV.le_refl _) (trivial), rfl, ?_⟩
              refine bl_eq (okS_no fun h => ?_)
              obtain ⟨o1, o2, o3, o4⟩ := h
              first | omega | (have := o4 i (by omega) (by omega); omega)
            · refine awp_skip ?_
              refine hK23 _ ?_
              refine awp_region rfl ?_
              refine o_move (nm .i64 (i)) Gd.none rfl ?_
              refine n_add (i) (1) Gd.none rfl rfl (by simp only [topOf]; omega) ?_
              refine o_assign (nm .i64 ((i) + (1))) Gd.none rfl ?_
              refine aops_end ?_
              refine ⟨_, _, ?lt, ⟨i + 1, (by omega), (by omega), (fun k hk1 hk2 => by by_cases e : k = i; subst e; omega; exact hv k hk1 (by omega)), rfl, rfl⟩, ?wk⟩
              case lt => omega
              case wk => exact Wk.sub (And.intro (by exact rfl) (And.intro (by first | rfl | exact congrArg (nm _) (by omega) | exact nm_int (by omega) | exact nm_int (by simp [IntKind.wrap, IntKind.bits, IntKind.signed]; omega)) (trivial))) (trivial)
        · refine awp_exit ?_
          refine hK19 _ ?_
          refine awp_seq fun K27 hK27 => ?_
          refine awp_region rfl ?_
          refine o_assign (AV.lit (.bool true)) Gd.none rfl ?_
          refine aops_end ?_
          refine hK27 _ ?_
          refine awp_ret ?_
          refine post_ret ⟨[(AV.lit (.bool true))], And.intro (AV.le_refl _) (trivial), rfl, ?_⟩
          refine bl_eq (okS_yes ⟨by omega, by omega, by omega, fun k hk1 hk2 => hv k hk1 (by omega)⟩)

theorem c_rParse (a : ByteArray) (hok : OkS a) : ECalls cx 24 [(AV.lit (.string (a)))] (intR (numS a)) := by
  refine ecalls_of_awp Tryd.func24 (c := _) rfl (Nat.le_of_ble_eq_true rfl) ?_
  show awp cx 44 _ (postF cx Tryd.f24 _) ⟨[(0, (AV.lit (.string (a))))], []⟩
  obtain ⟨o1, o2, o3, o4⟩ := hok
  have hs1 : sgnAt a ≤ 1 := by unfold sgnAt; split <;> omega
  refine awp_seq fun K0 hK0 => ?_
  refine awp_region rfl ?_
  refine o_alloc 2 [(AV.lit (.bool false)), (AV.lit (.slice none 0 0))] Gd.none We_tO36 rfl rfl rfl ?_
  refine aops_end ?_
  refine hK0 _ ?_
  refine awp_seq fun K1 hK1 => ?_
  refine awp_region rfl ?_
  refine o_move (AV.lit (.string (a))) Gd.none rfl ?_
  refine n_indexS (a) (0) Gd.none We_tT9 rfl rfl (by omega) ?_
  refine n_eql (byt (a) (0)) (45) Gd.none rfl rfl ?_
  refine o_assign (bp ((byt (a) (0)) = (45))) Gd.none rfl ?_
  refine aops_end ?_
  refine hK1 _ ?_
  refine awp_seq fun K2 hK2 => ?_
  refine awp_region rfl ?_
  refine o_assign (nm .i64 (0)) Gd.none rfl ?_
  refine aops_end ?_
  refine hK2 _ ?_
  refine awp_seqJ (J := fun σ => True ∧ σ = ⟨[(0, (AV.lit (.string (a)))), (2, (AV.ref 2 (0))), (3, (bp (byt a 0 = 45))), (4, (nm .i64 (sgnAt a)))], [(2, (AO.var 36 [(AV.lit (.bool false)), (AV.lit (.slice none 0 0))]))]⟩) ?ja0 ?jb0
  case ja0 =>
    refine awp_seq fun K3 hK3 => ?_
    refine awp_region rfl ?_
    refine o_move (bp ((byt (a) (0)) = (45))) Gd.none rfl ?_
    refine aops_end ?_
    refine hK3 _ ?_
    refine awp_condQ (q := (byt (a) (0)) = (45)) rfl (fun h1 => ?_) (fun h1 => ?_)
    · refine awp_region rfl ?_
      refine o_assign (nm .i64 (1)) Gd.none rfl ?_
      refine aops_end ?_
      have hs : sgnAt a = 1 := if_pos h1
      exact ⟨_, ⟨trivial, rfl⟩, Wk.sub (And.intro (by exact rfl) (And.intro (by exact rfl) (And.intro (by first | rfl | exact bp_congr (by first | omega | simp) | exact bl_bp (by first | omega | simp)) (And.intro (by first | rfl | exact congrArg (nm _) (by omega) | exact nm_int (by omega) | exact nm_int (by simp [IntKind.wrap, IntKind.bits, IntKind.signed]; omega)) (trivial))))) (And.intro (by first | rfl | exact row_ns (by simp) | exact congrArg (fun x => some (AO.blk (.stringIter _ x))) (by omega)) (trivial))⟩
    · refine awp_skip ?_
      have hs : sgnAt a = 0 := if_neg h1
      exact ⟨_, ⟨trivial, rfl⟩, Wk.sub (And.intro (by exact rfl) (And.intro (by exact rfl) (And.intro (by first | rfl | exact bp_congr (by first | omega | simp) | exact bl_bp (by first | omega | simp)) (And.intro (by first | rfl | exact congrArg (nm _) (by omega) | exact nm_int (by omega) | exact nm_int (by simp [IntKind.wrap, IntKind.bits, IntKind.signed]; omega)) (trivial))))) (And.intro (by first | rfl | exact row_ns (by simp) | exact congrArg (fun x => some (AO.blk (.stringIter _ x))) (by omega)) (trivial))⟩
  rintro _ ⟨-, rfl⟩
  refine awp_seq fun K4 hK4 => ?_
  refine awp_region rfl ?_
  refine o_assign (AV.lit (.slice none 0 0)) Gd.none rfl ?_
  refine aops_end ?_
  refine hK4 _ ?_
  refine awp_seq fun K5 hK5 => ?_
  refine awp_seq fun K6 hK6 => ?_
  refine awp_region rfl ?_
  refine o_move (AV.lit (.string (a))) Gd.none rfl ?_
  refine n_lenS (a) Gd.none rfl We_tT9 ?_
  refine o_assign (nm .i64 ((a).size)) Gd.none rfl ?_
  refine aops_end ?_
  refine hK6 _ ?_
  refine awp_block ?_
  refine awp_loopR (fun κ σ => ∃ (E : Int), ∃ (L : List Nat), (E ≤ a.size) ∧ (Dig L) ∧ ((sgnAt a : Int) < E → L.length * 9 = a.size - E.toNat) ∧ (L.length ≤ 2000) ∧ (val L = dvk a (max (sgnAt a) E.toNat) (a.size - max (sgnAt a) E.toNat)) ∧ (E.toNat) = κ ∧ σ = ⟨[(0, (AV.lit (.string (a)))), (2, (AV.ref 2 (0))), (3, (bp (byt a 0 = 45))), (4, (nm .i64 (sgnAt a))), (5, (AV.row 3)), (6, (AV.lit (.int .i64 (E))))], [(2, (AO.var 36 [(AV.lit (.bool false)), (AV.lit (.slice none 0 0))])), (3, (AO.row 3 1 (ns .i64 (L))))]⟩) ⟨_, _, ⟨(a.size : Int), [], (by omega), Dig.nil, (by intro _; simp), (by simp), (by rw [show max (sgnAt a) (a.size : Int).toNat = a.size by omega]; simp [val, dvk]), rfl, rfl⟩, ?wk1⟩ ?rd1
  case wk1 =>
    exact Wk.trans (Wk.newNil (i := 5) (id := 601) (e := 3) (sz := 1) rfl rfl (by decide)) (Wk.trans (Wk.sub (σ' := ⟨[(0, (AV.lit (.string (a)))), (2, (AV.ref 2 (0))), (3, (bp (byt a 0 = 45))), (4, (nm .i64 (sgnAt a))), (5, (AV.row 601)), (6, (nm .i64 ((a).size)))], [(2, (AO.var 36 [(AV.lit (.bool false)), (AV.lit (.slice none 0 0))])), (601, (AO.row 3 1 (ns .i64 ([]))))]⟩) (And.intro rfl (And.intro rfl (And.intro rfl (And.intro rfl (And.intro rfl (And.intro rfl (trivial))))))) (And.intro rfl (And.intro rfl (trivial)))) (Wk.trans (Wk.ren (id := 601) (id' := 3) rfl) (Wk.sub (And.intro (by exact rfl) (And.intro (by exact rfl) (And.intro (by exact rfl) (And.intro (by exact rfl) (And.intro (by first | rfl | (simp)) (And.intro (by first | rfl | exact int_eq (by omega) | exact int_nm (by omega)) (trivial))))))) (And.intro (by first | rfl | exact row_ns (by simp) | exact congrArg (fun x => some (AO.blk (.stringIter _ x))) (by omega)) (And.intro (by first | rfl | exact row_ns (by simp) | exact congrArg (fun x => some (AO.blk (.stringIter _ x))) (by omega)) (trivial))))))
  rintro κ _ ⟨E, L, hE, hd, hl, hl2, hv, rfl, rfl⟩
  refine awp_seq fun K7 hK7 => ?_
  refine awp_seq fun K8 hK8 => ?_
  refine awp_region rfl ?_
  refine o_move (AV.lit (.int .i64 (E))) Gd.none rfl ?_
  refine o_move (nm .i64 (sgnAt a)) Gd.none rfl ?_
  refine o_gtr (a := (E)) (c := (((sgnAt a : Nat) : Int))) Gd.none rfl rfl ?_
  refine aops_end ?_
  refine hK8 _ ?_
  refine awp_condQ (q := (((sgnAt a : Nat) : Int)) < (E)) rfl (fun h2 => ?_) (fun h2 => ?_)
  · refine awp_wk (Wk.slot (i := 6) (y := (nm .i64 (E.toNat))) (AV.le_eq (by exact nm_int (by omega)))) ?_
    refine awp_skip ?_
    refine hK7 _ ?_
    refine awp_seq fun K9 hK9 => ?_
    refine awp_block ?_
    refine awp_seq fun K10 hK10 => ?_
    refine awp_region rfl ?_
    refine o_assign (nm .i64 (0)) Gd.none rfl ?_
    refine aops_end ?_
    refine hK10 _ ?_
    refine awp_seq fun K11 hK11 => ?_
    refine awp_seq fun K12 hK12 => ?_
    refine awp_region rfl ?_
    refine o_move (nm .i64 (sgnAt a)) Gd.none rfl ?_
    refine o_move (nm .i64 (E.toNat)) Gd.none rfl ?_
    refine o_sub (a := (((E.toNat : Nat) : Int))) (c := (((9 : Nat) : Int))) Gd.none rfl rfl (by exact wrap64 (by omega) (by omega)) ?_
    refine o_max (a := ((sgnAt a : Nat) : Int)) (c := (((E.toNat : Nat) : Int)) - (((9 : Nat) : Int))) Gd.none rfl rfl (fun w => run_max _ _ w) ?_
    refine n_as (v' := (nm .i64 (max (sgnAt a) (E.toNat - 9)))) (nm_int (by omega)) ?_
    refine o_assign (nm .i64 (max (sgnAt a) (E.toNat - 9))) Gd.none rfl ?_
    refine aops_end ?_
    refine hK12 _ ?_
    refine awp_block ?_
    refine awp_loopR (fun κ σ => ∃ (i : Nat), ∃ (q : Nat), (max (sgnAt a) (E.toNat - 9) ≤ i) ∧ (i ≤ E.toNat) ∧ (q = dvk a (max (sgnAt a) (E.toNat - 9)) (i - (max (sgnAt a) (E.toNat - 9)))) ∧ (E.toNat - i) = κ ∧ σ = ⟨[(0, (AV.lit (.string (a)))), (2, (AV.ref 2 (0))), (3, (bp (byt a 0 = 45))), (4, (nm .i64 (sgnAt a))), (5, (AV.row 3)), (6, (nm .i64 (E.toNat))), (7, (nm .i64 (q))), (8, (nm .i64 (i)))], [(2, (AO.var 36 [(AV.lit (.bool false)), (AV.lit (.slice none 0 0))])), (3, (AO.row 3 1 (ns .i64 (L))))]⟩) ⟨_, _, ⟨max (sgnAt a) (E.toNat - 9), 0, (by omega), (by omega), (by simp [dvk]), rfl, rfl⟩, ?wk2⟩ ?rd2
    case wk2 =>
      exact Wk.sub (And.intro (by exact rfl) (And.intro (by exact rfl) (And.intro (by exact rfl) (And.intro (by exact rfl) (And.intro (by exact rfl) (And.intro (by exact rfl) (And.intro (by first | rfl | exact congrArg (nm _) (by omega) | exact nm_int (by omega) | exact nm_int (by simp [IntKind.wrap, IntKind.bits, IntKind.signed]; omega)) (And.intro (by first | rfl | exact congrArg (nm _) (by omega) | exact nm_int (by omega) | exact nm_int (by simp [IntKind.wrap, IntKind.bits, IntKind.signed]; omega)) (trivial))))))))) (And.intro (by first | rfl | exact row_ns (by simp) | exact congrArg (fun x => some (AO.blk (.stringIter _ x))) (by omega)) (And.intro (by first | rfl | exact row_ns (by simp) | exact congrArg (fun x => some (AO.blk (.stringIter _ x))) (by omega)) (trivial)))
    rintro κ _ ⟨i, q, hi, hi2, hq0, rfl, rfl⟩
    have hdl := dvk_lt (a := a) (s := max (sgnAt a) (E.toNat - 9)) (k := i - (max (sgnAt a) (E.toNat - 9))) fun j h1 h2 => o4 j (by omega) (by omega)
    rw [← hq0] at hdl
    have hq2 : q < 1000000000 := Nat.lt_of_lt_of_le hdl (by have := Nat.pow_le_pow_right (n := 10) (by decide) (show i - (max (sgnAt a) (E.toNat - 9)) ≤ 9 by omega); simpa using this)
    have hb := fun h => o4 i (by omega) h
    refine awp_seq fun K13 hK13 => ?_
    refine awp_seq fun K14 hK14 => ?_
    refine awp_region rfl ?_
    refine o_move (nm .i64 (i)) Gd.none rfl ?_
    refine o_move (nm .i64 (E.toNat)) Gd.none rfl ?_
    refine n_lss (i) (E.toNat) Gd.none rfl rfl ?_
    refine aops_end ?_
    refine hK14 _ ?_
    refine awp_condQ (q := (i) < (E.toNat)) rfl (fun h3 => ?_) (fun h3 => ?_)
    · refine awp_skip ?_
      refine hK13 _ ?_
      refine awp_seq fun K15 hK15 => ?_
      refine awp_block ?_
      refine awp_region rfl ?_
      refine o_move (nm .i64 (q)) Gd.none rfl ?_
      refine n_mul (10) (q) Gd.none rfl rfl (by simp only [topOf]; omega) ?_
      refine o_move (AV.lit (.string (a))) Gd.none rfl ?_
      refine o_move (nm .i64 (i)) Gd.none rfl ?_
      refine n_indexS (a) (i) Gd.none We_tT9 rfl rfl (by omega) ?_
      refine n_sub (byt (a) (i)) (48) Gd.none rfl rfl (by have := hb (by omega); omega) (by have := byt_lt a i; simp only [topOf]; omega) ?_
      refine n_conv ((byt (a) (i)) - (48)) Gd.none rfl We_tI5 We_tI3 (by have := byt_lt a i; simp only [topOf]; omega) ?_
      refine n_add ((10) * (q)) ((byt (a) (i)) - (48)) Gd.none rfl rfl (by have := byt_lt a i; simp only [topOf]; omega) ?_
      refine o_assign (nm .i64 (((10) * (q)) + ((byt (a) (i)) - (48)))) Gd.none rfl ?_
      refine aops_end ?_
      refine hK15 _ ?_
      refine awp_region rfl ?_
      refine o_move (nm .i64 (i)) Gd.none rfl ?_
      refine n_add (i) (1) Gd.none rfl rfl (by simp only [topOf]; omega) ?_
      refine o_assign (nm .i64 ((i) + (1))) Gd.none rfl ?_
      refine aops_end ?_
      refine ⟨_, _, ?lt, ⟨i + 1, ((10) * (q)) + ((byt (a) (i)) - (48)), (by omega), (by omega), (by rw [show i + 1 - (max (sgnAt a) (E.toNat - 9)) = (i - (max (sgnAt a) (E.toNat - 9))) + 1 by omega, dvk, ← hq0, show max (sgnAt a) (E.toNat - 9) + (i - (max (sgnAt a) (E.toNat - 9))) = i by omega]), rfl, rfl⟩, ?wk⟩
      case lt => omega
      case wk => exact Wk.sub (And.intro (by exact rfl) (And.intro (by exact rfl) (And.intro (by exact rfl) (And.intro (by exact rfl) (And.intro (by exact rfl) (And.intro (by exact rfl) (And.intro (by first | rfl | exact congrArg (nm _) (by omega) | exact nm_int (by omega) | exact nm_int (by simp [IntKind.wrap, IntKind.bits, IntKind.signed]; omega)) (And.intro (by first | rfl | exact congrArg (nm _) (by omega) | exact nm_int (by omega) | exact nm_int (by simp [IntKind.wrap, IntKind.bits, IntKind.signed]; omega)) (trivial))))))))) (And.intro (by first | rfl | exact row_ns (by simp) | exact congrArg (fun x => some (AO.blk (.stringIter _ x))) (by omega)) (And.intro (by first | rfl | exact row_ns (by simp) | exact congrArg (fun x => some (AO.blk (.stringIter _ x))) (by omega)) (trivial)))
    · have hq : q = dvk a (max (sgnAt a) (E.toNat - 9)) (E.toNat - (max (sgnAt a) (E.toNat - 9))) := by rw [hq0, show i = E.toNat by omega]
      refine awp_exit ?_
      refine hK11 _ ?_
      refine awp_region rfl ?_
      refine o_move (AV.row 3) Gd.none rfl ?_
      refine o_move (nm .i64 (q)) Gd.none rfl ?_
      refine o_buildSlice 301 (ns .i64 ([q])) [(0, [(nm .i64 (q))])] Gd.none We_tE22 rfl We_tO3 rfl rfl rfl rfl rfl rfl rfl ?_
      refine n_append 302 (L) ([q]) [(301, (AO.row 3 1 (ns .i64 ([q])))), (2, (AO.var 36 [(AV.lit (.bool false)), (AV.lit (.slice none 0 0))]))] Gd.none We_tE22 We_tO3 rfl rfl rfl rfl rfl (by simp only [List.length_append, List.length_cons, List.length_nil]; omega) (by decide) rfl rfl ?_
      refine o_assign (AV.row 302) Gd.none rfl ?_
      refine aops_end ?_
      refine hK9 _ ?_
      refine awp_region rfl ?_
      refine o_move (nm .i64 (E.toNat)) Gd.none rfl ?_
      refine o_sub (a := (((E.toNat : Nat) : Int))) (c := (((9 : Nat) : Int))) Gd.none rfl rfl (by exact wrap64 (by omega) (by omega)) ?_
      refine o_assign (AV.lit (.int .i64 ((((E.toNat : Nat) : Int)) - (((9 : Nat) : Int))))) Gd.none rfl ?_
      refine aops_end ?_
      refine ⟨_, _, ?lt, ⟨(E.toNat : Int) - 9, (L) ++ ([q]), (by omega), (hd.snoc hq2), (by intro h; have := hl (by omega); simp only [List.length_append, List.length_cons, List.length_nil]; omega), (by have := hl (by omega); simp only [List.length_append, List.length_cons, List.length_nil]; omega), (by rw [hq]; rw [show max (sgnAt a) E.toNat = E.toNat by omega] at hv; have hh := parse_step (s := max (sgnAt a) (E.toNat - 9)) (by omega) (by omega) (hl (by omega)) hv; rw [show max (sgnAt a) ((E.toNat : Int) - 9).toNat = max (sgnAt a) (E.toNat - 9) by omega]; exact hh), rfl, rfl⟩, ?wk⟩
      case lt => omega
      case wk => exact Wk.trans (Wk.sub (σ' := ⟨[(0, (AV.lit (.string (a)))), (2, (AV.ref 2 (0))), (3, (bp (byt a 0 = 45))), (4, (nm .i64 (sgnAt a))), (5, (AV.row 302)), (6, (AV.lit (.int .i64 ((((E.toNat : Nat) : Int)) - (((9 : Nat) : Int))))))], [(2, (AO.var 36 [(AV.lit (.bool false)), (AV.lit (.slice none 0 0))])), (302, (AO.row 3 1 (ns .i64 ((L) ++ ([q])))))]⟩) (And.intro rfl (And.intro rfl (And.intro rfl (And.intro rfl (And.intro rfl (And.intro rfl (trivial))))))) (And.intro rfl (And.intro rfl (trivial)))) (Wk.trans (Wk.ren (id := 302) (id' := 3) rfl) (Wk.sub (And.intro (by exact rfl) (And.intro (by exact rfl) (And.intro (by exact rfl) (And.intro (by exact rfl) (And.intro (by first | rfl | (simp)) (And.intro (by first | rfl | exact int_eq (by omega) | exact int_nm (by omega)) (trivial))))))) (And.intro (by first | rfl | exact row_ns (by simp) | exact congrArg (fun x => some (AO.blk (.stringIter _ x))) (by omega)) (And.intro (by first | rfl | exact row_ns (by simp) | exact congrArg (fun x => some (AO.blk (.stringIter _ x))) (by omega)) (trivial)))))
  · refine awp_exit ?_
    refine hK5 _ ?_
    refine awp_seq fun K16 hK16 => ?_
    refine awp_region rfl ?_
    refine o_move (bp (byt a 0 = 45)) Gd.none rfl ?_
    refine o_move (AV.row 3) Gd.none rfl ?_
    refine o_callG [(3, 1, (ns .i64 (L)))] [(bp (byt a 0 = 45)), (AV.sl 1 (ns .i64 (L)))] _ (intR ((sg (decide (byt a 0 = 45)) (val (L))))) [(2, (AO.var 36 [(AV.lit (.bool false)), (AV.lit (.slice none 0 0))]))] Gd.none We_tC74 rfl (And.intro ⟨_, rfl⟩ (trivial)) rfl rfl (LeL.cons (AV.le_refl _) (LeL.cons (AV.le_refl _) (LeL.nil))) (c_rTrim (decide (byt a 0 = 45)) (L) (by first | assumption | exact dgn_dig _ _ | exact digs_dig _)) rfl ?_
    refine o_store [(2, (AO.var 36 [(bp ((sg (decide (byt a 0 = 45)) (val (L))) < 0)), (AV.sl 1 (ns .i64 (digs ((sg (decide (byt a 0 = 45)) (val (L)))).natAbs)))]))] Gd.none We_tZ36 rfl rfl rfl rfl rfl rfl ?_
    refine aops_end ?_
    refine hK16 _ ?_
    refine awp_ret ?_
    refine post_ret ⟨[(AV.agg [(bp ((sg (decide (byt a 0 = 45)) (val (L))) < 0)), (AV.sl 1 (ns .i64 (digs ((sg (decide (byt a 0 = 45)) (val (L)))).natAbs)))])], And.intro ⟨2, (AO.var 36 [(bp ((sg (decide (byt a 0 = 45)) (val (L))) < 0)), (AV.sl 1 (ns .i64 (digs ((sg (decide (byt a 0 = 45)) (val (L)))).natAbs)))]), rfl, rfl, rfl, Or.inl ⟨We_tA36, AV.le_refl _⟩⟩ (trivial), rfl, ?_⟩
    refine congrArg (intK .i64) ?_
    rw [hv, show max (sgnAt a) E.toNat = sgnAt a by omega]
    rfl

end Go.Proofs.YtkngglpnejdicaaDoor
