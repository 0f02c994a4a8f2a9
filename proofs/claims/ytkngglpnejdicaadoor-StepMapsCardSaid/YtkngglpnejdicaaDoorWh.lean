import Derived.Test.YtkngglpnejdicaaDoorWg
set_option linter.unusedVariables false
set_option linter.unusedSimpArgs false
namespace Go.Proofs.YtkngglpnejdicaaDoor
open Go Go.Ab Go.Mth
theorem Wh_tT9 : cx.P.underlying 9 = some .string := by kernel_rfl
theorem c_nValid (a : ByteArray) (hsz : a.size ≤ 9223372036854775807) : ECalls cx 65 [(AV.lit (.string (a)))] (.lit (.bool (okS a))) := by
  refine ecalls_of_awp Tryd.func65 (c := _) rfl (Nat.le_of_ble_eq_true rfl) ?_
  show awp cx 50 _ (postF cx Tryd.f65 _) ⟨[(0, (AV.lit (.string (a))))], []⟩
  have hs1 : sgnAt a ≤ 1 := by unfold sgnAt; split <;> omega
  refine awp_seq fun K0 hK0 => ?_
  refine awp_region rfl ?_
  refine o_assign (AV.lit (.bool false)) Gd.none rfl ?_
  refine aops_end ?_
  refine hK0 _ ?_
  refine awp_seq fun K1 hK1 => ?_
  refine awp_seq fun K2 hK2 => ?_
  refine awp_region rfl ?_
  refine o_move (AV.lit (.string (a))) Gd.none rfl ?_
  refine n_lenS (a) Gd.none rfl Wh_tT9 ?_
  refine n_gtr ((a).size) (2001) Gd.none rfl rfl ?_
  refine aops_end ?_
  refine hK2 _ ?_
  refine awp_condQ (q := (2001) < ((a).size)) rfl (fun h1 => ?_) (fun h1 => ?_)
  · refine awp_seq fun K3 hK3 => ?_
    refine awp_region rfl ?_
    refine o_assign (AV.lit (.bool false)) Gd.none rfl ?_
    refine aops_end ?_
    refine hK3 _ ?_
    refine awp_ret ?_
    refine post_ret ⟨[(AV.lit (.bool false))], And.intro (AV.le_refl _) (trivial), rfl, ?_⟩
    refine bl_eq (okS_no fun h => ?_)
    obtain ⟨o1, o2, o3, o4⟩ := h
    first | omega | (have := str_nil.1 (by assumption); omega) | (have e := hb 0 (by omega); rw [Nat.add_zero] at e; omega) | (have e := hb 0 (by omega); have := hng1 (by assumption); rw [Nat.add_zero] at e; omega) | (have e := o4 (sgnAt a + pos) (by omega) (by omega); rw [← hb pos (by omega)] at e; have e2 := utf8_lo (a := b) (pos := pos) (by omega) (by omega); simp only [e2] at *; omega)
  · refine awp_skip ?_
    refine hK1 _ ?_
    refine awp_seqJ (J := fun σ => ∃ (ng : Bool), (ng = true → sgnAt a = 1) ∧ (ng = false → sgnAt a = 0) ∧ (ng = true → 0 < a.size) ∧ True ∧ σ = ⟨[(0, (AV.lit (.string (a)))), (3, (AV.lit (.bool (ng))))], []⟩) ?ja0 ?jb0
    case ja0 =>
      refine awp_region rfl ?_
      refine o_move (AV.lit (.string (a))) Gd.none rfl ?_
      refine o_neqS (a := (a)) (c := (({data := #[]} : ByteArray))) Gd.none rfl rfl ?_
      refine o_move (bp ((a).toList ≠ (({data := #[]} : ByteArray)).toList)) Gd.none rfl ?_
      refine o_splitP (q := (a).toList ≠ (({data := #[]} : ByteArray)).toList) 11 rfl (fun h2 => ?_) (fun h2 => ?_)
      · refine o_move (AV.lit (.string (a))) (Gd.yes rfl rfl (decide_eq_true h2)) rfl ?_
        refine n_indexS (a) (0) (Gd.yes rfl rfl (decide_eq_true h2)) Wh_tT9 rfl rfl (by have := mt str_nil.2 h2; omega) ?_
        refine n_eql (byt (a) (0)) (45) (Gd.yes rfl rfl (decide_eq_true h2)) rfl rfl ?_
        refine o_pickT (b := decide ((a).toList ≠ (({data := #[]} : ByteArray)).toList)) (bp ((byt (a) (0)) = (45))) Gd.none rfl (decide_eq_true h2) rfl ?_
        refine o_assign (bp ((byt (a) (0)) = (45))) Gd.none rfl ?_
        refine aops_end ?_
        have hne := mt str_nil.2 h2
        exact ⟨_, ⟨decide ((byt (a) (0)) = (45)), (fun h => if_pos (of_decide_eq_true h)), (fun h => if_neg (of_decide_eq_false h)), (fun _ => by omega), trivial, rfl⟩, Wk.sub (And.intro (by exact rfl) (And.intro (by first | rfl | (simp)) (trivial))) (trivial)⟩
      · refine o_skip (b := decide ((a).toList ≠ (({data := #[]} : ByteArray)).toList)) rfl rfl (decide_eq_false h2) ?_
        refine o_skip (b := decide ((a).toList ≠ (({data := #[]} : ByteArray)).toList)) rfl rfl (decide_eq_false h2) ?_
        refine o_skip (b := decide ((a).toList ≠ (({data := #[]} : ByteArray)).toList)) rfl rfl (decide_eq_false h2) ?_
        refine o_pickF (b := decide ((a).toList ≠ (({data := #[]} : ByteArray)).toList)) (AV.lit (.bool false)) Gd.none rfl (decide_eq_false h2) rfl ?_
        refine o_assign (AV.lit (.bool false)) Gd.none rfl ?_
        refine aops_end ?_
        have hs : sgnAt a = 0 := if_neg (by rw [byt_nil (str_nil.1 (Decidable.not_not.1 h2))]; decide)
        exact ⟨_, ⟨false, (fun h => by cases h), (fun _ => hs), (fun h => by cases h), trivial, rfl⟩, Wk.sub (And.intro (by exact rfl) (And.intro (by first | rfl | (simp)) (trivial))) (trivial)⟩
    rintro _ ⟨ng, hng1, hng0, hngz, -, rfl⟩
    refine awp_seqJ (J := fun σ => ∃ (b : ByteArray), (b.size = a.size - sgnAt a) ∧ (∀ i, i < b.size → byt b i = byt a (sgnAt a + i)) ∧ True ∧ σ = ⟨[(0, (AV.lit (.string (b)))), (3, (AV.lit (.bool (ng))))], []⟩) ?ja1 ?jb1
    case ja1 =>
      refine awp_seq fun K4 hK4 => ?_
      refine awp_region rfl ?_
      refine o_move (AV.lit (.bool (ng))) Gd.none rfl ?_
      refine aops_end ?_
      refine hK4 _ ?_
      refine awp_condB (b := ng) rfl (fun h3 => ?_) (fun h3 => ?_)
      · refine awp_region rfl ?_
        refine o_move (AV.lit (.string (a))) Gd.none rfl ?_
        refine n_sliceSL (a) (1) ((a).size) Gd.none Wh_tT9 rfl rfl (by have hz := hngz h3; omega) (by rfl) ?_
        refine o_assign (AV.lit (.string ((a).extract (1) ((a).size)))) Gd.none rfl ?_
        refine aops_end ?_
        have hs := hng1 h3
        have hz := hngz h3
        exact ⟨_, ⟨(a).extract (1) ((a).size), (by rw [extract_size a (by omega) (by omega)]; omega), (fun i hi => by rw [extract_size a (by omega) (by omega)] at hi; rw [byt_extract a (by omega) (by omega), hs]), trivial, rfl⟩, Wk.sub (And.intro (by first | rfl | (simp)) (And.intro (by exact rfl) (trivial))) (trivial)⟩
      · refine awp_skip ?_
        have hs := hng0 h3
        exact ⟨_, ⟨a, (by omega), (fun i hi => by rw [hs, Nat.zero_add]), trivial, rfl⟩, Wk.sub (And.intro (by first | rfl | (simp)) (And.intro (by exact rfl) (trivial))) (trivial)⟩
    rintro _ ⟨b, hbs, hb, -, rfl⟩
    refine awp_seq fun K5 hK5 => ?_
    refine awp_seq fun K6 hK6 => ?_
    refine awp_region rfl ?_
    refine o_move (AV.lit (.string (b))) Gd.none rfl ?_
    refine o_eqlS (a := (b)) (c := (({data := #[]} : ByteArray))) Gd.none rfl rfl ?_
    refine o_move (bp ((b).toList = (({data := #[]} : ByteArray)).toList)) Gd.none rfl ?_
    refine o_splitP (q := (b).toList = (({data := #[]} : ByteArray)).toList) 21 rfl (fun h4 => ?_) (fun h4 => ?_)
    · refine o_skip (b := decide ((b).toList = (({data := #[]} : ByteArray)).toList)) rfl rfl (decide_eq_true h4) ?_
      refine o_skip (b := decide ((b).toList = (({data := #[]} : ByteArray)).toList)) rfl rfl (decide_eq_true h4) ?_
      refine o_skip (b := decide ((b).toList = (({data := #[]} : ByteArray)).toList)) rfl rfl (decide_eq_true h4) ?_
      refine o_pickT (b := decide ((b).toList = (({data := #[]} : ByteArray)).toList)) (AV.lit (.bool true)) Gd.none rfl (decide_eq_true h4) rfl ?_
      refine o_move (AV.lit (.bool true)) Gd.none rfl ?_
      refine o_skip (b := true) rfl rfl rfl ?_
      refine o_skip (b := true) rfl rfl rfl ?_
      refine o_skip (b := true) rfl rfl rfl ?_
      refine o_skip (b := true) rfl rfl rfl ?_
      refine o_skipU rfl rfl ?_
      refine o_skipU rfl rfl ?_
      refine o_skipU rfl rfl ?_
      refine o_skipU rfl rfl ?_
      refine o_skipU rfl rfl ?_
      refine o_skipU rfl rfl ?_
      refine o_skip (b := true) rfl rfl rfl ?_
      refine o_pickT (b := true) (AV.lit (.bool true)) Gd.none rfl rfl rfl ?_
      refine aops_end ?_
      refine hK6 _ ?_
      refine awp_condB (b := true) rfl (fun _ => ?_) (fun hh => absurd (hh.symm.trans rfl) (by decide))
      refine awp_seq fun K7 hK7 => ?_
      refine awp_region rfl ?_
      refine o_assign (AV.lit (.bool false)) Gd.none rfl ?_
      refine aops_end ?_
      refine hK7 _ ?_
      refine awp_ret ?_
      refine post_ret ⟨[(AV.lit (.bool false))], And.intro (AV.le_refl _) (trivial), rfl, ?_⟩
      refine bl_eq (okS_no fun h => ?_)
      obtain ⟨o1, o2, o3, o4⟩ := h
      first | omega | (have := str_nil.1 (by assumption); omega) | (have e := hb 0 (by omega); rw [Nat.add_zero] at e; omega) | (have e := hb 0 (by omega); have := hng1 (by assumption); rw [Nat.add_zero] at e; omega) | (have e := o4 (sgnAt a + pos) (by omega) (by omega); rw [← hb pos (by omega)] at e; have e2 := utf8_lo (a := b) (pos := pos) (by omega) (by omega); simp only [e2] at *; omega)
    · have hne := mt str_nil.2 h4
      refine o_move (AV.lit (.string (b))) (Gd.yes rfl rfl (decide_eq_false h4)) rfl ?_
      refine n_lenS (b) (Gd.yes rfl rfl (decide_eq_false h4)) rfl Wh_tT9 ?_
      refine n_gtr ((b).size) (2000) (Gd.yes rfl rfl (decide_eq_false h4)) rfl rfl ?_
      refine o_pickF (b := decide ((b).toList = (({data := #[]} : ByteArray)).toList)) (bp ((2000) < ((b).size))) Gd.none rfl (decide_eq_false h4) rfl ?_
      refine o_move (bp ((2000) < ((b).size))) Gd.none rfl ?_
      refine o_splitP (q := (2000) < ((b).size)) 26 rfl (fun h5 => ?_) (fun h5 => ?_)
      · refine o_skip (b := decide ((2000) < ((b).size))) rfl rfl (decide_eq_true h5) ?_
        refine o_skip (b := decide ((2000) < ((b).size))) rfl rfl (decide_eq_true h5) ?_
        refine o_skip (b := decide ((2000) < ((b).size))) rfl rfl (decide_eq_true h5) ?_
        refine o_skip (b := decide ((2000) < ((b).size))) rfl rfl (decide_eq_true h5) ?_
        refine o_skipU rfl rfl ?_
        refine o_skipU rfl rfl ?_
        refine o_skipU rfl rfl ?_
        refine o_skipU rfl rfl ?_
        refine o_skipU rfl rfl ?_
        refine o_skipU rfl rfl ?_
        refine o_skip (b := decide ((2000) < ((b).size))) rfl rfl (decide_eq_true h5) ?_
        refine o_pickT (b := decide ((2000) < ((b).size))) (AV.lit (.bool true)) Gd.none rfl (decide_eq_true h5) rfl ?_
        refine aops_end ?_
        refine hK6 _ ?_
        refine awp_condB (b := true) rfl (fun _ => ?_) (fun hh => absurd (hh.symm.trans rfl) (by decide))
        refine awp_seq fun K8 hK8 => ?_
        refine awp_region rfl ?_
        refine o_assign (AV.lit (.bool false)) Gd.none rfl ?_
        refine aops_end ?_
        refine hK8 _ ?_
        refine awp_ret ?_
        refine post_ret ⟨[(AV.lit (.bool false))], And.intro (AV.le_refl _) (trivial), rfl, ?_⟩
        refine bl_eq (okS_no fun h => ?_)
        obtain ⟨o1, o2, o3, o4⟩ := h
        first | omega | (have := str_nil.1 (by assumption); omega) | (have e := hb 0 (by omega); rw [Nat.add_zero] at e; omega) | (have e := hb 0 (by omega); have := hng1 (by assumption); rw [Nat.add_zero] at e; omega) | (have e := o4 (sgnAt a + pos) (by omega) (by omega); rw [← hb pos (by omega)] at e; have e2 := utf8_lo (a := b) (pos := pos) (by omega) (by omega); simp only [e2] at *; omega)
      · refine o_move (AV.lit (.string (b))) (Gd.yes rfl rfl (decide_eq_false h5)) rfl ?_
        refine n_indexS (b) (0) (Gd.yes rfl rfl (decide_eq_false h5)) Wh_tT9 rfl rfl (by omega) ?_
        refine n_eql (byt (b) (0)) (48) (Gd.yes rfl rfl (decide_eq_false h5)) rfl rfl ?_
        refine o_move (bp ((byt (b) (0)) = (48))) (Gd.yes rfl rfl (decide_eq_false h5)) rfl ?_
        refine o_splitP (q := (byt (b) (0)) = (48)) 30 rfl (fun h6 => ?_) (fun h6 => ?_)
        · refine o_move (AV.lit (.string (b))) (Gd.yes rfl rfl (decide_eq_true h6)) rfl ?_
          refine n_lenS (b) (Gd.yes rfl rfl (decide_eq_true h6)) rfl Wh_tT9 ?_
          refine n_gtr ((b).size) (1) (Gd.yes rfl rfl (decide_eq_true h6)) rfl rfl ?_
          refine o_move (bp ((1) < ((b).size))) (Gd.yes rfl rfl (decide_eq_true h6)) rfl ?_
          refine o_splitP (q := (1) < ((b).size)) 34 rfl (fun h7 => ?_) (fun h7 => ?_)
          · refine o_skip (b := decide ((1) < ((b).size))) rfl rfl (decide_eq_true h7) ?_
            refine o_pickT (b := decide ((1) < ((b).size))) (AV.lit (.bool true)) (Gd.yes rfl rfl (decide_eq_true h6)) rfl (decide_eq_true h7) rfl ?_
            refine o_pickT (b := decide ((byt (b) (0)) = (48))) (AV.lit (.bool true)) (Gd.yes rfl rfl (decide_eq_false h5)) rfl (decide_eq_true h6) rfl ?_
            refine o_pickF (b := decide ((2000) < ((b).size))) (AV.lit (.bool true)) Gd.none rfl (decide_eq_false h5) rfl ?_
            refine aops_end ?_
            refine hK6 _ ?_
            refine awp_condB (b := true) rfl (fun _ => ?_) (fun hh => absurd (hh.symm.trans rfl) (by decide))
            refine awp_seq fun K9 hK9 => ?_
            refine awp_region rfl ?_
            refine o_assign (AV.lit (.bool false)) Gd.none rfl ?_
            refine aops_end ?_
            refine hK9 _ ?_
            refine awp_ret ?_
            refine post_ret ⟨[(AV.lit (.bool false))], And.intro (AV.le_refl _) (trivial), rfl, ?_⟩
            refine bl_eq (okS_no fun h => ?_)
            obtain ⟨o1, o2, o3, o4⟩ := h
            first | omega | (have := str_nil.1 (by assumption); omega) | (have e := hb 0 (by omega); rw [Nat.add_zero] at e; omega) | (have e := hb 0 (by omega); have := hng1 (by assumption); rw [Nat.add_zero] at e; omega) | (have e := o4 (sgnAt a + pos) (by omega) (by omega); rw [← hb pos (by omega)] at e; have e2 := utf8_lo (a := b) (pos := pos) (by omega) (by omega); simp only [e2] at *; omega)
          · refine o_move (AV.lit (.bool (ng))) (Gd.yes rfl rfl (decide_eq_false h7)) rfl ?_
            refine o_pickF (b := decide ((1) < ((b).size))) (AV.lit (.bool (ng))) (Gd.yes rfl rfl (decide_eq_true h6)) rfl (decide_eq_false h7) rfl ?_
            refine o_pickT (b := decide ((byt (b) (0)) = (48))) (AV.lit (.bool (ng))) (Gd.yes rfl rfl (decide_eq_false h5)) rfl (decide_eq_true h6) rfl ?_
            refine o_pickF (b := decide ((2000) < ((b).size))) (AV.lit (.bool (ng))) Gd.none rfl (decide_eq_false h5) rfl ?_
            refine aops_end ?_
            refine hK6 _ ?_
            refine awp_condB (b := ng) rfl (fun h8 => ?_) (fun h8 => ?_)
            · refine awp_seq fun K10 hK10 => ?_
              refine awp_region rfl ?_
              refine o_assign (AV.lit (.bool false)) Gd.none rfl ?_
              refine aops_end ?_
              refine hK10 _ ?_
              refine awp_ret ?_
              refine post_ret ⟨[(AV.lit (.bool false))], And.intro (AV.le_refl _) (trivial), rfl, ?_⟩
              refine bl_eq (okS_no fun h => ?_)
              obtain ⟨o1, o2, o3, o4⟩ := h
              first | omega | (have := str_nil.1 (by assumption); omega) | (have e := hb 0 (by omega); rw [Nat.add_zero] at e; omega) | (have e := hb 0 (by omega); have := hng1 (by assumption); rw [Nat.add_zero] at e; omega) | (have e := o4 (sgnAt a + pos) (by omega) (by omega); rw [← hb pos (by omega)] at e; have e2 := utf8_lo (a := b) (pos := pos) (by omega) (by omega); simp only [e2] at *; omega)
            · refine awp_skip ?_
              refine hK5 _ ?_
              refine awp_seq fun K11 hK11 => ?_
              refine awp_seq fun K12 hK12 => ?_
              refine awp_region rfl ?_
              refine o_move (AV.lit (.string (b))) Gd.none rfl ?_
              refine o_iterNew 201 Gd.none Wh_tT9 rfl rfl ?_
              refine aops_end ?_
              refine hK12 _ ?_
              refine awp_block ?_
              refine awp_loopR (fun κ σ => ∃ (pos : Nat), (pos ≤ b.size) ∧ (∀ k, k < pos → 48 ≤ byt b k ∧ byt b k ≤ 57) ∧ (b.size - pos) = κ ∧ σ = ⟨[(40, (AV.ref 201 (0)))], [(201, (AO.blk (.stringIter (b) (pos))))]⟩) ⟨_, _, ⟨0, (by omega), (fun k hk => by omega), rfl, rfl⟩, ?wk2⟩ ?rd2
              case wk2 =>
                exact Wk.sub (And.intro (by exact rfl) (trivial)) (And.intro (by first | rfl | exact row_ns (by simp) | exact congrArg (fun x => some (AO.blk (.stringIter _ x))) (by omega)) (trivial))
              rintro κ _ ⟨pos, hp, hv, rfl, rfl⟩
              refine awp_seq fun K13 hK13 => ?_
              refine awp_region rfl ?_
              refine aops_em (pos < (b).size) (fun h9 => ?_) (fun h9 => ?_)
              · refine o_iterNext (((Utf8.decode (b) (pos)).1 : Int)) (pos + (Utf8.decode (b) (pos)).2) [(201, (AO.blk (.stringIter (b) (pos + (Utf8.decode (b) (pos)).2))))] Gd.none rfl rfl h9 rfl rfl rfl ?_
                refine o_extract (AV.lit (.bool true)) Gd.none rfl rfl ?_
                refine aops_end ?_
                refine hK13 _ ?_
                refine awp_seq fun K14 hK14 => ?_
                refine awp_condB (b := true) rfl (fun _ => ?_) (fun hh => absurd (hh.symm.trans rfl) (by decide))
                refine awp_skip ?_
                refine hK14 _ ?_
                refine awp_block ?_
                refine awp_seq fun K15 hK15 => ?_
                refine awp_region rfl ?_
                refine o_extract (AV.lit (.int .i32 (((Utf8.decode (b) (pos)).1 : Int)))) Gd.none rfl rfl ?_
                refine o_assign (AV.lit (.int .i32 (((Utf8.decode (b) (pos)).1 : Int)))) Gd.none rfl ?_
                refine aops_end ?_
                refine hK15 _ ?_
                refine awp_seq fun K16 hK16 => ?_
                refine awp_region rfl ?_
                refine o_move (AV.lit (.int .i32 (((Utf8.decode (b) (pos)).1 : Int)))) Gd.none rfl ?_
                refine o_lss (a := (((Utf8.decode (b) (pos)).1 : Int))) (c := (((48 : Nat) : Int))) Gd.none rfl rfl ?_
                refine o_move (bp ((((Utf8.decode (b) (pos)).1 : Int)) < (((48 : Nat) : Int)))) Gd.none rfl ?_
                refine o_splitP (q := (((Utf8.decode (b) (pos)).1 : Int)) < (((48 : Nat) : Int))) 46 rfl (fun h10 => ?_) (fun h10 => ?_)
                · refine o_skip (b := decide ((((Utf8.decode (b) (pos)).1 : Int)) < (((48 : Nat) : Int)))) rfl rfl (decide_eq_true h10) ?_
                  refine o_skip (b := decide ((((Utf8.decode (b) (pos)).1 : Int)) < (((48 : Nat) : Int)))) rfl rfl (decide_eq_true h10) ?_
                  refine o_pickT (b := decide ((((Utf8.decode (b) (pos)).1 : Int)) < (((48 : Nat) : Int)))) (AV.lit (.bool true)) Gd.none rfl (decide_eq_true h10) rfl ?_
                  refine aops_end ?_
                  refine hK16 _ ?_
                  refine awp_condB (b := true) rfl (fun _ => ?_) (fun hh => absurd (hh.symm.trans rfl) (by decide))
                  refine awp_seq fun K17 hK17 => ?_
                  refine awp_region rfl ?_
                  refine o_assign (AV.lit (.bool false)) Gd.none rfl ?_
                  refine aops_end ?_
                  refine hK17 _ ?_
                  refine awp_ret ?_
                  refine post_ret ⟨[(AV.lit (.bool false))], And.intro (AV.le_refl _) (trivial), rfl, ?_⟩
                  refine bl_eq (okS_no fun h => ?_)
                  obtain ⟨o1, o2, o3, o4⟩ := h
                  first | omega | (have := str_nil.1 (by assumption); omega) | (have e := hb 0 (by omega); rw [Nat.add_zero] at e; omega) | (have e := hb 0 (by omega); have := hng1 (by assumption); rw [Nat.add_zero] at e; omega) | (have e := o4 (sgnAt a + pos) (by omega) (by omega); rw [← hb pos (by omega)] at e; have e2 := utf8_lo (a := b) (pos := pos) (by omega) (by omega); simp only [e2] at *; omega)
                · refine o_move (AV.lit (.int .i32 (((Utf8.decode (b) (pos)).1 : Int)))) (Gd.yes rfl rfl (decide_eq_false h10)) rfl ?_
                  refine o_gtr (a := (((Utf8.decode (b) (pos)).1 : Int))) (c := (((57 : Nat) : Int))) (Gd.yes rfl rfl (decide_eq_false h10)) rfl rfl ?_
                  refine o_pickF (b := decide ((((Utf8.decode (b) (pos)).1 : Int)) < (((48 : Nat) : Int)))) (bp ((((57 : Nat) : Int)) < (((Utf8.decode (b) (pos)).1 : Int)))) Gd.none rfl (decide_eq_false h10) rfl ?_
                  refine aops_end ?_
                  refine hK16 _ ?_
                  refine awp_condQ (q := (((57 : Nat) : Int)) < (((Utf8.decode (b) (pos)).1 : Int))) rfl (fun h11 => ?_) (fun h11 => ?_)
                  · refine awp_seq fun K18 hK18 => ?_
                    refine awp_region rfl ?_
                    refine o_assign (AV.lit (.bool false)) Gd.none rfl ?_
                    refine aops_end ?_
                    refine hK18 _ ?_
                    refine awp_ret ?_
                    refine post_ret ⟨[(AV.lit (.bool false))], And.intro (AV.le_refl _) (trivial), rfl, ?_⟩
                    refine bl_eq (okS_no fun h => ?_)
                    obtain ⟨o1, o2, o3, o4⟩ := h
                    first | omega | (have := str_nil.1 (by assumption); omega) | (have e := hb 0 (by omega); rw [Nat.add_zero] at e; omega) | (have e := hb 0 (by omega); have := hng1 (by assumption); rw [Nat.add_zero] at e; omega) | (have e := o4 (sgnAt a + pos) (by omega) (by omega); rw [← hb pos (by omega)] at e; have e2 := utf8_lo (a := b) (pos := pos) (by omega) (by omega); simp only [e2] at *; omega)
                  · refine awp_skip ?_
                    have hu := utf8_dig (a := b) (pos := pos) (by assumption) (by omega)
                    simp only [hu] at *
                    refine ⟨_, _, ?lt, ⟨pos + 1, (by omega), (fun k hk => by by_cases e : k = pos; subst e; omega; exact hv k (by omega)), rfl, rfl⟩, ?wk⟩
                    case lt => omega
                    case wk => exact Wk.sub (And.intro (by exact rfl) (trivial)) (And.intro (by first | rfl | exact row_ns (by simp) | exact congrArg (fun x => some (AO.blk (.stringIter _ x))) (by omega)) (trivial))
              · refine o_iterEnd Gd.none rfl rfl h9 ?_
                refine o_extract (AV.lit (.bool false)) Gd.none rfl rfl ?_
                refine aops_end ?_
                refine hK13 _ ?_
                refine awp_seq fun K19 hK19 => ?_
                refine awp_condB (b := false) rfl (fun hh => absurd (hh.symm.trans rfl) (by decide)) (fun _ => ?_)
                refine awp_exit ?_
                refine hK11 _ ?_
                refine awp_seq fun K20 hK20 => ?_
                refine awp_region rfl ?_
                refine o_assign (AV.lit (.bool true)) Gd.none rfl ?_
                refine aops_end ?_
                refine hK20 _ ?_
                refine awp_ret ?_
                refine post_ret ⟨[(AV.lit (.bool true))], And.intro (AV.le_refl _) (trivial), rfl, ?_⟩
                have e0 := hb 0 (by omega)
                rw [Nat.add_zero] at e0
                refine bl_eq (okS_yes ⟨by omega, by omega, fun hh => ?_, fun i hi1 hi2 => ?_⟩)
                · first | omega | (have := hng0 (by assumption); omega)
                · have := hv (i - sgnAt a) (by omega)
                  rw [hb _ (by omega), show sgnAt a + (i - sgnAt a) = i by omega] at this
                  exact this
        · refine o_skip (b := decide ((byt (b) (0)) = (48))) rfl rfl (decide_eq_false h6) ?_
          refine o_skip (b := decide ((byt (b) (0)) = (48))) rfl rfl (decide_eq_false h6) ?_
          refine o_skip (b := decide ((byt (b) (0)) = (48))) rfl rfl (decide_eq_false h6) ?_
          refine o_skip (b := decide ((byt (b) (0)) = (48))) rfl rfl (decide_eq_false h6) ?_
          refine o_skipU rfl rfl ?_
          refine o_skip (b := decide ((byt (b) (0)) = (48))) rfl rfl (decide_eq_false h6) ?_
          refine o_pickF (b := decide ((byt (b) (0)) = (48))) (AV.lit (.bool false)) (Gd.yes rfl rfl (decide_eq_false h5)) rfl (decide_eq_false h6) rfl ?_
          refine o_pickF (b := decide ((2000) < ((b).size))) (AV.lit (.bool false)) Gd.none rfl (decide_eq_false h5) rfl ?_
          refine aops_end ?_
          refine hK6 _ ?_
          refine awp_condB (b := false) rfl (fun hh => absurd (hh.symm.trans rfl) (by decide)) (fun _ => ?_)
          refine awp_skip ?_
          refine hK5 _ ?_
          refine awp_seq fun K21 hK21 => ?_
          refine awp_seq fun K22 hK22 => ?_
          refine awp_region rfl ?_
          refine o_move (AV.lit (.string (b))) Gd.none rfl ?_
          refine o_iterNew 201 Gd.none Wh_tT9 rfl rfl ?_
          refine aops_end ?_
          refine hK22 _ ?_
          refine awp_block ?_
          refine awp_loopR (fun κ σ => ∃ (pos : Nat), (pos ≤ b.size) ∧ (∀ k, k < pos → 48 ≤ byt b k ∧ byt b k ≤ 57) ∧ (b.size - pos) = κ ∧ σ = ⟨[(40, (AV.ref 201 (0)))], [(201, (AO.blk (.stringIter (b) (pos))))]⟩) ⟨_, _, ⟨0, (by omega), (fun k hk => by omega), rfl, rfl⟩, ?wk3⟩ ?rd3
          case wk3 =>
            exact Wk.sub (And.intro (by exact rfl) (trivial)) (And.intro (by first | rfl | exact row_ns (by simp) | exact congrArg (fun x => some (AO.blk (.stringIter _ x))) (by omega)) (trivial))
          rintro κ _ ⟨pos, hp, hv, rfl, rfl⟩
          refine awp_seq fun K23 hK23 => ?_
          refine awp_region rfl ?_
          refine aops_em (pos < (b).size) (fun h12 => ?_) (fun h12 => ?_)
          · refine o_iterNext (((Utf8.decode (b) (pos)).1 : Int)) (pos + (Utf8.decode (b) (pos)).2) [(201, (AO.blk (.stringIter (b) (pos + (Utf8.decode (b) (pos)).2))))] Gd.none rfl rfl h12 rfl rfl rfl ?_
            refine o_extract (AV.lit (.bool true)) Gd.none rfl rfl ?_
            refine aops_end ?_
            refine hK23 _ ?_
            refine awp_seq fun K24 hK24 => ?_
            refine awp_condB (b := true) rfl (fun _ => ?_) (fun hh => absurd (hh.symm.trans rfl) (by decide))
            refine awp_skip ?_
            refine hK24 _ ?_
            refine awp_block ?_
            refine awp_seq fun K25 hK25 => ?_
            refine awp_region rfl ?_
            refine o_extract (AV.lit (.int .i32 (((Utf8.decode (b) (pos)).1 : Int)))) Gd.none rfl rfl ?_
            refine o_assign (AV.lit (.int .i32 (((Utf8.decode (b) (pos)).1 : Int)))) Gd.none rfl ?_
            refine aops_end ?_
            refine hK25 _ ?_
            refine awp_seq fun K26 hK26 => ?_
            refine awp_region rfl ?_
            refine o_move (AV.lit (.int .i32 (((Utf8.decode (b) (pos)).1 : Int)))) Gd.none rfl ?_
            refine o_lss (a := (((Utf8.decode (b) (pos)).1 : Int))) (c := (((48 : Nat) : Int))) Gd.none rfl rfl ?_
            refine o_move (bp ((((Utf8.decode (b) (pos)).1 : Int)) < (((48 : Nat) : Int)))) Gd.none rfl ?_
            refine o_splitP (q := (((Utf8.decode (b) (pos)).1 : Int)) < (((48 : Nat) : Int))) 46 rfl (fun h13 => ?_) (fun h13 => ?_)
            · refine o_skip (b := decide ((((Utf8.decode (b) (pos)).1 : Int)) < (((48 : Nat) : Int)))) rfl rfl (decide_eq_true h13) ?_
              refine o_skip (b := decide ((((Utf8.decode (b) (pos)).1 : Int)) < (((48 : Nat) : Int)))) rfl rfl (decide_eq_true h13) ?_
              refine o_pickT (b := decide ((((Utf8.decode (b) (pos)).1 : Int)) < (((48 : Nat) : Int)))) (AV.lit (.bool true)) Gd.none rfl (decide_eq_true h13) rfl ?_
              refine aops_end ?_
              refine hK26 _ ?_
              refine awp_condB (b := true) rfl (fun _ => ?_) (fun hh => absurd (hh.symm.trans rfl) (by decide))
              refine awp_seq fun K27 hK27 => ?_
              refine awp_region rfl ?_
              refine o_assign (AV.lit (.bool false)) Gd.none rfl ?_
              refine aops_end ?_
              refine hK27 _ ?_
              refine awp_ret ?_
              refine post_ret ⟨[(AV.lit (.bool false))], And.intro (AV.le_refl _) (trivial), rfl, ?_⟩
              refine bl_eq (okS_no fun h => ?_)
              obtain ⟨o1, o2, o3, o4⟩ := h
              first | omega | (have := str_nil.1 (by assumption); omega) | (have e := hb 0 (by omega); rw [Nat.add_zero] at e; omega) | (have e := hb 0 (by omega); have := hng1 (by assumption); rw [Nat.add_zero] at e; omega) | (have e := o4 (sgnAt a + pos) (by omega) (by omega); rw [← hb pos (by omega)] at e; have e2 := utf8_lo (a := b) (pos := pos) (by omega) (by omega); simp only [e2] at *; omega)
            · refine o_move (AV.lit (.int .i32 (((Utf8.decode (b) (pos)).1 : Int)))) (Gd.yes rfl rfl (decide_eq_false h13)) rfl ?_
              refine o_gtr (a := (((Utf8.decode (b) (pos)).1 : Int))) (c := (((57 : Nat) : Int))) (Gd.yes rfl rfl (decide_eq_false h13)) rfl rfl ?_
              refine o_pickF (b := decide ((((Utf8.decode (b) (pos)).1 : Int)) < (((48 : Nat) : Int)))) (bp ((((57 : Nat) : Int)) < (((Utf8.decode (b) (pos)).1 : Int)))) Gd.none rfl (decide_eq_false h13) rfl ?_
              refine aops_end ?_
              refine hK26 _ ?_
              refine awp_condQ (q := (((57 : Nat) : Int)) < (((Utf8.decode (b) (pos)).1 : Int))) rfl (fun h14 => ?_) (fun h14 => ?_)
              · refine awp_seq fun K28 hK28 => ?_
                refine awp_region rfl ?_
                refine o_assign (AV.lit (.bool false)) Gd.none rfl ?_
                refine aops_end ?_
                refine hK28 _ ?_
                refine awp_ret ?_
                refine post_ret ⟨[(AV.lit (.bool false))], And.intro (AV.le_refl _) (trivial), rfl, ?_⟩
                refine bl_eq (okS_no fun h => ?_)
                obtain ⟨o1, o2, o3, o4⟩ := h
                first | omega | (have := str_nil.1 (by assumption); omega) | (have e := hb 0 (by omega); rw [Nat.add_zero] at e; omega) | (have e := hb 0 (by omega); have := hng1 (by assumption); rw [Nat.add_zero] at e; omega) | (have e := o4 (sgnAt a + pos) (by omega) (by omega); rw [← hb pos (by omega)] at e; have e2 := utf8_lo (a := b) (pos := pos) (by omega) (by omega); simp only [e2] at *; omega)
              · refine awp_skip ?_
                have hu := utf8_dig (a := b) (pos := pos) (by assumption) (by omega)
                simp only [hu] at *
                refine ⟨_, _, ?lt, ⟨pos + 1, (by omega), (fun k hk => by by_cases e : k = pos; subst e; omega; exact hv k (by omega)), rfl, rfl⟩, ?wk⟩
                case lt => omega
                case wk => exact Wk.sub (And.intro (by exact rfl) (trivial)) (And.intro (by first | rfl | exact row_ns (by simp) | exact congrArg (fun x => some (AO.blk (.stringIter _ x))) (by omega)) (trivial))
          · refine o_iterEnd Gd.none rfl rfl h12 ?_
            refine o_extract (AV.lit (.bool false)) Gd.none rfl rfl ?_
            refine aops_end ?_
            refine hK23 _ ?_
            refine awp_seq fun K29 hK29 => ?_
            refine awp_condB (b := false) rfl (fun hh => absurd (hh.symm.trans rfl) (by decide)) (fun _ => ?_)
            refine awp_exit ?_
            refine hK21 _ ?_
            refine awp_seq fun K30 hK30 => ?_
            refine awp_region rfl ?_
            refine o_assign (AV.lit (.bool true)) Gd.none rfl ?_
            refine aops_end ?_
            refine hK30 _ ?_
            refine awp_ret ?_
            refine post_ret ⟨[(AV.lit (.bool true))], And.intro (AV.le_refl _) (trivial), rfl, ?_⟩
            have e0 := hb 0 (by omega)
            rw [Nat.add_zero] at e0
            refine bl_eq (okS_yes ⟨by omega, by omega, fun hh => ?_, fun i hi1 hi2 => ?_⟩)
            · first | omega | (have := hng0 (by assumption); omega)
            · have := hv (i - sgnAt a) (by omega)
              rw [hb _ (by omega), show sgnAt a + (i - sgnAt a) = i by omega] at this
              exact this

end Go.Proofs.YtkngglpnejdicaaDoor
