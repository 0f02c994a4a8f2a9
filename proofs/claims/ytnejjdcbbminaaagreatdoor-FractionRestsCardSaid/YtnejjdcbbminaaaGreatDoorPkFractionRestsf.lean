/- The law 'katabasislaw10.FractionRests' is true for every list of fractions and two strings: numbers with the same rest modulo Common of a list have the same First. Its condition: none but the row's own (the listed tables of the library). -/
import Derived.Test.YtnejjdcbbminaaaGreatDoorPkFractionRestse
set_option linter.unusedVariables false
set_option linter.unusedSimpArgs false
namespace Go.Proofs.YtnejjdcbbminaaaGreatDoor
open Go Go.Ab Go.Mth
theorem Yl_tC20 : callable cx.P 20 = true := by kernel_rfl
theorem Yl_tC16 : callable cx.P 16 = true := by kernel_rfl
theorem Yl_tC21 : callable cx.P 21 = true := by kernel_rfl
theorem Yl_tC28 : callable cx.P 28 = true := by kernel_rfl
theorem Yl_tC22 : callable cx.P 22 = true := by kernel_rfl
theorem Yl_tC33 : callable cx.P 33 = true := by kernel_rfl
theorem Yl_tC31 : callable cx.P 31 = true := by kernel_rfl
theorem Yl_tC30 : callable cx.P 30 = true := by kernel_rfl
theorem Yl_tC34 : callable cx.P 34 = true := by kernel_rfl
theorem Yl_tO39 : tyZero cx.P 39 = some [(Go.Value.bool false), (Go.Value.slice none 0 0)] := by kernel_rfl
theorem Yl_tZ39 : tySize cx.P 39 = some 2 := by kernel_rfl
theorem Yl_tA39 : tyAgg cx.P 39 = some 2 := by kernel_rfl
theorem Yl_tC35 : callable cx.P 35 = true := by kernel_rfl
theorem Yl_tC25 : callable cx.P 25 = true := by kernel_rfl
theorem Yl_tC27 : callable cx.P 27 = true := by kernel_rfl
theorem c_FractionRests (l : List Frc) (n b : ByteArray) (hb : l.length ≤ 4398046511104) (hS : ∀ f ∈ l, f.num.size ≤ 9223372036854775807 ∧ f.den.size ≤ 9223372036854775807) (hn : n.size ≤ 9223372036854775807) (hbs : b.size ≤ 9223372036854775807) : ECalls cx 7 [(AV.sl 2 (gcells cF (l))), (AV.lit (.string (n))), (AV.lit (.string (b)))] (.lit (.bool true)) := by
  refine ecalls_of_awp Tryz.func7 (c := _) rfl (Nat.le_of_ble_eq_true rfl) ?_
  show awp cx 96 _ (postF cx Tryz.f7 _) ⟨[(0, (AV.sl 2 (gcells cF (l)))), (1, (AV.lit (.string (n)))), (2, (AV.lit (.string (b))))], []⟩
  refine awp_seq fun K0 hK0 => ?_
  refine awp_region rfl ?_
  refine o_as (AV.lit (.bool false)) rfl ?_
  refine aops_end ?_
  refine hK0 _ ?_
  refine awp_seq fun K1 hK1 => ?_
  refine awp_seq fun K2 hK2 => ?_
  refine awp_region rfl ?_
  refine o_mv (AV.sl 2 (gcells cF (l))) rfl ?_
  refine o_ct (c_light (l)) Gd.none Yl_tC20 rfl ?_
  refine o_notP (q := lightP (l)) Gd.none rfl ?_
  refine o_mv (bp (¬ (lightP (l)))) rfl ?_
  refine o_splitP (q := ¬ (lightP (l))) 17 rfl (fun h1 => ?_) (fun h1 => ?_)
  · refine o_skip rfl rfl (decide_eq_true h1) ?_
    refine o_skip rfl rfl (decide_eq_true h1) ?_
    refine o_skip rfl rfl (decide_eq_true h1) ?_
    refine o_skip rfl rfl (decide_eq_true h1) ?_
    refine o_pickT (AV.lit (.bool true)) Gd.none rfl (decide_eq_true h1) rfl ?_
    refine o_mv (AV.lit (.bool true)) rfl ?_
    refine o_skip rfl rfl rfl ?_
    refine o_skip rfl rfl rfl ?_
    refine o_skip rfl rfl rfl ?_
    refine o_pickT (AV.lit (.bool true)) Gd.none rfl rfl rfl ?_
    refine o_mv (AV.lit (.bool true)) rfl ?_
    refine o_skip rfl rfl rfl ?_
    refine o_skip rfl rfl rfl ?_
    refine o_skip rfl rfl rfl ?_
    refine o_skip rfl rfl rfl ?_
    refine o_pickT (AV.lit (.bool true)) Gd.none rfl rfl rfl ?_
    refine aops_end ?_
    refine hK2 _ ?_
    refine awp_condB (b := true) rfl (fun _ => ?_) (fun hh => absurd (hh.symm.trans rfl) (by decide))
    refine awp_seq fun K3 hK3 => ?_
    refine awp_region rfl ?_
    refine o_ct c_awake10 Gd.none Yl_tC16 rfl ?_
    refine o_as (AV.lit (.bool true)) rfl ?_
    refine aops_end ?_
    refine hK3 _ ?_
    refine awp_ret ?_
    refine post_ret ⟨[(AV.lit (.bool true))], And.intro (AV.le_refl _) (trivial), rfl, ?_⟩
    first | rfl | simp [bp]
  · refine o_move (AV.sl 2 (gcells cF (l))) (Gd.yes rfl rfl (decide_eq_false h1)) rfl ?_
    refine o_move (AV.lit (.string (n))) (Gd.yes rfl rfl (decide_eq_false h1)) rfl ?_
    refine o_ct (c_formed (l) (n) (by assumption) (by first | assumption | decide | omega)) (Gd.yes rfl rfl (decide_eq_false h1)) Yl_tC21 rfl ?_
    refine n_neq (askE (l) (n)) (0) (Gd.yes rfl rfl (decide_eq_false h1)) rfl rfl ?_
    refine o_pickF (bp ((askE (l) (n)) ≠ (0))) Gd.none rfl (decide_eq_false h1) rfl ?_
    refine o_mv (bp ((askE (l) (n)) ≠ (0))) rfl ?_
    refine o_splitP (q := (askE (l) (n)) ≠ (0)) 23 rfl (fun h2 => ?_) (fun h2 => ?_)
    · refine o_skip rfl rfl (decide_eq_true h2) ?_
      refine o_skip rfl rfl (decide_eq_true h2) ?_
      refine o_skip rfl rfl (decide_eq_true h2) ?_
      refine o_pickT (AV.lit (.bool true)) Gd.none rfl (decide_eq_true h2) rfl ?_
      refine o_mv (AV.lit (.bool true)) rfl ?_
      refine o_skip rfl rfl rfl ?_
      refine o_skip rfl rfl rfl ?_
      refine o_skip rfl rfl rfl ?_
      refine o_skip rfl rfl rfl ?_
      refine o_pickT (AV.lit (.bool true)) Gd.none rfl rfl rfl ?_
      refine aops_end ?_
      refine hK2 _ ?_
      refine awp_condB (b := true) rfl (fun _ => ?_) (fun hh => absurd (hh.symm.trans rfl) (by decide))
      refine awp_seq fun K4 hK4 => ?_
      refine awp_region rfl ?_
      refine o_ct c_awake10 Gd.none Yl_tC16 rfl ?_
      refine o_as (AV.lit (.bool true)) rfl ?_
      refine aops_end ?_
      refine hK4 _ ?_
      refine awp_ret ?_
      refine post_ret ⟨[(AV.lit (.bool true))], And.intro (AV.le_refl _) (trivial), rfl, ?_⟩
      first | rfl | simp [bp]
    · refine o_move (AV.lit (.string (b))) (Gd.yes rfl rfl (decide_eq_false h2)) rfl ?_
      refine o_ct (c_rValid (b) (by first | assumption | decide | omega)) (Gd.yes rfl rfl (decide_eq_false h2)) Yl_tC28 rfl ?_
      refine o_not (b := okS (b)) (Gd.yes rfl rfl (decide_eq_false h2)) rfl ?_
      refine o_pickF (AV.lit (.bool (!(okS (b))))) Gd.none rfl (decide_eq_false h2) rfl ?_
      refine o_mv (AV.lit (.bool (!(okS (b))))) rfl ?_
      refine o_split (b := !(okS (b))) 28 rfl (fun h3 => ?_) (fun h3 => ?_)
      · refine o_skip rfl rfl h3 ?_
        refine o_skip rfl rfl h3 ?_
        refine o_skip rfl rfl h3 ?_
        refine o_skip rfl rfl h3 ?_
        refine o_pickT (AV.lit (.bool true)) Gd.none rfl h3 rfl ?_
        refine aops_end ?_
        refine hK2 _ ?_
        refine awp_condB (b := true) rfl (fun _ => ?_) (fun hh => absurd (hh.symm.trans rfl) (by decide))
        refine awp_seq fun K5 hK5 => ?_
        refine awp_region rfl ?_
        refine o_ct c_awake10 Gd.none Yl_tC16 rfl ?_
        refine o_as (AV.lit (.bool true)) rfl ?_
        refine aops_end ?_
        refine hK5 _ ?_
        refine awp_ret ?_
        refine post_ret ⟨[(AV.lit (.bool true))], And.intro (AV.le_refl _) (trivial), rfl, ?_⟩
        first | rfl | simp [bp]
      · have hb2 : okS b = true := by simpa using h3
        refine o_move (AV.lit (.string (b))) (Gd.yes rfl rfl h3) rfl ?_
        refine o_ct (c_rParse (b) (by first | assumption | exact okS_iff.1 (by assumption))) (Gd.yes rfl rfl h3) Yl_tC22 rfl ?_
        refine o_ct (c_rSign ((numS (b)))) (Gd.yes rfl rfl h3) Yl_tC33 rfl ?_
        refine o_lss (a := (sgn ((numS (b))))) (c := (((0 : Nat) : Int))) (Gd.yes rfl rfl h3) rfl rfl ?_
        refine o_pickF (bp ((sgn ((numS (b)))) < (((0 : Nat) : Int)))) Gd.none rfl h3 rfl ?_
        refine aops_end ?_
        refine hK2 _ ?_
        refine awp_condQ (q := (sgn ((numS (b)))) < (((0 : Nat) : Int))) rfl (fun h4 => ?_) (fun h4 => ?_)
        · refine awp_seq fun K6 hK6 => ?_
          refine awp_region rfl ?_
          refine o_ct c_awake10 Gd.none Yl_tC16 rfl ?_
          refine o_as (AV.lit (.bool true)) rfl ?_
          refine aops_end ?_
          refine hK6 _ ?_
          refine awp_ret ?_
          refine post_ret ⟨[(AV.lit (.bool true))], And.intro (AV.le_refl _) (trivial), rfl, ?_⟩
          first | rfl | simp [bp]
        · have hb0 : 0 ≤ numS b := (by have := (not_congr sgn_neg).1 h4; omega)
          refine awp_skip ?_
          refine hK1 _ ?_
          refine awp_seq fun K7 hK7 => ?_
          have hA0 : askE l n = 0 := Decidable.not_not.1 (by assumption)
          have hA := askE_0.1 hA0
          have hA1 := hA.1
          have hA2 := hA.2.1
          have sC : (comA l).1.size ≤ 9223372036854775807 := (by by_cases e : (comA l).2 = 0; rw [(comA_yes hA1 e).1]; exact txt_sz2 (comA_yes hA1 e).2.1; rw [show (comA l).1 = { data := #[] } from (by rw [comA_R hA1]; have : ¬ Fit (comR l 1) := (fun hF => e (by rw [comA_R hA1, if_pos hF])); rw [if_neg this])]; decide)
          refine awp_region rfl ?_
          refine o_mv (AV.sl 2 (gcells cF (l))) rfl ?_
          refine o_ct (c_Common (l) (by assumption)) Gd.none Yl_tC31 rfl ?_
          refine o_mv (AV.tup [(AV.lit (.string ((comA (l)).1))), (nm .i64 ((comA (l)).2))]) rfl ?_
          refine o_extract (AV.lit (.string ((comA (l)).1))) Gd.none rfl rfl ?_
          refine o_extract (nm .i64 ((comA (l)).2)) Gd.none rfl rfl ?_
          refine o_as (AV.lit (.string ((comA (l)).1))) rfl ?_
          refine o_as (nm .i64 ((comA (l)).2)) rfl ?_
          refine aops_end ?_
          refine hK7 _ ?_
          refine awp_seq fun K8 hK8 => ?_
          refine awp_seq fun K9 hK9 => ?_
          refine awp_region rfl ?_
          refine o_mv (nm .i64 ((comA (l)).2)) rfl ?_
          refine n_neq ((comA (l)).2) (0) Gd.none rfl rfl ?_
          refine o_mv (bp (((comA (l)).2) ≠ (0))) rfl ?_
          refine o_splitP (q := ((comA (l)).2) ≠ (0)) 42 rfl (fun h5 => ?_) (fun h5 => ?_)
          · refine o_skip rfl rfl (decide_eq_true h5) ?_
            refine o_skip rfl rfl (decide_eq_true h5) ?_
            refine o_skip rfl rfl (decide_eq_true h5) ?_
            refine o_pickT (AV.lit (.bool true)) Gd.none rfl (decide_eq_true h5) rfl ?_
            refine aops_end ?_
            refine hK9 _ ?_
            refine awp_condB (b := true) rfl (fun _ => ?_) (fun hh => absurd (hh.symm.trans rfl) (by decide))
            refine awp_seq fun K10 hK10 => ?_
            have q1 := comA_no hA1 (by assumption)
            refine awp_region rfl ?_
            refine o_mv (nm .i64 ((comA (l)).2)) rfl ?_
            refine n_eql ((comA (l)).2) (3) Gd.none rfl rfl ?_
            refine n_as (v' := (AV.lit (.bool true))) (by exact bpy q1) ?_
            refine o_mv (AV.lit (.bool true)) rfl ?_
            refine o_ct c_awake10 (Gd.yes rfl rfl rfl) Yl_tC16 rfl ?_
            refine o_pickT (AV.lit (.bool true)) Gd.none rfl rfl rfl ?_
            refine o_as (AV.lit (.bool true)) rfl ?_
            refine aops_end ?_
            refine hK10 _ ?_
            refine awp_ret ?_
            refine post_ret ⟨[(AV.lit (.bool true))], And.intro (AV.le_refl _) (trivial), rfl, ?_⟩
            first | rfl | simp [bp]
          · have hy := comA_yes hA1 (Decidable.not_not.1 h5)
            have oC := okS_iff.2 (okS_txt hy.2.1)
            have sC1 := txt_sz2 hy.2.1
            have f1 := fit_len (fit_numS (okS_iff.1 hA2))
            have f2 := fit_len (fit_numS (okS_iff.1 hb2))
            have f3 := fit_len hy.2.1
            have f4 := len_mulZ (comR l 1) (numS b)
            have f5 := len_addZ (numS n) ((comR l 1) * numS b)
            refine o_move (AV.lit (.string ((comA (l)).1))) (Gd.yes rfl rfl (decide_eq_false h5)) rfl ?_
            refine n_as (v' := (AV.lit (.string (txt (comR l 1))))) (by exact str_as2 hy.1) ?_
            refine o_ct (c_rValid (txt (comR l 1)) (by first | assumption | decide | omega)) (Gd.yes rfl rfl (decide_eq_false h5)) Yl_tC28 rfl ?_
            refine n_as (v' := (AV.lit (.bool true))) (by rw [oC]) ?_
            refine o_not (b := true) (Gd.yes rfl rfl (decide_eq_false h5)) rfl ?_
            refine o_pickF (AV.lit (.bool false)) Gd.none rfl (decide_eq_false h5) rfl ?_
            refine aops_end ?_
            refine hK9 _ ?_
            refine awp_condB (b := false) rfl (fun hh => absurd (hh.symm.trans rfl) (by decide)) (fun _ => ?_)
            refine awp_skip ?_
            refine hK8 _ ?_
            refine awp_seq fun K11 hK11 => ?_
            refine awp_region rfl ?_
            refine o_mv (AV.lit (.string (n))) rfl ?_
            refine o_ct (c_rParse (n) (by first | assumption | exact okS_iff.1 (by assumption))) Gd.none Yl_tC22 rfl ?_
            refine o_mv (AV.lit (.string ((comA (l)).1))) rfl ?_
            refine n_as (v' := (AV.lit (.string (txt (comR l 1))))) (by exact str_as2 hy.1) ?_
            refine o_ct (c_rParse (txt (comR l 1)) (by first | assumption | exact okS_iff.1 (by assumption))) Gd.none Yl_tC22 rfl ?_
            refine n_as (v' := (intR ((comR l 1)))) (by exact congrArg intR (numS_txt _)) ?_
            refine o_mv (AV.lit (.string (b))) rfl ?_
            refine o_ct (c_rParse (b) (by first | assumption | exact okS_iff.1 (by assumption))) Gd.none Yl_tC22 rfl ?_
            refine o_ct (c_rMul ((comR l 1)) ((numS (b))) (by first | omega | assumption | (simp only [Int.natAbs_neg]; omega)) (by first | omega | assumption | (simp only [Int.natAbs_neg]; omega))) Gd.none Yl_tC30 rfl ?_
            refine o_ct (c_rAdd ((numS (n))) (((comR l 1) * (numS (b)))) (by first | omega | assumption | (simp only [Int.natAbs_neg]; omega)) (by first | omega | assumption | (simp only [Int.natAbs_neg]; omega))) Gd.none Yl_tC34 rfl ?_
            refine o_alloc 2 [(AV.lit (.bool false)), (AV.lit (.slice none 0 0))] Gd.none Yl_tO39 rfl rfl rfl ?_
            refine o_store [(2, (oZ 39 .i64 (((numS (n)) + ((comR l 1) * (numS (b)))))))] Gd.none Yl_tZ39 rfl rfl rfl rfl rfl rfl ?_
            refine aops_end ?_
            refine hK11 _ ?_
            refine awp_seq fun K12 hK12 => ?_
            refine awp_seq fun K13 hK13 => ?_
            refine awp_region rfl ?_
            refine o_loadA [(bp (((numS (n)) + ((comR l 1) * (numS (b)))) < 0)), (AV.sl 1 (ns .i64 (digs (((numS (n)) + ((comR l 1) * (numS (b))))).natAbs)))] Gd.none Yl_tA39 rfl rfl rfl rfl rfl ?_
            refine o_ct (c_rFits (((numS (n)) + ((comR l 1) * (numS (b))))) (by first | omega | assumption | (simp only [Int.natAbs_neg]; omega))) Gd.none Yl_tC35 rfl ?_
            refine o_notP (q := Fit (((numS (n)) + ((comR l 1) * (numS (b)))))) Gd.none rfl ?_
            refine aops_end ?_
            refine hK13 _ ?_
            refine awp_condQ (q := ¬ (Fit (((numS (n)) + ((comR l 1) * (numS (b))))))) rfl (fun h6 => ?_) (fun h6 => ?_)
            · refine awp_seq fun K14 hK14 => ?_
              refine awp_region rfl ?_
              refine o_ct c_awake10 Gd.none Yl_tC16 rfl ?_
              refine o_as (AV.lit (.bool true)) rfl ?_
              refine aops_end ?_
              refine hK14 _ ?_
              refine awp_ret ?_
              refine post_ret ⟨[(AV.lit (.bool true))], And.intro (AV.le_refl _) (trivial), rfl, ?_⟩
              first | rfl | simp [bp]
            · have hF := Decidable.not_not.1 h6
              have f6 := fit_len hF
              have sx := txt_sz2 hF
              have hx0 : 0 < (numS n + (comR l 1) * numS b) := (by have := Int.mul_nonneg (show 0 ≤ (comR l 1) by have := hy.2.2.1; omega) hb0; have := hA.2.2; omega)
              have hX : askE l (txt (numS n + (comR l 1) * numS b)) = 0 := askE_0.2 ⟨hA1, okS_iff.2 (okS_txt hF), by rw [numS_txt]; exact hx0⟩
              have hs := fir_same hA0 hX (by rw [numS_txt]; exact rests hy.2.2.2)
              refine awp_skip ?_
              refine hK12 _ ?_
              refine awp_seq fun K15 hK15 => ?_
              refine awp_region rfl ?_
              refine o_mv (AV.sl 2 (gcells cF (l))) rfl ?_
              refine o_mv (AV.lit (.string (n))) rfl ?_
              refine o_ct (c_First (l) (n) (by assumption) (by first | assumption | decide | omega)) Gd.none Yl_tC25 rfl ?_
              refine o_mv (AV.tup [(AV.lit (.int .i64 (firI (l) (n)))), (nm .i64 (firE (l) (n)))]) rfl ?_
              refine o_extract (AV.lit (.int .i64 (firI (l) (n)))) Gd.none rfl rfl ?_
              refine o_extract (nm .i64 (firE (l) (n))) Gd.none rfl rfl ?_
              refine o_as (AV.lit (.int .i64 (firI (l) (n)))) rfl ?_
              refine o_as (nm .i64 (firE (l) (n))) rfl ?_
              refine aops_end ?_
              refine hK15 _ ?_
              refine awp_seq fun K16 hK16 => ?_
              refine awp_region rfl ?_
              refine o_mv (AV.sl 2 (gcells cF (l))) rfl ?_
              refine o_loadA [(bp (((numS (n)) + ((comR l 1) * (numS (b)))) < 0)), (AV.sl 1 (ns .i64 (digs (((numS (n)) + ((comR l 1) * (numS (b))))).natAbs)))] Gd.none Yl_tA39 rfl rfl rfl rfl rfl ?_
              refine o_ct (c_rText (((numS (n)) + ((comR l 1) * (numS (b))))) (by first | omega | assumption | (simp only [Int.natAbs_neg]; omega))) Gd.none Yl_tC27 rfl ?_
              refine o_ct (c_First (l) (txt (((numS (n)) + ((comR l 1) * (numS (b)))))) (by assumption) (by first | assumption | decide | omega)) Gd.none Yl_tC25 rfl ?_
              refine o_mv (AV.tup [(AV.lit (.int .i64 (firI (l) (txt (((numS (n)) + ((comR l 1) * (numS (b))))))))), (nm .i64 (firE (l) (txt (((numS (n)) + ((comR l 1) * (numS (b))))))))]) rfl ?_
              refine o_extract (AV.lit (.int .i64 (firI (l) (txt (((numS (n)) + ((comR l 1) * (numS (b))))))))) Gd.none rfl rfl ?_
              refine o_extract (nm .i64 (firE (l) (txt (((numS (n)) + ((comR l 1) * (numS (b)))))))) Gd.none rfl rfl ?_
              refine o_as (AV.lit (.int .i64 (firI (l) (txt (((numS (n)) + ((comR l 1) * (numS (b))))))))) rfl ?_
              refine o_as (nm .i64 (firE (l) (txt (((numS (n)) + ((comR l 1) * (numS (b)))))))) rfl ?_
              refine aops_end ?_
              refine hK16 _ ?_
              refine awp_seq fun K17 hK17 => ?_
              refine awp_region rfl ?_
              refine o_mv (AV.lit (.int .i64 (firI (l) (n)))) rfl ?_
              refine o_mv (AV.lit (.int .i64 (firI (l) (txt (((numS (n)) + ((comR l 1) * (numS (b))))))))) rfl ?_
              refine o_eql (a := (firI (l) (n))) (c := (firI (l) (txt (((numS (n)) + ((comR l 1) * (numS (b)))))))) Gd.none rfl rfl ?_
              refine n_as (v' := (AV.lit (.bool true))) (by exact bpy hs.1) ?_
              refine o_mv (AV.lit (.bool true)) rfl ?_
              refine o_move (nm .i64 (firE (l) (n))) (Gd.yes rfl rfl rfl) rfl ?_
              refine o_move (nm .i64 (firE (l) (txt (((numS (n)) + ((comR l 1) * (numS (b)))))))) (Gd.yes rfl rfl rfl) rfl ?_
              refine n_eql (firE (l) (n)) (firE (l) (txt (((numS (n)) + ((comR l 1) * (numS (b))))))) (Gd.yes rfl rfl rfl) rfl rfl ?_
              refine n_as (v' := (AV.lit (.bool true))) (by exact bpy hs.2.1) ?_
              refine o_pickT (AV.lit (.bool true)) Gd.none rfl rfl rfl ?_
              refine o_mv (AV.lit (.bool true)) rfl ?_
              refine o_move (nm .i64 (firE (l) (n))) (Gd.yes rfl rfl rfl) rfl ?_
              refine n_eql (firE (l) (n)) (0) (Gd.yes rfl rfl rfl) rfl rfl ?_
              refine o_move (bp ((firE (l) (n)) = (0))) (Gd.yes rfl rfl rfl) rfl ?_
              refine o_splitP (q := (firE (l) (n)) = (0)) 88 rfl (fun h7 => ?_) (fun h7 => ?_)
              · refine o_skip rfl rfl (decide_eq_true h7) ?_
                refine o_skip rfl rfl (decide_eq_true h7) ?_
                refine o_pickT (AV.lit (.bool true)) (Gd.yes rfl rfl rfl) rfl (decide_eq_true h7) rfl ?_
                refine o_pickT (AV.lit (.bool true)) Gd.none rfl rfl rfl ?_
                refine o_mv (AV.lit (.bool true)) rfl ?_
                refine o_ct c_awake10 (Gd.yes rfl rfl rfl) Yl_tC16 rfl ?_
                refine o_pickT (AV.lit (.bool true)) Gd.none rfl rfl rfl ?_
                refine o_as (AV.lit (.bool true)) rfl ?_
                refine aops_end ?_
                refine hK17 _ ?_
                refine awp_ret ?_
                refine post_ret ⟨[(AV.lit (.bool true))], And.intro (AV.le_refl _) (trivial), rfl, ?_⟩
                first | rfl | simp [bp]
              · refine o_move (nm .i64 (firE (l) (n))) (Gd.yes rfl rfl (decide_eq_false h7)) rfl ?_
                refine n_eql (firE (l) (n)) (4) (Gd.yes rfl rfl (decide_eq_false h7)) rfl rfl ?_
                refine n_as (v' := (AV.lit (.bool true))) (by exact bpy (hs.2.2.resolve_left (by assumption))) ?_
                refine o_pickF (AV.lit (.bool true)) (Gd.yes rfl rfl rfl) rfl (decide_eq_false h7) rfl ?_
                refine o_pickT (AV.lit (.bool true)) Gd.none rfl rfl rfl ?_
                refine o_mv (AV.lit (.bool true)) rfl ?_
                refine o_ct c_awake10 (Gd.yes rfl rfl rfl) Yl_tC16 rfl ?_
                refine o_pickT (AV.lit (.bool true)) Gd.none rfl rfl rfl ?_
                refine o_as (AV.lit (.bool true)) rfl ?_
                refine aops_end ?_
                refine hK17 _ ?_
                refine awp_ret ?_
                refine post_ret ⟨[(AV.lit (.bool true))], And.intro (AV.le_refl _) (trivial), rfl, ?_⟩
                first | rfl | simp [bp]

end Go.Proofs.YtnejjdcbbminaaaGreatDoor

set_option linter.unusedVariables false
namespace Go.Proofs.YtnejjdcbbminaaaGreatDoor.fractionRests
open Go Go.Ab Go.Mth Go.ChangeShapes Go.WideShapes Go.ChangeAt Go.RowKit
theorem reads (os : Os) {H : Type} (enc : TypeId × Value → H) : ∃ places, DataW.whole enc Tryz.prog ((World.laidAll Tryz.prog os laid5).forCall (fun _ _ => 0) ⟨#[], #[.slice none 0 0, .string ByteArray.empty, .string ByteArray.empty], []⟩).memory Tryz.f7.params.toList Rows.fractionRestsSpec.vars false (#[.slice none 0 0, .string ByteArray.empty, .string ByteArray.empty] : Array Value).toList 8 = some ([.nil, .lit (.string []), .lit (.string [])], [], places) := ⟨[], by kernel_rfl⟩
theorem met (os : Os) : laidMetH Tryz.prog laid5 ((World.laidAll Tryz.prog os laid5).forCall (fun _ _ => 0) ⟨#[], #[.slice none 0 0, .string ByteArray.empty, .string ByteArray.empty], []⟩).memory := (MakeChecks.laidMetH_plain _ _ _ (by kernel_rfl)).mpr (laidMet_laidAll _ (by kernel_rfl) (by kernel_rfl))
theorem specs {H : Type} (ds : List (DataW H)) (h : ds.length = 3) : (Rows.fractionRestsSpec.fn H ds).results = [.lit (.bool true)] ∧ (Rows.fractionRestsSpec.fn H ds).args = ds ∧ (Rows.fractionRestsSpec.fn H ds).vars = [] := by
  rcases ds with _ | ⟨d0, _ | ⟨d1, _ | ⟨d2, _ | ⟨e, t⟩⟩⟩⟩ <;> simp at h <;> exact ⟨rfl, rfl, rfl⟩
set_option maxRecDepth 100000 in
theorem opened {H : Type} (enc : TypeId × Value → H) (W : World) (base : Nat) (args : Array Value) (ds : List (DataW H)) (ps : List MemPlace) (hval : ∀ (j : Nat) t v, (#[26, 9, 9] : Array TypeId)[j]? = some t → args[j]? = some v → Value.okWide Tryz.prog W .any base t v)
    (hA : DataW.TrodAll enc Tryz.prog W 0 (fun _ => true) true [26, 9, 9] args.toList ds ps) (hsz : (DataW.weightsEach Tryz.prog [26, 9, 9] ds).all (· ≤ reachBytes) = true) : ∃ xs, RepL (memOf W) xs noLoc args.toList ∧ ECalls cx 7 xs (.lit (.bool true)) := by
  obtain ⟨v0, vs0, d0, ds0, p0, q0, hargs, rfl, rfl, h0, r0⟩ := trodAll_cons hA
  obtain ⟨v1, vs1, d1, ds1, p1, q1, rfl, rfl, rfl, h1, r1⟩ := trodAll_cons r0
  obtain ⟨v2, vs2, d2, ds2, p2, q2, rfl, rfl, rfl, h2, r2⟩ := trodAll_cons r1
  obtain ⟨rfl, rfl, rfl⟩ := trodAll_nil r2
  obtain rfl : args = #[v0, v1, v2] := by cases args; simp_all
  obtain ⟨l0, e0, bq0, cq0⟩ := rep_frcs (hval 0 26 v0 rfl rfl) h0 (fun n hn => by simpa using List.all_eq_true.1 hsz n (DataW.weights_mem_each (j := 0) rfl rfl n hn))
  obtain ⟨a1, e1, b1⟩ := rep_str (hval 1 9 v1 rfl rfl) h1
  obtain ⟨a2, e2, b2⟩ := rep_str (hval 2 9 v2 rfl rfl) h2
  exact ⟨[.sl 2 (gcells cF l0), .lit (.string a1), .lit (.string a2)], RepL.cons e0 (RepL.cons e1 (RepL.cons e2 (by simp only [RepL]))), c_FractionRests l0 a1 a2 bq0 cq0 b1 b2⟩
set_option maxRecDepth 100000 in
theorem lifted (os : Os) (started : os.Started) (H : Type) (enc : TypeId × Value → H) (F : Stop.Interp) :
    ReturnsInHanded {} Tryz.checked os 7 .any ((OpenSpec.ofChange Rows.fractionRestsSpec).preRow enc Tryz.prog Tryz.f7 Rows.fractionRestsRow.domain false Rows.fractionRestsRow.laid) (((OpenSpec.ofChange Rows.fractionRestsSpec).at F).post enc Tryz.prog Tryz.f7 false true false false) := by
  obtain ⟨places, hx⟩ := reads os enc
  refine lifted_of (C := Tryz.checked) started cx rfl ownT (by kernel_rfl) Tryz.func7 (witness_laid #[.slice none 0 0, .string ByteArray.empty, .string ByteArray.empty] (by kernel_rfl) (by kernel_rfl) (by kernel_rfl) (OpenSpec.preRow_of_cond 8 hx (by kernel_rfl) (fun k hk => by cases hk) (by kernel_rfl) (met os))) laidOutT (by kernel_rfl) (tb := 4) (by kernel_rfl) u4T rfl (fun ds h => specs ds (h.trans (by kernel_rfl))) (fun W h => tabG_of h) ?_
  intro W base args ds ps hval hA hsz
  exact opened enc W base args ds ps hval hA hsz
theorem said : Rows.FractionRestsSaid :=
  OpenClaim.holds_of_cond 7 Tryz.f7 rfl rfl rfl rfl rfl rfl rfl ⟨rfl, rfl, rfl, rfl, rfl⟩ rfl rfl rfl rfl rfl (by kernel_rfl) Tryz.func7 (by kernel_rfl)
    (of_decide_eq_true (by kernel_rfl)) (by unfold Func.isWrapper; first | (rw [if_pos (by decide +kernel)]; kernel_rfl) | (rw [if_neg (by decide +kernel)]; exact ⟨rfl, rfl⟩))
    (fun os started H enc _ F => by rw [OpenClaim.pre_eq_preRow]; exact lifted os started H enc F)
theorem plain (f : FuncId) (fn : Func) (hf : Tryz.pinned.checked.prog.funcNamed "katabasis/katabasislaw10.FractionRests" = some f) (hfn : Tryz.pinned.checked.prog.funcs[f]? = some fn) :
    true = Tryz.pinned.checked.prog.looks [] ∧ ∀ (j : Nat) t, fn.params[j]? = some t → Tryz.pinned.checked.prog.wantsStandIn t = false := by
  obtain rfl : f = 7 := Option.some.inj ((show Tryz.prog.funcNamed "katabasis/katabasislaw10.FractionRests" = some 7 by kernel_rfl).symm.trans hf) |>.symm
  obtain rfl : fn = Tryz.f7 := (Option.some.inj (Tryz.func7.symm.trans hfn)).symm
  refine ⟨by kernel_rfl, fun j t ht => ?_⟩
  rw [Tryz.params7] at ht
  have : t = 26 ∨ t = 9 := by have h := Array.mem_of_getElem? ht; simp at h; first | exact h | (rcases h with h | h | h | h <;> simp [h]) | (rcases h with h | h | h <;> simp [h]) | (rcases h with h | h <;> simp [h])
  rcases this with rfl | rfl
  · exact (show Tryz.prog.wantsStandIn 26 = false by kernel_rfl)
  · exact (show Tryz.prog.wantsStandIn 9 = false by kernel_rfl)
end Go.Proofs.YtnejjdcbbminaaaGreatDoor.fractionRests
namespace Go.Proofs.YtnejjdcbbminaaaGreatDoor
open Go
theorem fractionRests_holds : Rows.FractionRestsCardSaid :=
  Claim7.holds_tied_plain_at .later [] _ _ _ _ fractionRests.said (fun _ h => by cases h) (by kernel_rfl) (fun _ h => by cases h) fractionRests_row_tie rfl ⟨rfl, rfl⟩ (by kernel_rfl) rfl fractionRests.plain (by kernel_rfl)
#print axioms fractionRests_holds
end Go.Proofs.YtnejjdcbbminaaaGreatDoor

