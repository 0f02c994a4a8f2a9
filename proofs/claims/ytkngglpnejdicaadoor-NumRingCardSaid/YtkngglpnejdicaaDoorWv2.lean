import Derived.Test.YtkngglpnejdicaaDoorWu
import Derived.Test.YtkngglpnejdicaaDoorLp
set_option linter.unusedVariables false
set_option linter.unusedSimpArgs false
namespace Go.Proofs.YtkngglpnejdicaaDoor
open Go Go.Ab Go.Mth
theorem Wv2_tC29 : callable cx.P 29 = true := by kernel_rfl
theorem Wv2_tC49 : callable cx.P 49 = true := by kernel_rfl
theorem Wv2_tC52 : callable cx.P 52 = true := by kernel_rfl
theorem Wv2_tC53 : callable cx.P 53 = true := by kernel_rfl
theorem Wv2_tC54 : callable cx.P 54 = true := by kernel_rfl
theorem Wv2_tC55 : callable cx.P 55 = true := by kernel_rfl
theorem Wv2_tC56 : callable cx.P 56 = true := by kernel_rfl
theorem c_NumRing (a b c : ByteArray) (hsz : a.size ≤ 9223372036854775807) (hsb : b.size ≤ 9223372036854775807) (hsc : c.size ≤ 9223372036854775807) : ECalls cx 11 [(AV.lit (.string (a))), (AV.lit (.string (b))), (AV.lit (.string (c)))] (.lit (.bool true)) := by
  refine ecalls_of_awp Tryd.func11 (c := _) rfl (Nat.le_of_ble_eq_true rfl) ?_
  show awp cx 110 _ (postF cx Tryd.f11 _) ⟨[(0, (AV.lit (.string (a)))), (1, (AV.lit (.string (b)))), (2, (AV.lit (.string (c))))], []⟩
  refine awp_seq fun K0 hK0 => ?_
  refine awp_region rfl ?_
  refine o_assign (AV.lit (.bool false)) Gd.none rfl ?_
  refine aops_end ?_
  refine hK0 _ ?_
  refine awp_seq fun K1 hK1 => ?_
  refine awp_seq fun K2 hK2 => ?_
  refine awp_region rfl ?_
  refine o_move (AV.lit (.string (a))) Gd.none rfl ?_
  refine o_call [(AV.lit (.string (a)))] (AV.lit (.bool (okS (a)))) Gd.none Wv2_tC29 rfl (c_rValid (a) (by first | assumption | decide | omega)) ?_
  refine o_not (b := okS (a)) Gd.none rfl ?_
  refine o_move (AV.lit (.bool (!(okS (a))))) Gd.none rfl ?_
  refine o_split (b := !(okS (a))) 14 rfl (fun h1 => ?_) (fun h1 => ?_)
  · refine o_skip (b := !(okS (a))) rfl rfl h1 ?_
    refine o_skip (b := !(okS (a))) rfl rfl h1 ?_
    refine o_skip (b := !(okS (a))) rfl rfl h1 ?_
    refine o_pickT (b := !(okS (a))) (AV.lit (.bool true)) Gd.none rfl h1 rfl ?_
    refine o_move (AV.lit (.bool true)) Gd.none rfl ?_
    refine o_skip (b := true) rfl rfl rfl ?_
    refine o_skip (b := true) rfl rfl rfl ?_
    refine o_skip (b := true) rfl rfl rfl ?_
    refine o_pickT (b := true) (AV.lit (.bool true)) Gd.none rfl rfl rfl ?_
    refine aops_end ?_
    refine hK2 _ ?_
    refine awp_condB (b := true) rfl (fun _ => ?_) (fun hh => absurd (hh.symm.trans rfl) (by decide))
    refine awp_seq fun K3 hK3 => ?_
    refine awp_region rfl ?_
    refine o_call [] (AV.lit (.bool true)) Gd.none Wv2_tC49 rfl c_l1Awake ?_
    refine o_assign (AV.lit (.bool true)) Gd.none rfl ?_
    refine aops_end ?_
    refine hK3 _ ?_
    refine awp_ret ?_
    refine post_ret ⟨[(AV.lit (.bool true))], And.intro (AV.le_refl _) (trivial), rfl, ?_⟩
    first | rfl | simp [bp]
  · have ha' : okS a = true := by simpa using h1
    refine o_move (AV.lit (.string (b))) (Gd.yes rfl rfl h1) rfl ?_
    refine o_call [(AV.lit (.string (b)))] (AV.lit (.bool (okS (b)))) (Gd.yes rfl rfl h1) Wv2_tC29 rfl (c_rValid (b) (by first | assumption | decide | omega)) ?_
    refine o_not (b := okS (b)) (Gd.yes rfl rfl h1) rfl ?_
    refine o_pickF (b := !(okS (a))) (AV.lit (.bool (!(okS (b))))) Gd.none rfl h1 rfl ?_
    refine o_move (AV.lit (.bool (!(okS (b))))) Gd.none rfl ?_
    refine o_split (b := !(okS (b))) 19 rfl (fun h2 => ?_) (fun h2 => ?_)
    · refine o_skip (b := !(okS (b))) rfl rfl h2 ?_
      refine o_skip (b := !(okS (b))) rfl rfl h2 ?_
      refine o_skip (b := !(okS (b))) rfl rfl h2 ?_
      refine o_pickT (b := !(okS (b))) (AV.lit (.bool true)) Gd.none rfl h2 rfl ?_
      refine aops_end ?_
      refine hK2 _ ?_
      refine awp_condB (b := true) rfl (fun _ => ?_) (fun hh => absurd (hh.symm.trans rfl) (by decide))
      refine awp_seq fun K4 hK4 => ?_
      refine awp_region rfl ?_
      refine o_call [] (AV.lit (.bool true)) Gd.none Wv2_tC49 rfl c_l1Awake ?_
      refine o_assign (AV.lit (.bool true)) Gd.none rfl ?_
      refine aops_end ?_
      refine hK4 _ ?_
      refine awp_ret ?_
      refine post_ret ⟨[(AV.lit (.bool true))], And.intro (AV.le_refl _) (trivial), rfl, ?_⟩
      first | rfl | simp [bp]
    · have hb' : okS b = true := by simpa using h2
      refine o_move (AV.lit (.string (c))) (Gd.yes rfl rfl h2) rfl ?_
      refine o_call [(AV.lit (.string (c)))] (AV.lit (.bool (okS (c)))) (Gd.yes rfl rfl h2) Wv2_tC29 rfl (c_rValid (c) (by first | assumption | decide | omega)) ?_
      refine o_not (b := okS (c)) (Gd.yes rfl rfl h2) rfl ?_
      refine o_pickF (b := !(okS (b))) (AV.lit (.bool (!(okS (c))))) Gd.none rfl h2 rfl ?_
      refine aops_end ?_
      refine hK2 _ ?_
      refine awp_condB (b := !(okS (c))) rfl (fun h3 => ?_) (fun h3 => ?_)
      · refine awp_seq fun K5 hK5 => ?_
        refine awp_region rfl ?_
        refine o_call [] (AV.lit (.bool true)) Gd.none Wv2_tC49 rfl c_l1Awake ?_
        refine o_assign (AV.lit (.bool true)) Gd.none rfl ?_
        refine aops_end ?_
        refine hK5 _ ?_
        refine awp_ret ?_
        refine post_ret ⟨[(AV.lit (.bool true))], And.intro (AV.le_refl _) (trivial), rfl, ?_⟩
        first | rfl | simp [bp]
      · have hc' : okS c = true := by simpa using h3
        have hst : (if okS a && okS b then toldS (numS a + numS b) else ({ data := #[] } : ByteArray)).size ≤ 9223372036854775807 := sum_sz a b
        refine awp_skip ?_
        refine hK1 _ ?_
        refine awp_seq fun K6 hK6 => ?_
        refine awp_seq fun K7 hK7 => ?_
        refine awp_region rfl ?_
        refine o_move (AV.lit (.string (a))) Gd.none rfl ?_
        refine o_move (AV.lit (.string (b))) Gd.none rfl ?_
        refine o_call [(AV.lit (.string (a))), (AV.lit (.string (b)))] (AV.lit (.string (sumS (a) (b)))) Gd.none Wv2_tC52 rfl (c_l1Sum (a) (b) (by first | assumption | decide | omega | exact sum_sz _ _ | exact pro_sz _ _) (by first | assumption | decide | omega | exact sum_sz _ _ | exact pro_sz _ _)) ?_
        refine o_move (AV.lit (.string (b))) Gd.none rfl ?_
        refine o_move (AV.lit (.string (a))) Gd.none rfl ?_
        refine o_call [(AV.lit (.string (b))), (AV.lit (.string (a)))] (AV.lit (.string (sumS (b) (a)))) Gd.none Wv2_tC52 rfl (c_l1Sum (b) (a) (by first | assumption | decide | omega | exact sum_sz _ _ | exact pro_sz _ _) (by first | assumption | decide | omega | exact sum_sz _ _ | exact pro_sz _ _)) ?_
        refine o_neqS (a := (sumS (a) (b))) (c := (sumS (b) (a))) Gd.none rfl rfl ?_
        refine o_move (bp ((sumS (a) (b)).toList ≠ (sumS (b) (a)).toList)) Gd.none rfl ?_
        refine o_splitP (q := (sumS (a) (b)).toList ≠ (sumS (b) (a)).toList) 32 rfl (fun h4 => ?_) (fun h4 => ?_)
        · refine o_skip (b := decide ((sumS (a) (b)).toList ≠ (sumS (b) (a)).toList)) rfl rfl (decide_eq_true h4) ?_
          refine o_skip (b := decide ((sumS (a) (b)).toList ≠ (sumS (b) (a)).toList)) rfl rfl (decide_eq_true h4) ?_
          refine o_skip (b := decide ((sumS (a) (b)).toList ≠ (sumS (b) (a)).toList)) rfl rfl (decide_eq_true h4) ?_
          refine o_skip (b := decide ((sumS (a) (b)).toList ≠ (sumS (b) (a)).toList)) rfl rfl (decide_eq_true h4) ?_
          refine o_skip (b := decide ((sumS (a) (b)).toList ≠ (sumS (b) (a)).toList)) rfl rfl (decide_eq_true h4) ?_
          refine o_skip (b := decide ((sumS (a) (b)).toList ≠ (sumS (b) (a)).toList)) rfl rfl (decide_eq_true h4) ?_
          refine o_skip (b := decide ((sumS (a) (b)).toList ≠ (sumS (b) (a)).toList)) rfl rfl (decide_eq_true h4) ?_
          refine o_pickT (b := decide ((sumS (a) (b)).toList ≠ (sumS (b) (a)).toList)) (AV.lit (.bool true)) Gd.none rfl (decide_eq_true h4) rfl ?_
          refine aops_end ?_
          refine hK7 _ ?_
          refine awp_condB (b := true) rfl (fun _ => ?_) (fun hh => absurd (hh.symm.trans rfl) (by decide))
          refine awp_seq fun K8 hK8 => ?_
          refine awp_region rfl ?_
          refine o_assign (AV.lit (.bool false)) Gd.none rfl ?_
          refine aops_end ?_
          refine hK8 _ ?_
          refine awp_ret ?_
          refine post_ret ⟨[(AV.lit (.bool false))], And.intro (AV.le_refl _) (trivial), rfl, ?_⟩
          exact absurd (str_eq.2 (ring1 ha' hb').1) h4
        · refine o_move (AV.lit (.string (a))) (Gd.yes rfl rfl (decide_eq_false h4)) rfl ?_
          refine o_move (AV.lit (.string (b))) (Gd.yes rfl rfl (decide_eq_false h4)) rfl ?_
          refine o_call [(AV.lit (.string (a))), (AV.lit (.string (b)))] (AV.lit (.string (proS (a) (b)))) (Gd.yes rfl rfl (decide_eq_false h4)) Wv2_tC53 rfl (c_l1Pro (a) (b) (by first | assumption | decide | omega | exact sum_sz _ _ | exact pro_sz _ _) (by first | assumption | decide | omega | exact sum_sz _ _ | exact pro_sz _ _)) ?_
          refine o_move (AV.lit (.string (b))) (Gd.yes rfl rfl (decide_eq_false h4)) rfl ?_
          refine o_move (AV.lit (.string (a))) (Gd.yes rfl rfl (decide_eq_false h4)) rfl ?_
          refine o_call [(AV.lit (.string (b))), (AV.lit (.string (a)))] (AV.lit (.string (proS (b) (a)))) (Gd.yes rfl rfl (decide_eq_false h4)) Wv2_tC53 rfl (c_l1Pro (b) (a) (by first | assumption | decide | omega | exact sum_sz _ _ | exact pro_sz _ _) (by first | assumption | decide | omega | exact sum_sz _ _ | exact pro_sz _ _)) ?_
          refine o_neqS (a := (proS (a) (b))) (c := (proS (b) (a))) (Gd.yes rfl rfl (decide_eq_false h4)) rfl rfl ?_
          refine o_pickF (b := decide ((sumS (a) (b)).toList ≠ (sumS (b) (a)).toList)) (bp ((proS (a) (b)).toList ≠ (proS (b) (a)).toList)) Gd.none rfl (decide_eq_false h4) rfl ?_
          refine aops_end ?_
          refine hK7 _ ?_
          refine awp_condQ (q := (proS (a) (b)).toList ≠ (proS (b) (a)).toList) rfl (fun h5 => ?_) (fun h5 => ?_)
          · refine awp_seq fun K9 hK9 => ?_
            refine awp_region rfl ?_
            refine o_assign (AV.lit (.bool false)) Gd.none rfl ?_
            refine aops_end ?_
            refine hK9 _ ?_
            refine awp_ret ?_
            refine post_ret ⟨[(AV.lit (.bool false))], And.intro (AV.le_refl _) (trivial), rfl, ?_⟩
            exact absurd (str_eq.2 (ring1 ha' hb').2) h5
          · refine awp_skip ?_
            refine hK6 _ ?_
            refine awp_seq fun K10 hK10 => ?_
            refine awp_seq fun K11 hK11 => ?_
            refine awp_region rfl ?_
            refine o_move (AV.lit (.string (a))) Gd.none rfl ?_
            refine o_move (AV.lit (.string (b))) Gd.none rfl ?_
            refine o_call [(AV.lit (.string (a))), (AV.lit (.string (b)))] (AV.lit (.string (sumS (a) (b)))) Gd.none Wv2_tC52 rfl (c_l1Sum (a) (b) (by first | assumption | decide | omega | exact sum_sz _ _ | exact pro_sz _ _) (by first | assumption | decide | omega | exact sum_sz _ _ | exact pro_sz _ _)) ?_
            refine o_move (AV.lit (.string (c))) Gd.none rfl ?_
            refine o_call [(AV.lit (.string (sumS (a) (b)))), (AV.lit (.string (c)))] (AV.lit (.string (sumS (sumS (a) (b)) (c)))) Gd.none Wv2_tC52 rfl (c_l1Sum (sumS (a) (b)) (c) (by first | assumption | decide | omega | exact sum_sz _ _ | exact pro_sz _ _) (by first | assumption | decide | omega | exact sum_sz _ _ | exact pro_sz _ _)) ?_
            refine o_move (AV.lit (.string (a))) Gd.none rfl ?_
            refine o_move (AV.lit (.string (b))) Gd.none rfl ?_
            refine o_move (AV.lit (.string (c))) Gd.none rfl ?_
            refine o_call [(AV.lit (.string (b))), (AV.lit (.string (c)))] (AV.lit (.string (sumS (b) (c)))) Gd.none Wv2_tC52 rfl (c_l1Sum (b) (c) (by first | assumption | decide | omega | exact sum_sz _ _ | exact pro_sz _ _) (by first | assumption | decide | omega | exact sum_sz _ _ | exact pro_sz _ _)) ?_
            refine o_call [(AV.lit (.string (a))), (AV.lit (.string (sumS (b) (c))))] (AV.lit (.string (sumS (a) (sumS (b) (c))))) Gd.none Wv2_tC52 rfl (c_l1Sum (a) (sumS (b) (c)) (by first | assumption | decide | omega | exact sum_sz _ _ | exact pro_sz _ _) (by first | assumption | decide | omega | exact sum_sz _ _ | exact pro_sz _ _)) ?_
            refine o_call [(AV.lit (.string (sumS (sumS (a) (b)) (c)))), (AV.lit (.string (sumS (a) (sumS (b) (c)))))] (bp (alikeS (sumS (sumS (a) (b)) (c)) (sumS (a) (sumS (b) (c))))) Gd.none Wv2_tC54 rfl (c_l1Alike (sumS (sumS (a) (b)) (c)) (sumS (a) (sumS (b) (c)))) ?_
            refine o_notP (q := alikeS (sumS (sumS (a) (b)) (c)) (sumS (a) (sumS (b) (c)))) Gd.none rfl ?_
            refine o_move (bp (¬ (alikeS (sumS (sumS (a) (b)) (c)) (sumS (a) (sumS (b) (c)))))) Gd.none rfl ?_
            refine o_splitP (q := ¬ (alikeS (sumS (sumS (a) (b)) (c)) (sumS (a) (sumS (b) (c))))) 53 rfl (fun h6 => ?_) (fun h6 => ?_)
            · refine o_skip (b := decide (¬ (alikeS (sumS (sumS (a) (b)) (c)) (sumS (a) (sumS (b) (c)))))) rfl rfl (decide_eq_true h6) ?_
              refine o_skip (b := decide (¬ (alikeS (sumS (sumS (a) (b)) (c)) (sumS (a) (sumS (b) (c)))))) rfl rfl (decide_eq_true h6) ?_
              refine o_skip (b := decide (¬ (alikeS (sumS (sumS (a) (b)) (c)) (sumS (a) (sumS (b) (c)))))) rfl rfl (decide_eq_true h6) ?_
              refine o_skip (b := decide (¬ (alikeS (sumS (sumS (a) (b)) (c)) (sumS (a) (sumS (b) (c)))))) rfl rfl (decide_eq_true h6) ?_
              refine o_skip (b := decide (¬ (alikeS (sumS (sumS (a) (b)) (c)) (sumS (a) (sumS (b) (c)))))) rfl rfl (decide_eq_true h6) ?_
              refine o_skip (b := decide (¬ (alikeS (sumS (sumS (a) (b)) (c)) (sumS (a) (sumS (b) (c)))))) rfl rfl (decide_eq_true h6) ?_
              refine o_skip (b := decide (¬ (alikeS (sumS (sumS (a) (b)) (c)) (sumS (a) (sumS (b) (c)))))) rfl rfl (decide_eq_true h6) ?_
              refine o_skip (b := decide (¬ (alikeS (sumS (sumS (a) (b)) (c)) (sumS (a) (sumS (b) (c)))))) rfl rfl (decide_eq_true h6) ?_
              refine o_skip (b := decide (¬ (alikeS (sumS (sumS (a) (b)) (c)) (sumS (a) (sumS (b) (c)))))) rfl rfl (decide_eq_true h6) ?_
              refine o_skip (b := decide (¬ (alikeS (sumS (sumS (a) (b)) (c)) (sumS (a) (sumS (b) (c)))))) rfl rfl (decide_eq_true h6) ?_
              refine o_skip (b := decide (¬ (alikeS (sumS (sumS (a) (b)) (c)) (sumS (a) (sumS (b) (c)))))) rfl rfl (decide_eq_true h6) ?_
              refine o_skip (b := decide (¬ (alikeS (sumS (sumS (a) (b)) (c)) (sumS (a) (sumS (b) (c)))))) rfl rfl (decide_eq_true h6) ?_
              refine o_pickT (b := decide (¬ (alikeS (sumS (sumS (a) (b)) (c)) (sumS (a) (sumS (b) (c)))))) (AV.lit (.bool true)) Gd.none rfl (decide_eq_true h6) rfl ?_
              refine aops_end ?_
              refine hK11 _ ?_
              refine awp_condB (b := true) rfl (fun _ => ?_) (fun hh => absurd (hh.symm.trans rfl) (by decide))
              refine awp_seq fun K12 hK12 => ?_
              refine awp_region rfl ?_
              refine o_assign (AV.lit (.bool false)) Gd.none rfl ?_
              refine aops_end ?_
              refine hK12 _ ?_
              refine awp_ret ?_
              refine post_ret ⟨[(AV.lit (.bool false))], And.intro (AV.le_refl _) (trivial), rfl, ?_⟩
              exact absurd (ring2 ha' hb' hc').1 h6
            · refine o_move (AV.lit (.string (a))) (Gd.yes rfl rfl (decide_eq_false h6)) rfl ?_
              refine o_move (AV.lit (.string (b))) (Gd.yes rfl rfl (decide_eq_false h6)) rfl ?_
              refine o_call [(AV.lit (.string (a))), (AV.lit (.string (b)))] (AV.lit (.string (proS (a) (b)))) (Gd.yes rfl rfl (decide_eq_false h6)) Wv2_tC53 rfl (c_l1Pro (a) (b) (by first | assumption | decide | omega | exact sum_sz _ _ | exact pro_sz _ _) (by first | assumption | decide | omega | exact sum_sz _ _ | exact pro_sz _ _)) ?_
              refine o_move (AV.lit (.string (c))) (Gd.yes rfl rfl (decide_eq_false h6)) rfl ?_
              refine o_call [(AV.lit (.string (proS (a) (b)))), (AV.lit (.string (c)))] (AV.lit (.string (proS (proS (a) (b)) (c)))) (Gd.yes rfl rfl (decide_eq_false h6)) Wv2_tC53 rfl (c_l1Pro (proS (a) (b)) (c) (by first | assumption | decide | omega | exact sum_sz _ _ | exact pro_sz _ _) (by first | assumption | decide | omega | exact sum_sz _ _ | exact pro_sz _ _)) ?_
              refine o_move (AV.lit (.string (a))) (Gd.yes rfl rfl (decide_eq_false h6)) rfl ?_
              refine o_move (AV.lit (.string (b))) (Gd.yes rfl rfl (decide_eq_false h6)) rfl ?_
              refine o_move (AV.lit (.string (c))) (Gd.yes rfl rfl (decide_eq_false h6)) rfl ?_
              refine o_call [(AV.lit (.string (b))), (AV.lit (.string (c)))] (AV.lit (.string (proS (b) (c)))) (Gd.yes rfl rfl (decide_eq_false h6)) Wv2_tC53 rfl (c_l1Pro (b) (c) (by first | assumption | decide | omega | exact sum_sz _ _ | exact pro_sz _ _) (by first | assumption | decide | omega | exact sum_sz _ _ | exact pro_sz _ _)) ?_
              refine o_call [(AV.lit (.string (a))), (AV.lit (.string (proS (b) (c))))] (AV.lit (.string (proS (a) (proS (b) (c))))) (Gd.yes rfl rfl (decide_eq_false h6)) Wv2_tC53 rfl (c_l1Pro (a) (proS (b) (c)) (by first | assumption | decide | omega | exact sum_sz _ _ | exact pro_sz _ _) (by first | assumption | decide | omega | exact sum_sz _ _ | exact pro_sz _ _)) ?_
              refine o_call [(AV.lit (.string (proS (proS (a) (b)) (c)))), (AV.lit (.string (proS (a) (proS (b) (c)))))] (bp (alikeS (proS (proS (a) (b)) (c)) (proS (a) (proS (b) (c))))) (Gd.yes rfl rfl (decide_eq_false h6)) Wv2_tC54 rfl (c_l1Alike (proS (proS (a) (b)) (c)) (proS (a) (proS (b) (c)))) ?_
              refine o_notP (q := alikeS (proS (proS (a) (b)) (c)) (proS (a) (proS (b) (c)))) (Gd.yes rfl rfl (decide_eq_false h6)) rfl ?_
              refine o_pickF (b := decide (¬ (alikeS (sumS (sumS (a) (b)) (c)) (sumS (a) (sumS (b) (c)))))) (bp (¬ (alikeS (proS (proS (a) (b)) (c)) (proS (a) (proS (b) (c)))))) Gd.none rfl (decide_eq_false h6) rfl ?_
              refine aops_end ?_
              refine hK11 _ ?_
              refine awp_condQ (q := ¬ (alikeS (proS (proS (a) (b)) (c)) (proS (a) (proS (b) (c))))) rfl (fun h7 => ?_) (fun h7 => ?_)
              · refine awp_seq fun K13 hK13 => ?_
                refine awp_region rfl ?_
                refine o_assign (AV.lit (.bool false)) Gd.none rfl ?_
                refine aops_end ?_
                refine hK13 _ ?_
                refine awp_ret ?_
                refine post_ret ⟨[(AV.lit (.bool false))], And.intro (AV.le_refl _) (trivial), rfl, ?_⟩
                exact absurd (ring2 ha' hb' hc').2 h7
              · refine awp_skip ?_
                refine hK10 _ ?_
                refine awp_seq fun K14 hK14 => ?_
                refine awp_seq fun K15 hK15 => ?_
                refine awp_region rfl ?_
                refine o_move (AV.lit (.string (a))) Gd.none rfl ?_
                refine o_move (AV.lit (.string (b))) Gd.none rfl ?_
                refine o_move (AV.lit (.string (c))) Gd.none rfl ?_
                refine o_call [(AV.lit (.string (b))), (AV.lit (.string (c)))] (AV.lit (.string (sumS (b) (c)))) Gd.none Wv2_tC52 rfl (c_l1Sum (b) (c) (by first | assumption | decide | omega | exact sum_sz _ _ | exact pro_sz _ _) (by first | assumption | decide | omega | exact sum_sz _ _ | exact pro_sz _ _)) ?_
                refine o_call [(AV.lit (.string (a))), (AV.lit (.string (sumS (b) (c))))] (AV.lit (.string (proS (a) (sumS (b) (c))))) Gd.none Wv2_tC53 rfl (c_l1Pro (a) (sumS (b) (c)) (by first | assumption | decide | omega | exact sum_sz _ _ | exact pro_sz _ _) (by first | assumption | decide | omega | exact sum_sz _ _ | exact pro_sz _ _)) ?_
                refine o_move (AV.lit (.string (a))) Gd.none rfl ?_
                refine o_move (AV.lit (.string (b))) Gd.none rfl ?_
                refine o_call [(AV.lit (.string (a))), (AV.lit (.string (b)))] (AV.lit (.string (proS (a) (b)))) Gd.none Wv2_tC53 rfl (c_l1Pro (a) (b) (by first | assumption | decide | omega | exact sum_sz _ _ | exact pro_sz _ _) (by first | assumption | decide | omega | exact sum_sz _ _ | exact pro_sz _ _)) ?_
                refine o_move (AV.lit (.string (a))) Gd.none rfl ?_
                refine o_move (AV.lit (.string (c))) Gd.none rfl ?_
                refine o_call [(AV.lit (.string (a))), (AV.lit (.string (c)))] (AV.lit (.string (proS (a) (c)))) Gd.none Wv2_tC53 rfl (c_l1Pro (a) (c) (by first | assumption | decide | omega | exact sum_sz _ _ | exact pro_sz _ _) (by first | assumption | decide | omega | exact sum_sz _ _ | exact pro_sz _ _)) ?_
                refine o_call [(AV.lit (.string (proS (a) (b)))), (AV.lit (.string (proS (a) (c))))] (AV.lit (.string (sumS (proS (a) (b)) (proS (a) (c))))) Gd.none Wv2_tC52 rfl (c_l1Sum (proS (a) (b)) (proS (a) (c)) (by first | assumption | decide | omega | exact sum_sz _ _ | exact pro_sz _ _) (by first | assumption | decide | omega | exact sum_sz _ _ | exact pro_sz _ _)) ?_
                refine o_call [(AV.lit (.string (proS (a) (sumS (b) (c))))), (AV.lit (.string (sumS (proS (a) (b)) (proS (a) (c)))))] (bp (alikeS (proS (a) (sumS (b) (c))) (sumS (proS (a) (b)) (proS (a) (c))))) Gd.none Wv2_tC54 rfl (c_l1Alike (proS (a) (sumS (b) (c))) (sumS (proS (a) (b)) (proS (a) (c)))) ?_
                refine o_notP (q := alikeS (proS (a) (sumS (b) (c))) (sumS (proS (a) (b)) (proS (a) (c)))) Gd.none rfl ?_
                refine aops_end ?_
                refine hK15 _ ?_
                refine awp_condQ (q := ¬ (alikeS (proS (a) (sumS (b) (c))) (sumS (proS (a) (b)) (proS (a) (c))))) rfl (fun h8 => ?_) (fun h8 => ?_)
                · refine awp_seq fun K16 hK16 => ?_
                  refine awp_region rfl ?_
                  refine o_assign (AV.lit (.bool false)) Gd.none rfl ?_
                  refine aops_end ?_
                  refine hK16 _ ?_
                  refine awp_ret ?_
                  refine post_ret ⟨[(AV.lit (.bool false))], And.intro (AV.le_refl _) (trivial), rfl, ?_⟩
                  exact absurd (ring3 ha' hb' hc') h8
                · refine awp_skip ?_
                  refine hK14 _ ?_
                  refine awp_seq fun K17 hK17 => ?_
                  refine awp_region rfl ?_
                  refine o_move (AV.lit (.string (a))) Gd.none rfl ?_
                  refine o_move (AV.lit (.string (b))) Gd.none rfl ?_
                  refine o_call [(AV.lit (.string (a))), (AV.lit (.string (b)))] (AV.tup [(AV.lit (.string ((if okS (a) && okS (b) then (toldS (numS (a) + numS (b))) else (({ data := #[] } : ByteArray)))))), (nm .i64 ((if okS (a) && okS (b) then (toldE (numS (a) + numS (b))) else (1))))]) Gd.none Wv2_tC55 rfl (c_nAdd (a) (b) (by first | assumption | decide | omega) (by first | assumption | decide | omega)) ?_
                  refine o_move (AV.tup [(AV.lit (.string ((if okS (a) && okS (b) then (toldS (numS (a) + numS (b))) else (({ data := #[] } : ByteArray)))))), (nm .i64 ((if okS (a) && okS (b) then (toldE (numS (a) + numS (b))) else (1))))]) Gd.none rfl ?_
                  refine o_extract (AV.lit (.string ((if okS (a) && okS (b) then (toldS (numS (a) + numS (b))) else (({ data := #[] } : ByteArray)))))) Gd.none rfl rfl ?_
                  refine o_extract (nm .i64 ((if okS (a) && okS (b) then (toldE (numS (a) + numS (b))) else (1)))) Gd.none rfl rfl ?_
                  refine o_assign (AV.lit (.string ((if okS (a) && okS (b) then (toldS (numS (a) + numS (b))) else (({ data := #[] } : ByteArray)))))) Gd.none rfl ?_
                  refine o_assign (nm .i64 ((if okS (a) && okS (b) then (toldE (numS (a) + numS (b))) else (1)))) Gd.none rfl ?_
                  refine aops_end ?_
                  refine hK17 _ ?_
                  refine awp_seq fun K18 hK18 => ?_
                  refine awp_seq fun K19 hK19 => ?_
                  refine awp_region rfl ?_
                  refine o_move (nm .i64 ((if okS (a) && okS (b) then (toldE (numS (a) + numS (b))) else (1)))) Gd.none rfl ?_
                  refine n_neq ((if okS (a) && okS (b) then (toldE (numS (a) + numS (b))) else (1))) (0) Gd.none rfl rfl ?_
                  refine aops_end ?_
                  refine hK19 _ ?_
                  refine awp_condQ (q := ((if okS (a) && okS (b) then (toldE (numS (a) + numS (b))) else (1))) ≠ (0)) rfl (fun h9 => ?_) (fun h9 => ?_)
                  · refine awp_seq fun K20 hK20 => ?_
                    refine awp_region rfl ?_
                    refine o_move (nm .i64 ((if okS (a) && okS (b) then (toldE (numS (a) + numS (b))) else (1)))) Gd.none rfl ?_
                    refine n_eql ((if okS (a) && okS (b) then (toldE (numS (a) + numS (b))) else (1))) (3) Gd.none rfl rfl ?_
                    refine o_move (bp (((if okS (a) && okS (b) then (toldE (numS (a) + numS (b))) else (1))) = (3))) Gd.none rfl ?_
                    refine o_splitP (q := ((if okS (a) && okS (b) then (toldE (numS (a) + numS (b))) else (1))) = (3)) 91 rfl (fun h10 => ?_) (fun h10 => ?_)
                    · refine o_call [] (AV.lit (.bool true)) (Gd.yes rfl rfl (decide_eq_true h10)) Wv2_tC49 rfl c_l1Awake ?_
                      refine o_pickT (b := decide (((if okS (a) && okS (b) then (toldE (numS (a) + numS (b))) else (1))) = (3))) (AV.lit (.bool true)) Gd.none rfl (decide_eq_true h10) rfl ?_
                      refine o_assign (AV.lit (.bool true)) Gd.none rfl ?_
                      refine aops_end ?_
                      refine hK20 _ ?_
                      refine awp_ret ?_
                      refine post_ret ⟨[(AV.lit (.bool true))], And.intro (AV.le_refl _) (trivial), rfl, ?_⟩
                      first | rfl | simp [bp]
                    · refine o_skip (b := decide (((if okS (a) && okS (b) then (toldE (numS (a) + numS (b))) else (1))) = (3))) rfl rfl (decide_eq_false h10) ?_
                      refine o_pickF (b := decide (((if okS (a) && okS (b) then (toldE (numS (a) + numS (b))) else (1))) = (3))) (AV.lit (.bool false)) Gd.none rfl (decide_eq_false h10) rfl ?_
                      refine o_assign (AV.lit (.bool false)) Gd.none rfl ?_
                      refine aops_end ?_
                      refine hK20 _ ?_
                      refine awp_ret ?_
                      refine post_ret ⟨[(AV.lit (.bool false))], And.intro (AV.le_refl _) (trivial), rfl, ?_⟩
                      exact absurd (ring5 ha' hb' h9) h10
                  · refine awp_skip ?_
                    refine hK18 _ ?_
                    refine awp_seq fun K21 hK21 => ?_
                    refine awp_region rfl ?_
                    refine o_move (AV.lit (.string ((if okS (a) && okS (b) then (toldS (numS (a) + numS (b))) else (({ data := #[] } : ByteArray)))))) Gd.none rfl ?_
                    refine o_move (AV.lit (.string (b))) Gd.none rfl ?_
                    refine o_call [(AV.lit (.string ((if okS (a) && okS (b) then (toldS (numS (a) + numS (b))) else (({ data := #[] } : ByteArray)))))), (AV.lit (.string (b)))] (AV.tup [(AV.lit (.string ((if okS ((if okS (a) && okS (b) then (toldS (numS (a) + numS (b))) else (({ data := #[] } : ByteArray)))) && okS (b) then (toldS (numS ((if okS (a) && okS (b) then (toldS (numS (a) + numS (b))) else (({ data := #[] } : ByteArray)))) - numS (b))) else (({ data := #[] } : ByteArray)))))), (nm .i64 ((if okS ((if okS (a) && okS (b) then (toldS (numS (a) + numS (b))) else (({ data := #[] } : ByteArray)))) && okS (b) then (toldE (numS ((if okS (a) && okS (b) then (toldS (numS (a) + numS (b))) else (({ data := #[] } : ByteArray)))) - numS (b))) else (1))))]) Gd.none Wv2_tC56 rfl (c_nSub ((if okS (a) && okS (b) then (toldS (numS (a) + numS (b))) else (({ data := #[] } : ByteArray)))) (b) (by first | assumption | decide | omega) (by first | assumption | decide | omega)) ?_
                    refine o_move (AV.tup [(AV.lit (.string ((if okS ((if okS (a) && okS (b) then (toldS (numS (a) + numS (b))) else (({ data := #[] } : ByteArray)))) && okS (b) then (toldS (numS ((if okS (a) && okS (b) then (toldS (numS (a) + numS (b))) else (({ data := #[] } : ByteArray)))) - numS (b))) else (({ data := #[] } : ByteArray)))))), (nm .i64 ((if okS ((if okS (a) && okS (b) then (toldS (numS (a) + numS (b))) else (({ data := #[] } : ByteArray)))) && okS (b) then (toldE (numS ((if okS (a) && okS (b) then (toldS (numS (a) + numS (b))) else (({ data := #[] } : ByteArray)))) - numS (b))) else (1))))]) Gd.none rfl ?_
                    refine o_extract (AV.lit (.string ((if okS ((if okS (a) && okS (b) then (toldS (numS (a) + numS (b))) else (({ data := #[] } : ByteArray)))) && okS (b) then (toldS (numS ((if okS (a) && okS (b) then (toldS (numS (a) + numS (b))) else (({ data := #[] } : ByteArray)))) - numS (b))) else (({ data := #[] } : ByteArray)))))) Gd.none rfl rfl ?_
                    refine o_extract (nm .i64 ((if okS ((if okS (a) && okS (b) then (toldS (numS (a) + numS (b))) else (({ data := #[] } : ByteArray)))) && okS (b) then (toldE (numS ((if okS (a) && okS (b) then (toldS (numS (a) + numS (b))) else (({ data := #[] } : ByteArray)))) - numS (b))) else (1)))) Gd.none rfl rfl ?_
                    refine o_assign (AV.lit (.string ((if okS ((if okS (a) && okS (b) then (toldS (numS (a) + numS (b))) else (({ data := #[] } : ByteArray)))) && okS (b) then (toldS (numS ((if okS (a) && okS (b) then (toldS (numS (a) + numS (b))) else (({ data := #[] } : ByteArray)))) - numS (b))) else (({ data := #[] } : ByteArray)))))) Gd.none rfl ?_
                    refine o_assign (nm .i64 ((if okS ((if okS (a) && okS (b) then (toldS (numS (a) + numS (b))) else (({ data := #[] } : ByteArray)))) && okS (b) then (toldE (numS ((if okS (a) && okS (b) then (toldS (numS (a) + numS (b))) else (({ data := #[] } : ByteArray)))) - numS (b))) else (1)))) Gd.none rfl ?_
                    refine aops_end ?_
                    refine hK21 _ ?_
                    refine awp_seq fun K22 hK22 => ?_
                    refine awp_region rfl ?_
                    refine o_move (nm .i64 ((if okS ((if okS (a) && okS (b) then (toldS (numS (a) + numS (b))) else (({ data := #[] } : ByteArray)))) && okS (b) then (toldE (numS ((if okS (a) && okS (b) then (toldS (numS (a) + numS (b))) else (({ data := #[] } : ByteArray)))) - numS (b))) else (1)))) Gd.none rfl ?_
                    refine n_eql ((if okS ((if okS (a) && okS (b) then (toldS (numS (a) + numS (b))) else (({ data := #[] } : ByteArray)))) && okS (b) then (toldE (numS ((if okS (a) && okS (b) then (toldS (numS (a) + numS (b))) else (({ data := #[] } : ByteArray)))) - numS (b))) else (1))) (0) Gd.none rfl rfl ?_
                    refine o_move (bp (((if okS ((if okS (a) && okS (b) then (toldS (numS (a) + numS (b))) else (({ data := #[] } : ByteArray)))) && okS (b) then (toldE (numS ((if okS (a) && okS (b) then (toldS (numS (a) + numS (b))) else (({ data := #[] } : ByteArray)))) - numS (b))) else (1))) = (0))) Gd.none rfl ?_
                    refine o_splitP (q := ((if okS ((if okS (a) && okS (b) then (toldS (numS (a) + numS (b))) else (({ data := #[] } : ByteArray)))) && okS (b) then (toldE (numS ((if okS (a) && okS (b) then (toldS (numS (a) + numS (b))) else (({ data := #[] } : ByteArray)))) - numS (b))) else (1))) = (0)) 102 rfl (fun h11 => ?_) (fun h11 => ?_)
                    · refine o_move (AV.lit (.string ((if okS ((if okS (a) && okS (b) then (toldS (numS (a) + numS (b))) else (({ data := #[] } : ByteArray)))) && okS (b) then (toldS (numS ((if okS (a) && okS (b) then (toldS (numS (a) + numS (b))) else (({ data := #[] } : ByteArray)))) - numS (b))) else (({ data := #[] } : ByteArray)))))) (Gd.yes rfl rfl (decide_eq_true h11)) rfl ?_
                      refine o_move (AV.lit (.string (a))) (Gd.yes rfl rfl (decide_eq_true h11)) rfl ?_
                      refine o_eqlS (a := ((if okS ((if okS (a) && okS (b) then (toldS (numS (a) + numS (b))) else (({ data := #[] } : ByteArray)))) && okS (b) then (toldS (numS ((if okS (a) && okS (b) then (toldS (numS (a) + numS (b))) else (({ data := #[] } : ByteArray)))) - numS (b))) else (({ data := #[] } : ByteArray))))) (c := (a)) (Gd.yes rfl rfl (decide_eq_true h11)) rfl rfl ?_
                      refine o_pickT (b := decide (((if okS ((if okS (a) && okS (b) then (toldS (numS (a) + numS (b))) else (({ data := #[] } : ByteArray)))) && okS (b) then (toldE (numS ((if okS (a) && okS (b) then (toldS (numS (a) + numS (b))) else (({ data := #[] } : ByteArray)))) - numS (b))) else (1))) = (0))) (bp (((if okS ((if okS (a) && okS (b) then (toldS (numS (a) + numS (b))) else (({ data := #[] } : ByteArray)))) && okS (b) then (toldS (numS ((if okS (a) && okS (b) then (toldS (numS (a) + numS (b))) else (({ data := #[] } : ByteArray)))) - numS (b))) else (({ data := #[] } : ByteArray)))).toList = (a).toList)) Gd.none rfl (decide_eq_true h11) rfl ?_
                      refine o_move (bp (((if okS ((if okS (a) && okS (b) then (toldS (numS (a) + numS (b))) else (({ data := #[] } : ByteArray)))) && okS (b) then (toldS (numS ((if okS (a) && okS (b) then (toldS (numS (a) + numS (b))) else (({ data := #[] } : ByteArray)))) - numS (b))) else (({ data := #[] } : ByteArray)))).toList = (a).toList)) Gd.none rfl ?_
                      refine o_splitP (q := ((if okS ((if okS (a) && okS (b) then (toldS (numS (a) + numS (b))) else (({ data := #[] } : ByteArray)))) && okS (b) then (toldS (numS ((if okS (a) && okS (b) then (toldS (numS (a) + numS (b))) else (({ data := #[] } : ByteArray)))) - numS (b))) else (({ data := #[] } : ByteArray)))).toList = (a).toList) 107 rfl (fun h12 => ?_) (fun h12 => ?_)
                      · refine o_call [] (AV.lit (.bool true)) (Gd.yes rfl rfl (decide_eq_true h12)) Wv2_tC49 rfl c_l1Awake ?_
                        refine o_pickT (b := decide (((if okS ((if okS (a) && okS (b) then (toldS (numS (a) + numS (b))) else (({ data := #[] } : ByteArray)))) && okS (b) then (toldS (numS ((if okS (a) && okS (b) then (toldS (numS (a) + numS (b))) else (({ data := #[] } : ByteArray)))) - numS (b))) else (({ data := #[] } : ByteArray)))).toList = (a).toList)) (AV.lit (.bool true)) Gd.none rfl (decide_eq_true h12) rfl ?_
                        refine o_assign (AV.lit (.bool true)) Gd.none rfl ?_
                        refine aops_end ?_
                        refine hK22 _ ?_
                        refine awp_ret ?_
                        refine post_ret ⟨[(AV.lit (.bool true))], And.intro (AV.le_refl _) (trivial), rfl, ?_⟩
                        first | rfl | simp [bp]
                      · refine o_skip (b := decide (((if okS ((if okS (a) && okS (b) then (toldS (numS (a) + numS (b))) else (({ data := #[] } : ByteArray)))) && okS (b) then (toldS (numS ((if okS (a) && okS (b) then (toldS (numS (a) + numS (b))) else (({ data := #[] } : ByteArray)))) - numS (b))) else (({ data := #[] } : ByteArray)))).toList = (a).toList)) rfl rfl (decide_eq_false h12) ?_
                        refine o_pickF (b := decide (((if okS ((if okS (a) && okS (b) then (toldS (numS (a) + numS (b))) else (({ data := #[] } : ByteArray)))) && okS (b) then (toldS (numS ((if okS (a) && okS (b) then (toldS (numS (a) + numS (b))) else (({ data := #[] } : ByteArray)))) - numS (b))) else (({ data := #[] } : ByteArray)))).toList = (a).toList)) (AV.lit (.bool false)) Gd.none rfl (decide_eq_false h12) rfl ?_
                        refine o_assign (AV.lit (.bool false)) Gd.none rfl ?_
                        refine aops_end ?_
                        refine hK22 _ ?_
                        refine awp_ret ?_
                        refine post_ret ⟨[(AV.lit (.bool false))], And.intro (AV.le_refl _) (trivial), rfl, ?_⟩
                        exact absurd (str_eq.2 (ring4 ha' hb' (Decidable.not_not.1 h9)).2) h12
                    · refine o_skip (b := decide (((if okS ((if okS (a) && okS (b) then (toldS (numS (a) + numS (b))) else (({ data := #[] } : ByteArray)))) && okS (b) then (toldE (numS ((if okS (a) && okS (b) then (toldS (numS (a) + numS (b))) else (({ data := #[] } : ByteArray)))) - numS (b))) else (1))) = (0))) rfl rfl (decide_eq_false h11) ?_
                      refine o_skip (b := decide (((if okS ((if okS (a) && okS (b) then (toldS (numS (a) + numS (b))) else (({ data := #[] } : ByteArray)))) && okS (b) then (toldE (numS ((if okS (a) && okS (b) then (toldS (numS (a) + numS (b))) else (({ data := #[] } : ByteArray)))) - numS (b))) else (1))) = (0))) rfl rfl (decide_eq_false h11) ?_
                      refine o_skip (b := decide (((if okS ((if okS (a) && okS (b) then (toldS (numS (a) + numS (b))) else (({ data := #[] } : ByteArray)))) && okS (b) then (toldE (numS ((if okS (a) && okS (b) then (toldS (numS (a) + numS (b))) else (({ data := #[] } : ByteArray)))) - numS (b))) else (1))) = (0))) rfl rfl (decide_eq_false h11) ?_
                      refine o_pickF (b := decide (((if okS ((if okS (a) && okS (b) then (toldS (numS (a) + numS (b))) else (({ data := #[] } : ByteArray)))) && okS (b) then (toldE (numS ((if okS (a) && okS (b) then (toldS (numS (a) + numS (b))) else (({ data := #[] } : ByteArray)))) - numS (b))) else (1))) = (0))) (AV.lit (.bool false)) Gd.none rfl (decide_eq_false h11) rfl ?_
                      refine o_move (AV.lit (.bool false)) Gd.none rfl ?_
                      refine o_skip (b := false) rfl rfl rfl ?_
                      refine o_pickF (b := false) (AV.lit (.bool false)) Gd.none rfl rfl rfl ?_
                      refine o_assign (AV.lit (.bool false)) Gd.none rfl ?_
                      refine aops_end ?_
                      refine hK22 _ ?_
                      refine awp_ret ?_
                      refine post_ret ⟨[(AV.lit (.bool false))], And.intro (AV.le_refl _) (trivial), rfl, ?_⟩
                      exact absurd (ring4 ha' hb' (Decidable.not_not.1 h9)).1 h11

end Go.Proofs.YtkngglpnejdicaaDoor
