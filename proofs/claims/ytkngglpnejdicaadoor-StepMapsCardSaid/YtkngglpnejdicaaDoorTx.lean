/- Texts of numbers, and the numbers of texts. No program in sight. -/
import Derived.Test.YtkngglpnejdicaaDoorMap
set_option linter.unusedVariables false
namespace Go.Mth
open Go.Ab
/-- The number that bytes are, the highest digit first. -/
def bv : List Nat → Nat := fun l => l.foldl (fun v b => 10 * v + (b - 48)) 0
theorem bv_snoc (l : List Nat) (b : Nat) : bv (l ++ [b]) = 10 * bv l + (b - 48) := by simp [bv]
def DigB (l : List Nat) : Prop := ∀ x ∈ l, 48 ≤ x ∧ x ≤ 57
theorem decs_digB (n : Nat) : DigB (decs n) := by
  induction n using Nat.strongRecOn with
  | _ n ih =>
    by_cases h : n = 0
    · subst h; rw [decs_zero]; intro x hx; cases hx
    · rw [decs_pos (by omega)]
      intro x hx
      rcases List.mem_cons.1 hx with e | e
      · omega
      · exact ih (n / 10) (by omega) x e
theorem bv_decs (n : Nat) : bv (decs n).reverse = n := by
  induction n using Nat.strongRecOn with
  | _ n ih =>
    by_cases h : n = 0
    · subst h; rw [decs_zero]; rfl
    · rw [decs_pos (by omega), List.reverse_cons, bv_snoc, ih (n / 10) (by omega)]
      omega
theorem decs_last {n : Nat} (h : 0 < n) : ∃ l b, decs n = l ++ [b] ∧ b ≠ 48 := by
  induction n using Nat.strongRecOn with
  | _ n ih =>
    rw [decs_pos h]
    by_cases h10 : n / 10 = 0
    · rw [h10, decs_zero]
      exact ⟨[], _, rfl, by omega⟩
    · obtain ⟨l, b, e, hb⟩ := ih (n / 10) (by omega) (by omega)
      exact ⟨_ :: l, b, by rw [e]; rfl, hb⟩
theorem decs_bv : ∀ (l : List Nat), DigB l → (∀ b r, l = r ++ [b] → b ≠ 48) → decs (bv l.reverse) = l
  | [], _, _ => by simp [bv, decs_zero]
  | x :: l, hd, hl => by
    have hx := hd x (by simp)
    have ih := decs_bv l (fun y hy => hd y (by simp [hy])) (fun b r e => hl b (x :: r) (by rw [e]; rfl))
    rw [List.reverse_cons, bv_snoc]
    have hpos : 0 < 10 * bv l.reverse + (x - 48) := by
      cases l with
      | nil =>
        have := hl x [] rfl
        omega
      | cons y l =>
        have : bv (y :: l).reverse ≠ 0 := fun e => by rw [e, decs_zero] at ih; cases ih
        omega
    rw [decs_pos hpos, show (10 * bv l.reverse + (x - 48)) / 10 = bv l.reverse by omega, show (10 * bv l.reverse + (x - 48)) % 10 = x - 48 by omega, ih, show 48 + (x - 48) = x by omega]
theorem dvk_bv {a : ByteArray} {s : Nat} : ∀ {k : Nat}, s + k ≤ a.size → dvk a s k = bv (((byts a).drop s).take k)
  | 0, _ => by simp [dvk, bv]
  | k + 1, h => by
    have hl : s + k < (byts a).length := by rw [byts_len]; omega
    have e : ((byts a).drop s).take (k + 1) = ((byts a).drop s).take k ++ [(byts a).getD (s + k) 0] := by
      rw [List.take_add_one, List.getElem?_drop, List.getElem?_eq_getElem hl, List.getD_eq_getElem?_getD, List.getElem?_eq_getElem hl]
      rfl
    rw [dvk, dvk_bv (k := k) (by omega), e, bv_snoc, byt_byts]
theorem dvk_all {a : ByteArray} {s : Nat} (h : s ≤ a.size) : dvk a s (a.size - s) = bv ((byts a).drop s) := by
  rw [dvk_bv (by omega), List.take_of_length_le (by rw [List.length_drop, byts_len]; omega)]
theorem txt_len (z : Int) : (txt z).size = (txtL z).length := by rw [← byts_txt, byts_len]
theorem byt_txt (z : Int) (i : Nat) : byt (txt z) i = (txtL z).getD i 0 := by rw [byt_byts, byts_txt]
theorem txtL_pos {z : Int} (h : 0 < z) : txtL z = (decs z.natAbs).reverse := by unfold txtL; rw [if_neg (by omega), if_neg (by omega)]; rfl
theorem txtL_neg {z : Int} (h : z < 0) : txtL z = 45 :: (decs z.natAbs).reverse := by unfold txtL; rw [if_neg (by omega), if_pos h]; rfl
theorem decs_ne {n : Nat} (h : 0 < n) : 0 < (decs n).length := by rw [decs_pos h]; simp
theorem rev_head {n : Nat} (h : 0 < n) : 48 ≤ (decs n).reverse.getD 0 0 ∧ (decs n).reverse.getD 0 0 ≤ 57 ∧ (decs n).reverse.getD 0 0 ≠ 48 := by
  obtain ⟨l, b, e, hb⟩ := decs_last h
  have hd := decs_digB n b (by rw [e]; simp)
  rw [e]
  simp only [List.reverse_append, List.reverse_cons, List.reverse_nil, List.nil_append, List.cons_append, List.getD_cons_zero]
  exact ⟨hd.1, hd.2, hb⟩
theorem sgnAt_txt (z : Int) : sgnAt (txt z) = if z < 0 then 1 else 0 := by
  unfold sgnAt
  rw [byt_txt]
  by_cases hz : z < 0
  · rw [txtL_neg hz, if_pos hz]; rfl
  · rw [if_neg hz]
    by_cases h0 : z = 0
    · subst h0; rfl
    · rw [txtL_pos (by omega)]
      have := rev_head (n := z.natAbs) (by omega)
      rw [if_neg (by omega)]
theorem numS_txt (z : Int) : numS (txt z) = z := by
  unfold numS
  rw [sgnAt_txt]
  by_cases hz : z < 0
  · rw [if_pos hz]
    have hb : byt (txt z) 0 = 45 := by rw [byt_txt, txtL_neg hz]; rfl
    rw [hb, dvk_all (by rw [txt_len, txtL_neg hz]; simp), byts_txt, txtL_neg hz, List.drop_succ_cons, List.drop_zero, bv_decs]
    simp only [sg, decide_true, if_true]
    omega
  · rw [if_neg hz]
    have hb : ¬ byt (txt z) 0 = 45 := by
      intro h
      have := sgnAt_txt z
      unfold sgnAt at this
      rw [if_pos h, if_neg hz] at this
      cases this
    rw [decide_eq_false hb, dvk_all (by omega), byts_txt, List.drop_zero]
    by_cases h0 : z = 0
    · subst h0; rfl
    · rw [txtL_pos (by omega), bv_decs]
      simp only [sg, Bool.false_eq_true, if_false]
      omega
theorem ndig_pos (n : Nat) : 0 < ndig n := by
  unfold ndig
  split
  · decide
  · exact decs_ne (by omega)
theorem okS_txt {z : Int} (hf : Fit z) : OkS (txt z) := by
  have hs := sgnAt_txt z
  by_cases hz : z < 0
  · rw [if_pos hz] at hs
    have hn : ndig z.natAbs = (decs z.natAbs).length := by unfold ndig; rw [if_neg (by omega)]
    unfold Fit at hf
    have hp := decs_ne (n := z.natAbs) (by omega)
    have hh := rev_head (n := z.natAbs) (by omega)
    refine ⟨by rw [hs, txt_len, txtL_neg hz]; simp; omega, by rw [hs, txt_len, txtL_neg hz]; simp; omega, fun h => ?_, fun i h1 h2 => ?_⟩
    · rw [hs, byt_txt, txtL_neg hz, List.getD_cons_succ] at h
      exact hh.2.2 h.1
    · rw [hs] at h1
      rw [txt_len, txtL_neg hz] at h2
      rw [byt_txt, txtL_neg hz]
      obtain ⟨j, rfl⟩ : ∃ j, i = j + 1 := ⟨i - 1, by omega⟩
      rw [List.getD_cons_succ]
      have hj : j < (decs z.natAbs).reverse.length := by simpa using h2
      rw [List.getD_eq_getElem?_getD, List.getElem?_eq_getElem hj]
      exact decs_digB _ _ (List.mem_reverse.1 (List.getElem_mem hj))
  · rw [if_neg hz] at hs
    by_cases h0 : z = 0
    · subst h0
      refine ⟨by rw [hs]; decide, by rw [hs]; decide, by rw [hs]; decide, fun i h1 h2 => ?_⟩
      have : i = 0 := by rw [txt_zero] at h2; simp [ByteArray.size] at h2; omega
      subst this
      rw [txt_zero]
      decide
    · have hn : ndig z.natAbs = (decs z.natAbs).length := by unfold ndig; rw [if_neg (by omega)]
      unfold Fit at hf
      have hp := decs_ne (n := z.natAbs) (by omega)
      have hh := rev_head (n := z.natAbs) (by omega)
      refine ⟨by rw [hs, txt_len, txtL_pos (by omega)]; simpa using hp, by rw [hs, txt_len, txtL_pos (by omega)]; simp; omega, fun h => ?_, fun i h1 h2 => ?_⟩
      · rw [hs, byt_txt, txtL_pos (by omega)] at h
        exact hh.2.2 h.1
      · rw [txt_len, txtL_pos (by omega)] at h2
        rw [byt_txt, txtL_pos (by omega), List.getD_eq_getElem?_getD, List.getElem?_eq_getElem h2]
        exact decs_digB _ _ (List.mem_reverse.1 (List.getElem_mem h2))
/-- A valid string is the text of its number. -/
theorem txt_numS {a : ByteArray} (h : OkS a) : txt (numS a) = a := by
  obtain ⟨o1, o2, o3, o4⟩ := h
  refine byts_inj ?_
  rw [byts_txt]
  have hdig : DigB ((byts a).drop (sgnAt a)) := fun x hx => by
    obtain ⟨i, hi, rfl⟩ := List.mem_iff_getElem.1 hx
    rw [List.length_drop, byts_len] at hi
    have := o4 (sgnAt a + i) (by omega) (by omega)
    rw [byt_byts, List.getD_eq_getElem?_getD, List.getElem?_eq_getElem (by rw [byts_len]; omega)] at this
    simpa using this
  have hnum : numS a = sg (decide (byt a 0 = 45)) (bv ((byts a).drop (sgnAt a))) := by unfold numS; rw [dvk_all (by omega)]
  have hhead : ∀ (x : Nat) (r : List Nat), (byts a).drop (sgnAt a) = x :: r → x = byt a (sgnAt a) := fun x r e => by
    rw [byt_byts]
    have := congrArg (·[0]?) e
    simp only [List.getElem?_drop, Nat.add_zero, List.getElem?_cons_zero] at this
    rw [List.getD_eq_getElem?_getD, this]
    rfl
  have hne : (byts a).drop (sgnAt a) ≠ [] := by
    intro e
    have := congrArg List.length e
    rw [List.length_drop, byts_len] at this
    simp at this
    omega
  by_cases hz : a.size = 1 ∧ byt a 0 = 48
  · have hs : sgnAt a = 0 := by unfold sgnAt; rw [if_neg (by omega)]
    have hb : byts a = [48] := by
      obtain ⟨x, r, e⟩ : ∃ x r, byts a = x :: r := by
        cases e : byts a with
        | nil => rw [hs, List.drop_zero] at hne; exact absurd e hne
        | cons x r => exact ⟨x, r, rfl⟩
      have hl := congrArg List.length e
      rw [byts_len] at hl
      have hx := hhead x r (by rw [hs]; exact e)
      rw [hs] at hx
      have : r = [] := List.eq_nil_of_length_eq_zero (by simp at hl; omega)
      rw [e, this, hx, hz.2]
    rw [hnum, hs, hb]
    have : ¬ byt a 0 = 45 := by omega
    rw [decide_eq_false this]
    decide
  · have hcan : decs (bv ((byts a).drop (sgnAt a))) = ((byts a).drop (sgnAt a)).reverse := by
      have := decs_bv ((byts a).drop (sgnAt a)).reverse (fun x hx => hdig x (List.mem_reverse.1 hx)) (fun b r e => by
        have e2 : (byts a).drop (sgnAt a) = b :: r.reverse := by
          have := congrArg List.reverse e
          simpa using this
        have hb := hhead b _ e2
        intro h48
        have hl := congrArg List.length e2
        rw [List.length_drop, byts_len] at hl
        simp at hl
        by_cases hsz : 1 < a.size
        · exact o3 ⟨by omega, hsz⟩
        · have : sgnAt a = 0 := by omega
          rw [this] at hb
          exact hz ⟨by omega, by omega⟩)
      rw [List.reverse_reverse] at this
      exact this
    have hpos : 0 < bv ((byts a).drop (sgnAt a)) := by
      rcases Nat.eq_zero_or_pos (bv ((byts a).drop (sgnAt a))) with h0 | h0
      · rw [h0, decs_zero] at hcan
        have := congrArg List.length hcan
        simp at this
        rw [byts_len] at this
        omega
      · exact h0
    rw [hnum]
    by_cases hneg : byt a 0 = 45
    · have hs : sgnAt a = 1 := if_pos hneg
      rw [decide_eq_true hneg, txtL_neg (by simp [sg]; omega)]
      have e1 : (sg true (bv ((byts a).drop (sgnAt a)))).natAbs = bv ((byts a).drop (sgnAt a)) := by simp [sg]
      rw [e1, hcan, List.reverse_reverse, hs]
      cases e : byts a with
      | nil => rw [e] at hne; simp at hne
      | cons x r =>
        have : x = 45 := by rw [← hneg, byt_byts, e]; rfl
        rw [this]; rfl
    · have hs : sgnAt a = 0 := if_neg hneg
      rw [decide_eq_false hneg, txtL_pos (by simp [sg]; omega)]
      have e1 : (sg false (bv ((byts a).drop (sgnAt a)))).natAbs = bv ((byts a).drop (sgnAt a)) := by simp [sg]
      rw [e1, hcan, List.reverse_reverse, hs, List.drop_zero]
theorem txt_inj {x y : Int} (h : txt x = txt y) : x = y := by rw [← numS_txt x, ← numS_txt y, h]
theorem numS_inj {a b : ByteArray} (ha : OkS a) (hb : OkS b) (h : numS a = numS b) : a = b := by rw [← txt_numS ha, ← txt_numS hb, h]
end Go.Mth
