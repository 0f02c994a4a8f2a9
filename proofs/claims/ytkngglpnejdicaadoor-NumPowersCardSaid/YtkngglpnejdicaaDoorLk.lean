/- The examples of the first chapter. -/
import Derived.Test.YtkngglpnejdicaaDoorQz
set_option linter.unusedVariables false
set_option linter.unusedSimpArgs false
namespace Go.Mth
open Go.Ab
theorem txt_m7 : txt (-7) = ⟨#[45, 55]⟩ := by
  simp [txt, txtL, decs, strN]
  rfl
theorem txt_m4 : txt (-4) = ⟨#[45, 52]⟩ := by
  simp [txt, txtL, decs, strN]
  rfl
theorem txt_m17 : txt (-17) = ⟨#[45, 49, 55]⟩ := by
  simp [txt, txtL, decs, strN]
  rfl
theorem txt_two : txt 2 = ⟨#[50]⟩ := by
  simp [txt, txtL, decs, strN]
  rfl
theorem txt_nil : txt 0 = ⟨#[48]⟩ := by
  simp [txt, txtL]
  rfl
theorem fit_tiny {z : Int} (h : z.natAbs < 100) : Fit z := fit_of_pow (k := 2) h (by decide) (by decide)
theorem ok_of_txt {a : ByteArray} {z : Int} (h : txt z = a) (hz : z.natAbs < 100) : okS a = true ∧ numS a = z := by
  subst h
  exact ⟨okS_iff.2 (okS_txt (fit_tiny hz)), numS_txt z⟩
theorem ex_div : divQ ⟨#[45, 55]⟩ ⟨#[50]⟩ = ⟨#[45, 52]⟩ ∧ divR ⟨#[45, 55]⟩ ⟨#[50]⟩ = ⟨#[49]⟩ ∧ divE ⟨#[45, 55]⟩ ⟨#[50]⟩ = 0 := by
  have ha := ok_of_txt txt_m7 (by decide)
  have hb := ok_of_txt txt_two (by decide)
  have h := div_yes ⟨ha.1, hb.1⟩ (by rw [hb.2]; decide)
  rw [ha.2, hb.2] at h
  exact ⟨h.1.trans txt_m4, h.2.1.trans txt_one, h.2.2⟩
theorem not_fit {z : Int} {j : Nat} (hj : 2000 ≤ j) (h : 10 ^ j ≤ z.natAbs) : ¬ Fit z := by
  intro hf
  have hp : 0 < z.natAbs := Nat.lt_of_lt_of_le (Nat.pow_pos (by decide)) h
  unfold Fit ndig at hf
  rw [if_neg (by omega)] at hf
  have h3 := decs_hi z.natAbs
  generalize (decs z.natAbs).length = k at h3 hf
  have h5 := (Nat.pow_lt_pow_iff_right (by decide : 1 < 10)).1 (Nat.lt_of_le_of_lt h h3)
  omega
theorem pow2_big {n m : Nat} (h : n = 4 * m) (hm : 2000 ≤ m) : ¬ Fit ((2 : Int) ^ n) := by
  refine not_fit hm ?_
  rw [h, Int.natAbs_pow, Nat.pow_mul]
  exact Nat.pow_le_pow_left (by decide) m
theorem ex_pow1 : powE ⟨#[50]⟩ 10000 = 3 := by
  have hb := ok_of_txt txt_two (by decide)
  have h := (pow_yes hb.1 (n := 10000) ⟨by decide, by decide⟩).2
  rw [hb.2] at h
  exact h.trans (told_big (pow2_big (m := 2500) (by decide) (by decide))).2
theorem two_hundred : (2 : Int) ^ 100 = 1267650600228229401496703205376 := by decide
theorem txt_hundred : txt 1267650600228229401496703205376 = ⟨#[49, 50, 54, 55, 54, 53, 48, 54, 48, 48, 50, 50, 56, 50, 50, 57, 52, 48, 49, 52, 57, 54, 55, 48, 51, 50, 48, 53, 51, 55, 54]⟩ := by
  simp [txt, txtL, decs, strN]
  rfl
theorem ex_pow2 : powS ⟨#[50]⟩ 100 = ⟨#[49, 50, 54, 55, 54, 53, 48, 54, 48, 48, 50, 50, 56, 50, 50, 57, 52, 48, 49, 52, 57, 54, 55, 48, 51, 50, 48, 53, 51, 55, 54]⟩ ∧ powE ⟨#[50]⟩ 100 = 0 := by
  have hb := ok_of_txt txt_two (by decide)
  have h := pow_yes hb.1 (n := 100) ⟨by decide, by decide⟩
  rw [hb.2, show (100 : Int).toNat = 100 by rfl, two_hundred] at h
  have hf : Fit 1267650600228229401496703205376 := fit_of_pow (k := 40) (by decide) (by decide) (by decide)
  exact ⟨h.1.trans ((told_fit hf).1.trans txt_hundred), h.2.trans (told_fit hf).2⟩
theorem ok_m17 : okS ⟨#[45, 49, 55]⟩ = true := (ok_of_txt txt_m17 (by decide)).1
theorem no_007 : okS ⟨#[48, 48, 55]⟩ = false := okS_no fun h => h.2.2.1 ⟨by decide, by decide⟩
theorem no_m0 : okS ⟨#[45, 48]⟩ = false := okS_no fun h => h.2.2.1 ⟨by decide, by decide⟩
theorem no_p1 : okS ⟨#[43, 49]⟩ = false := okS_no fun h => absurd (h.2.2.2 0 (by decide) (by decide)).1 (by decide)
theorem no_e : okS ⟨#[]⟩ = false := okS_no fun h => absurd h.1 (by decide)
noncomputable def sumS (a b : ByteArray) : ByteArray := if okS a && okS b then toldS (numS a + numS b) else { data := #[] }
noncomputable def proS (a b : ByteArray) : ByteArray := if okS a && okS b then toldS (numS a * numS b) else { data := #[] }
def alikeS (a b : ByteArray) : Prop := a = { data := #[] } ∨ b = { data := #[] } ∨ a = b
noncomputable instance (a b : ByteArray) : Decidable (alikeS a b) := Classical.propDecidable _
def divsS (d n : ByteArray) : Prop := divE n d = 0 ∧ divR n d = ⟨#[48]⟩
noncomputable instance (d n : ByteArray) : Decidable (divsS d n) := Classical.propDecidable _
theorem sum_yes {a b : ByteArray} (ha : okS a = true) (hb : okS b = true) : sumS a b = toldS (numS a + numS b) := by unfold sumS; rw [ha, hb]; rfl
theorem pro_yes {a b : ByteArray} (ha : okS a = true) (hb : okS b = true) : proS a b = toldS (numS a * numS b) := by unfold proS; rw [ha, hb]; rfl
theorem sum_no {a b : ByteArray} (h : okS a = false ∨ okS b = false) : sumS a b = { data := #[] } := by unfold sumS; rcases h with h | h <;> rw [h] <;> simp
theorem pro_no {a b : ByteArray} (h : okS a = false ∨ okS b = false) : proS a b = { data := #[] } := by unfold proS; rcases h with h | h <;> rw [h] <;> simp
theorem told_sz (z : Int) : (toldS z).size ≤ 9223372036854775807 := by
  unfold toldS
  split
  · rename_i h
    rw [txt_len]
    have : (txtL z).length ≤ 2001 := by
      unfold txtL
      have hn := h
      unfold Fit ndig at hn
      split
      · simp
      · rename_i h0
        rw [if_neg (by omega)] at hn
        split <;> simp <;> omega
    omega
  · decide
theorem sum_sz (a b : ByteArray) : (sumS a b).size ≤ 9223372036854775807 := by unfold sumS; split; exact told_sz _; decide
theorem pro_sz (a b : ByteArray) : (proS a b).size ≤ 9223372036854775807 := by unfold proS; split; exact told_sz _; decide
theorem pow_sz (a : ByteArray) (n : Int) : (powS a n).size ≤ 9223372036854775807 := by unfold powS; split; exact told_sz _; decide
/-- What is told of a number: valid, and that number; or nothing. -/
theorem told_or (z : Int) : (Fit z ∧ okS (toldS z) = true ∧ numS (toldS z) = z) ∨ (¬ Fit z ∧ toldS z = { data := #[] } ∧ okS (toldS z) = false) := by
  by_cases h : Fit z
  · refine .inl ⟨h, ?_⟩
    rw [(told_fit h).1]
    exact ⟨okS_iff.2 (okS_txt h), numS_txt z⟩
  · refine .inr ⟨h, (told_big h).1, ?_⟩
    rw [(told_big h).1]
    exact no_e
theorem ok_ne {a : ByteArray} (h : okS a = true) : a ≠ { data := #[] } := fun e => by rw [e, no_e] at h; exact absurd h (by decide)
end Go.Mth
