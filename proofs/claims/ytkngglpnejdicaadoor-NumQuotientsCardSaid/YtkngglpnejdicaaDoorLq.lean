/- The quotient and the rest, in numbers. -/
import Derived.Test.YtkngglpnejdicaaDoorLp
set_option linter.unusedVariables false
set_option linter.unusedSimpArgs false
namespace Go.Mth
open Go.Ab
theorem txt_sz2 {z : Int} (h : Fit z) : (txt z).size ≤ 9223372036854775807 := by have := told_sz z; rwa [(told_fit h).1] at this
theorem qc0 {M : Int} (hf : Fit M) : (if okS (txt M) && okS ⟨#[48]⟩ then cmpZ (numS (txt M)) (numS ⟨#[48]⟩) else 0) = cmpZ M 0 ∧ (if okS (txt M) && okS ⟨#[48]⟩ then 0 else 1) = 0 := by
  rw [okS_iff.2 (okS_txt hf), numS_txt, ok_zero.1, ok_zero.2]; exact ⟨rfl, rfl⟩
theorem qcb {M : Int} {b : ByteArray} (hf : Fit M) (hb : okS b = true) : (if okS (txt M) && okS b then cmpZ (numS (txt M)) (numS b) else 0) = cmpZ M (numS b) ∧ (if okS (txt M) && okS b then 0 else 1) = 0 := by
  rw [okS_iff.2 (okS_txt hf), numS_txt, hb]; exact ⟨rfl, rfl⟩
theorem qs0 {M : Int} (hf : Fit M) : (if okS (txt M) && okS (txt M) then toldS (numS (txt M) - numS (txt M)) else { data := #[] }) = ⟨#[48]⟩ ∧ (if okS (txt M) && okS (txt M) then toldE (numS (txt M) - numS (txt M)) else 1) = 0 := by
  rw [okS_iff.2 (okS_txt hf), numS_txt, Int.sub_self]
  have h := told_fit (fit_tiny (z := 0) (by decide))
  exact ⟨h.1.trans txt_nil, h.2⟩
theorem qalike {a b : ByteArray} (ha : okS a = true) (hb : okS b = true) (h0 : 0 < numS b) : alikeS (sumS (proS b (txt (numS a / numS b))) (txt (numS a % numS b))) a := by
  have hq := fit_div (fit_numS (okS_iff.1 ha)) h0
  have hr := fit_mod (x := numS a) (fit_numS (okS_iff.1 hb)) h0
  rw [pro_yes hb (okS_iff.2 (okS_txt hq)), numS_txt]
  refine alike_of (sum_L _ (okS_iff.2 (okS_txt hr))) (.inr (told_self ha).symm) ?_
  rw [numS_txt]
  exact Int.mul_ediv_add_emod _ _
theorem cmp_lt0 {M : Int} (h : 0 ≤ M) : ¬ cmpZ M 0 < 0 := by unfold cmpZ; repeat' split <;> omega
theorem cmp_ltb {M B : Int} (h : M < B) : ¬ 0 ≤ cmpZ M B := by unfold cmpZ; repeat' split <;> omega
theorem num_pos {b : ByteArray} (hb : OkS b) (h0 : 0 < numS b) : numS b = ((dvk b 0 b.size : Nat) : Int) ∧ ∀ i, i < b.size → 48 ≤ byt b i ∧ byt b i ≤ 57 := by
  have hs : byt b 0 ≠ 45 := fun e => by
    unfold numS at h0
    rw [e] at h0
    simp [sg] at h0
    omega
  have hz : sgnAt b = 0 := if_neg hs
  obtain ⟨h1, h2, h3, h4⟩ := hb
  refine ⟨?_, fun i hi => h4 i (by omega) hi⟩
  unfold numS
  rw [hz, decide_eq_false hs, Nat.sub_zero]
  rfl
theorem dvk_next (b : ByteArray) (i : Nat) : 10 * dvk b 0 i + (byt b i - 48) = dvk b 0 (i + 1) := by rw [dvk, Nat.zero_add]
theorem dvk_nine {b : ByteArray} (h : ∀ i, i < b.size → 48 ≤ byt b i ∧ byt b i ≤ 57) {k : Nat} (hk : k ≤ b.size) (h9 : b.size ≤ 9) : dvk b 0 k < 1000000000 := by
  have h1 := dvk_lt (a := b) (s := 0) (k := k) (fun i _ hi => h i (by omega))
  have h2 : 10 ^ k ≤ 10 ^ 9 := Nat.pow_le_pow_right (by decide) (by omega)
  omega
end Go.Mth
