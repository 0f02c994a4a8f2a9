/- The answers of Divide, Power and Rest on strings, and why a power is too long. -/
import Derived.Test.YtkngglpnejdicaaDoorQy
set_option linter.unusedVariables false
set_option linter.unusedSimpArgs false
namespace Go.Mth
open Go.Ab
theorem decs_hi (n : Nat) : n < 10 ^ (decs n).length := by
  induction n using Nat.strongRecOn with
  | _ n ih =>
    by_cases h : n = 0
    · subst h; rw [decs_zero]; decide
    · rw [decs_pos (by omega), List.length_cons, Nat.pow_succ]
      have := ih (n / 10) (by omega)
      omega
theorem decs_lo {n : Nat} (h : 0 < n) : 10 ^ ((decs n).length - 1) ≤ n := by
  induction n using Nat.strongRecOn with
  | _ n ih =>
    rw [decs_pos h, List.length_cons, Nat.add_sub_cancel]
    by_cases h1 : n / 10 = 0
    · rw [h1, decs_zero]; exact h
    · have := ih (n / 10) (by omega) (by omega)
      have hl : 0 < (decs (n / 10)).length := decs_ne (by omega)
      obtain ⟨l, hl'⟩ : ∃ l, (decs (n / 10)).length = l + 1 := ⟨(decs (n / 10)).length - 1, by omega⟩
      rw [hl', Nat.add_sub_cancel] at this
      rw [hl', Nat.pow_succ]
      omega
theorem ndig_mono {m n : Nat} (h : m ≤ n) : ndig m ≤ ndig n := by
  unfold ndig
  split
  · split
    · exact Nat.le_refl _
    · exact decs_ne (by omega)
  · rw [if_neg (by omega)]
    exact decs_len_lt (Nat.lt_of_le_of_lt h (decs_hi n))
theorem fit_le {x y : Int} (h : x.natAbs ≤ y.natAbs) (hy : Fit y) : Fit x := Nat.le_trans (ndig_mono h) hy
theorem fit_div {x y : Int} (hx : Fit x) (hy : 0 < y) : Fit (x / y) := by
  refine fit_le ?_ hx
  by_cases h : x < 0
  · have h1 : x ≤ x / y := by
      rw [Int.le_ediv_iff_mul_le hy]
      have := Int.mul_le_mul_of_nonpos_left (show x ≤ 0 by omega) (show (1 : Int) ≤ y by omega)
      omega
    have h2 : x / y < 0 := Int.ediv_neg_of_neg_of_pos h hy
    omega
  · have h1 : 0 ≤ x / y := Int.ediv_nonneg (by omega) (by omega)
    have h2 : x / y ≤ x := Int.ediv_le_self y (by omega)
    omega
theorem fit_mod {x y : Int} (hy : Fit y) (h0 : 0 < y) : Fit (x % y) := by
  have h1 := Int.emod_nonneg x (show y ≠ 0 by omega)
  have h2 := Int.emod_lt_of_pos x h0
  exact fit_le (by omega) hy
theorem pow_big {x : Int} {n : Nat} (h : 2000 ≤ (ndig x.natAbs - 1) * n) : ¬ Fit (x ^ n) := by
  intro hf
  have hx : 0 < x.natAbs := by
    rcases Nat.eq_zero_or_pos x.natAbs with e | e
    · rw [e] at h; simp [ndig] at h
    · exact e
  have hd : ndig x.natAbs = (decs x.natAbs).length := by unfold ndig; rw [if_neg (by omega)]
  rw [hd] at h
  have h1 := Nat.pow_le_pow_left (decs_lo hx) n
  rw [← Nat.pow_mul] at h1
  have h2 : (x ^ n).natAbs = x.natAbs ^ n := Int.natAbs_pow x n
  have hp : 0 < (x ^ n).natAbs := by rw [h2]; exact Nat.pow_pos hx
  unfold Fit ndig at hf
  rw [if_neg (by omega)] at hf
  have h3 := decs_hi (x ^ n).natAbs
  rw [h2] at h3 hf
  generalize hk : (decs (x.natAbs ^ n)).length = k at h3 hf
  generalize hm : ((decs x.natAbs).length - 1) * n = j at h1 h
  have h4 : 10 ^ j < 10 ^ k := Nat.lt_of_le_of_lt h1 h3
  have h5 := (Nat.pow_lt_pow_iff_right (by decide : 1 < 10)).1 h4
  omega
noncomputable def divQ (a b : ByteArray) : ByteArray := if okS a = true ∧ okS b = true ∧ 0 < numS b then txt (numS a / numS b) else { data := #[] }
noncomputable def divR (a b : ByteArray) : ByteArray := if okS a = true ∧ okS b = true ∧ 0 < numS b then txt (numS a % numS b) else { data := #[] }
noncomputable def divE (a b : ByteArray) : Nat := if okS a = true ∧ okS b = true then (if 0 < numS b then 0 else 2) else 1
def powIn (n : Int) : Prop := 0 ≤ n ∧ n ≤ 10000
instance (n : Int) : Decidable (powIn n) := inferInstanceAs (Decidable (0 ≤ n ∧ n ≤ 10000))
noncomputable def powS (a : ByteArray) (n : Int) : ByteArray := if okS a = true ∧ powIn n then toldS (numS a ^ n.toNat) else { data := #[] }
noncomputable def powE (a : ByteArray) (n : Int) : Nat := if okS a = true then (if powIn n then toldE (numS a ^ n.toNat) else 2) else 1
def rstIn (d : Int) : Prop := 1 ≤ d ∧ d ≤ 2147483647
instance (d : Int) : Decidable (rstIn d) := inferInstanceAs (Decidable (1 ≤ d ∧ d ≤ 2147483647))
noncomputable def rstV (a : ByteArray) (d : Int) : Int := if okS a = true ∧ rstIn d then numS a % d else 0
noncomputable def rstE (a : ByteArray) (d : Int) : Nat := if okS a = true then (if rstIn d then 0 else 2) else 1
theorem str_as2 {a b : ByteArray} (h : a = b) : AV.lit (.string a) = AV.lit (.string b) := by rw [h]
theorem div_no {a b : ByteArray} (h : ¬ (okS a = true ∧ okS b = true)) : divQ a b = { data := #[] } ∧ divR a b = { data := #[] } ∧ divE a b = 1 :=
  ⟨if_neg fun e => h ⟨e.1, e.2.1⟩, if_neg fun e => h ⟨e.1, e.2.1⟩, if_neg h⟩
theorem div_arg {a b : ByteArray} (h : okS a = true ∧ okS b = true) (h0 : ¬ 0 < numS b) : divQ a b = { data := #[] } ∧ divR a b = { data := #[] } ∧ divE a b = 2 :=
  ⟨if_neg fun e => h0 e.2.2, if_neg fun e => h0 e.2.2, by unfold divE; rw [if_pos h, if_neg h0]⟩
theorem div_yes {a b : ByteArray} (h : okS a = true ∧ okS b = true) (h0 : 0 < numS b) : divQ a b = txt (numS a / numS b) ∧ divR a b = txt (numS a % numS b) ∧ divE a b = 0 :=
  ⟨if_pos ⟨h.1, h.2, h0⟩, if_pos ⟨h.1, h.2, h0⟩, by unfold divE; rw [if_pos h, if_pos h0]⟩
theorem pow_no {a : ByteArray} {n : Int} (h : ¬ okS a = true) : powS a n = { data := #[] } ∧ powE a n = 1 := ⟨if_neg fun e => h e.1, if_neg h⟩
theorem pow_arg {a : ByteArray} {n : Int} (h : okS a = true) (hn : ¬ powIn n) : powS a n = { data := #[] } ∧ powE a n = 2 := ⟨if_neg fun e => hn e.2, by unfold powE; rw [if_pos h, if_neg hn]⟩
theorem pow_yes {a : ByteArray} {n : Int} (h : okS a = true) (hn : powIn n) : powS a n = toldS (numS a ^ n.toNat) ∧ powE a n = toldE (numS a ^ n.toNat) := ⟨if_pos ⟨h, hn⟩, by unfold powE; rw [if_pos h, if_pos hn]⟩
theorem told_big {z : Int} (h : ¬ Fit z) : toldS z = { data := #[] } ∧ toldE z = 3 := ⟨if_neg h, if_neg h⟩
theorem told_fit {z : Int} (h : Fit z) : toldS z = txt z ∧ toldE z = 0 := ⟨if_pos h, if_pos h⟩
theorem pow_long {a : ByteArray} {n : Int} (h : okS a = true) (hn : powIn n) (hb : 2000 ≤ (ndig (numS a).natAbs - 1) * n.toNat) : powS a n = { data := #[] } ∧ powE a n = 3 := by
  have := pow_yes h hn
  have h2 := told_big (pow_big hb)
  exact ⟨this.1.trans h2.1, this.2.trans h2.2⟩
theorem txt_one : txt 1 = ⟨#[49]⟩ := by
  simp [txt, txtL, decs, strN]
  rfl
theorem pow_zero {a : ByteArray} (h : okS a = true) : powS a 0 = { data := #[49] } ∧ powE a 0 = 0 := by
  have := pow_yes h (n := 0) ⟨by decide, by decide⟩
  rw [this.1, this.2]
  show toldS (numS a ^ 0) = _ ∧ toldE (numS a ^ 0) = _
  rw [Int.pow_zero]
  have hf : Fit 1 := fit_of_pow (k := 1) (by decide) (by decide) (by decide)
  exact ⟨(told_fit hf).1.trans txt_one, (told_fit hf).2⟩
theorem rst_no {a : ByteArray} {d : Int} (h : ¬ okS a = true) : rstV a d = 0 ∧ rstE a d = 1 := ⟨if_neg fun e => h e.1, if_neg h⟩
theorem rst_arg {a : ByteArray} {d : Int} (h : okS a = true) (hn : ¬ rstIn d) : rstV a d = 0 ∧ rstE a d = 2 := ⟨if_neg fun e => hn e.2, by unfold rstE; rw [if_pos h, if_neg hn]⟩
theorem rst_yes {a : ByteArray} {d : Int} (h : okS a = true) (hn : rstIn d) : rstV a d = numS a % d ∧ rstE a d = 0 := ⟨if_pos ⟨h, hn⟩, by unfold rstE; rw [if_pos h, if_pos hn]⟩
end Go.Mth
