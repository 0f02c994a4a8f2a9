/- Whole numbers: quotients, common divisors and powers, as the program computes them. -/
import Derived.Test.YtkngglpnejdicaaDoorQx
set_option linter.unusedVariables false
set_option linter.unusedSimpArgs false
namespace Go.Mth
open Go.Ab
abbrev qN (x y : Int) : Nat := val (dgn (digs x.natAbs).length (x.natAbs / y.natAbs))
abbrev rN (x y : Int) : Nat := val (digs (x.natAbs % y.natAbs))
theorem qN_eq (x y : Int) : qN x y = x.natAbs / y.natAbs := val_quo _ _
theorem rN_eq (x y : Int) : rN x y = x.natAbs % y.natAbs := val_digs _
theorem len_qN (b : Bool) (x y : Int) : (digs (sg b (qN x y)).natAbs).length ≤ (digs x.natAbs).length := by
  rw [sg_abs, qN_eq]; exact digs_len_le (Nat.div_le_self _ _)
theorem len_rN (b : Bool) (x y : Int) : (digs (sg b (rN x y)).natAbs).length ≤ (digs x.natAbs).length := by
  rw [sg_abs, rN_eq]; exact digs_len_le (Nat.mod_le _ _)
theorem div1 {x y : Int} (hx : ¬ x < 0) (hy : 0 < y) : x / y = sg false (qN x y) ∧ x % y = sg false (rN x y) := by
  have h := part1 (d := y.natAbs) hx (by omega) (qN_eq x y) (rN_eq x y)
  rw [show ((y.natAbs : Nat) : Int) = y by omega] at h
  exact ⟨h.1, h.2⟩
theorem sgn_neg {z : Int} : sgn z < 0 ↔ z < 0 := by unfold sgn; repeat' split <;> omega
theorem sgn_pos {z : Int} : 0 < sgn z ↔ 0 < z := by unfold sgn; repeat' split <;> omega
theorem sgn_le {z : Int} : sgn z ≤ 0 ↔ z ≤ 0 := by unfold sgn; repeat' split <;> omega
theorem div2 {x y : Int} (hx : x < 0) (hy : 0 < y) (h : sgn (sg true (rN x y)) < 0) : x / y = sg true (qN x y) - 1 ∧ x % y = sg true (rN x y) + y := by
  have h0 := (sg_neg true _).1 (sgn_neg.1 h)
  have h := part3 (d := y.natAbs) hx (by omega) (qN_eq x y) (rN_eq x y) (by omega)
  rw [show ((y.natAbs : Nat) : Int) = y by omega] at h
  simp only [sg, if_true]
  exact ⟨h.1, by rw [h.2]; omega⟩
theorem div3 {x y : Int} (hx : x < 0) (hy : 0 < y) (h : ¬ sgn (sg true (rN x y)) < 0) : x / y = sg true (qN x y) ∧ x % y = sg true (rN x y) := by
  have h0 : rN x y = 0 := by
    rcases Nat.eq_zero_or_pos (rN x y) with e | e
    · exact e
    · exact absurd (sgn_neg.2 ((sg_neg true _).2 ⟨rfl, e⟩)) h
  have h := part2 (d := y.natAbs) hx (by omega) (qN_eq x y) (rN_eq x y) h0
  rw [show ((y.natAbs : Nat) : Int) = y by omega] at h
  simp only [sg, if_true]
  exact ⟨h.1, by rw [h.2, h0]; rfl⟩
theorem gcd_next {u v g : Nat} (h : Nat.gcd u v = g) : Nat.gcd v (u % v) = g := by rw [← h, Nat.gcd_comm u v, Nat.gcd_rec v u, Nat.gcd_comm]
theorem gcd_end {u v g : Nat} (h : Nat.gcd u v = g) (hv : v = 0) : g = u := by subst hv; simpa using h.symm
theorem len_gcd (x y : Int) : (digs (((Int.gcd x y : Nat) : Int)).natAbs).length ≤ max (digs x.natAbs).length (digs y.natAbs).length := by
  show (digs (Nat.gcd x.natAbs y.natAbs)).length ≤ _
  rcases Nat.eq_zero_or_pos x.natAbs with e | e
  · rw [e, Nat.gcd_zero_left]; omega
  · have := digs_len_le (Nat.gcd_le_left y.natAbs e)
    omega
theorem len_powZ (x : Int) : ∀ e : Nat, (digs (x ^ e).natAbs).length ≤ e * (digs x.natAbs).length + 1
  | 0 => by rw [Int.pow_zero]; have := digs_len_of_lt (n := (1 : Int).natAbs) (k := 1) (by decide); omega
  | e + 1 => by
    rw [Int.pow_succ]
    have := len_mulZ (x ^ e) x
    have := len_powZ x e
    rw [Nat.add_mul]
    omega
theorem len_powB {x : Int} {e : Nat} (he : e ≤ 20000) (hx : (digs x.natAbs).length ≤ 1000) : (digs (x ^ e).natAbs).length ≤ 20000001 := by
  have := len_powZ x e
  have := Nat.mul_le_mul he hx
  omega
theorem pow_odd {f e k n : Nat} (h : f + e * k = n) (hk : k % 2 = 1) : f + e + (e + e) * (k / 2) = n := by
  have h2 : k = 2 * (k / 2) + 1 := by omega
  have : e * k = (e + e) * (k / 2) + e := by
    rw [Nat.add_mul]
    generalize k / 2 = j at *
    subst h2
    rw [Nat.mul_add, ← Nat.mul_assoc, Nat.mul_comm e 2, Nat.mul_assoc]
    omega
  omega
theorem pow_even {f e k n : Nat} (h : f + e * k = n) (hk : ¬ k % 2 = 1) : f + (e + e) * (k / 2) = n := by
  have h2 : k = 2 * (k / 2) := by omega
  have : e * k = (e + e) * (k / 2) := by
    rw [Nat.add_mul]
    generalize k / 2 = j at *
    subst h2
    rw [← Nat.mul_assoc, Nat.mul_comm e 2, Nat.mul_assoc]
    omega
  omega
theorem pow_le {f e k n : Nat} (h : f + e * k = n) (hk : 0 < k) : f + e ≤ n := by
  have := Nat.le_mul_of_pos_right e hk
  omega
theorem pow_fin {x : Int} {f e k n : Nat} (h : f + e * k = n) (hk : ¬ 0 < k) : x ^ n = x ^ f := by
  have : k = 0 := by omega
  subst this
  rw [← h, Nat.mul_zero, Nat.add_zero]
theorem pow0_obj (x : Int) (t : TypeId) : some (AO.var t [bp ((1 : Int) < 0), AV.sl 1 (ns .u32 (digs (1 : Int).natAbs))]) = some (AO.var t [bp (x ^ 0 < 0), AV.sl 1 (ns .u32 (digs (x ^ 0).natAbs))]) := by rw [Int.pow_zero]
theorem pow1_obj (x : Int) (t : TypeId) : some (AO.var t [bp (x < 0), AV.sl 1 (ns .u32 (digs x.natAbs))]) = some (AO.var t [bp (x ^ 1 < 0), AV.sl 1 (ns .u32 (digs (x ^ 1).natAbs))]) := by
  have e : x ^ 1 = x := by simp [Int.pow_succ]
  rw [e]
end Go.Mth
