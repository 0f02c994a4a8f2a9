/- Regular maps: no common divisor. -/
import Derived.Test.YtkngglpnejdicaaDoorLa
set_option linter.unusedVariables false
set_option linter.unusedSimpArgs false
namespace Go.Mth
open Go.Ab
def freeM (m : MapM) : Prop := ∀ i, i < m.mul.length → Nat.gcd (m.mul.getD i 0).toNat m.mod.toNat ≤ 1
noncomputable instance (m : MapM) : Decidable (freeM m) := Classical.propDecidable _
def primeN (a b : Nat) : Prop := ∀ d, 2 ≤ d → d ≤ a → d ≤ b → ¬ (a % d = 0 ∧ b % d = 0)
noncomputable instance (a b : Nat) : Decidable (primeN a b) := Classical.propDecidable _
theorem gcd_nx {u v g : Nat} (h : Nat.gcd u v = g) : Nat.gcd v (u % v) = g := by rw [← h, Nat.gcd_comm u v, Nat.gcd_rec v u, Nat.gcd_comm]
theorem gcd_ed {u v g : Nat} (h : Nat.gcd u v = g) (hv : ¬ 0 < v) : g = u := by
  have : v = 0 := by omega
  subst this; simpa using h.symm
theorem prime_gcd {a b : Nat} (ha : 1 ≤ a) (hb : 1 ≤ b) : primeN a b ↔ Nat.gcd a b ≤ 1 := by
  constructor
  · intro h
    rcases Nat.lt_or_ge 1 (Nat.gcd a b) with g | g
    · exact absurd ⟨Nat.mod_eq_zero_of_dvd (Nat.gcd_dvd_left a b), Nat.mod_eq_zero_of_dvd (Nat.gcd_dvd_right a b)⟩ (h _ g (Nat.le_of_dvd (by omega) (Nat.gcd_dvd_left a b)) (Nat.le_of_dvd (by omega) (Nat.gcd_dvd_right a b)))
    · exact g
  · intro h d h2 _ _ ⟨h3, h4⟩
    have := Nat.le_of_dvd (Nat.gcd_pos_of_pos_left b (by omega)) (Nat.dvd_gcd (Nat.dvd_of_mod_eq_zero h3) (Nat.dvd_of_mod_eq_zero h4))
    omega
theorem kin_ok {q c : Int} (h : kinOk q c) : OkM (kinM q c) := by
  obtain ⟨h1, h2, h3, h4, h5, h6⟩ := h
  refine ⟨show (2 : Int) ≤ 2 by decide, show (2 : Int) ≤ 12 by decide, by rfl, by rfl, fun r hr => ?_⟩
  have hr2 : (r : Int) < 2 := hr
  have : r = 0 ∨ r = 1 := by omega
  rcases this with rfl | rfl
  · exact ⟨show (1 : Int) ≤ 1 by decide, show (1 : Int) ≤ 999 by decide, show (-999999 : Int) ≤ 0 by decide, show (0 : Int) ≤ 999999 by decide, show Int.tmod ((1 : Int) * ((0 : Nat) : Int) + 0) 2 = 0 by decide⟩
  · refine ⟨h1, h2, h3, h4, ?_⟩
    show Int.tmod (q * ((1 : Nat) : Int) + c) 2 = 0
    rw [Int.natCast_one, Int.mul_one]
    have a1 : ¬ (2 : Int) ∣ q := fun hd => h5 (Int.tmod_eq_zero_of_dvd hd)
    have a2 : ¬ (2 : Int) ∣ c := fun hd => h6 (Int.tmod_eq_zero_of_dvd hd)
    exact Int.tmod_eq_zero_of_dvd (by omega)
end Go.Mth
