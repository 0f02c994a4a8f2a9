/- Maps and their steps. No program in sight. -/
import Derived.Test.YtkngglpnejdicaaDoorStr
set_option linter.unusedVariables false
namespace Go.Mth
open Go.Ab
/-- A map. -/
structure MapM where
  mod : Int
  mul : List Int
  add : List Int
  deriving DecidableEq
def mapV (m : MapM) : AV := .agg [.lit (.int .i64 m.mod), .sl 1 (is .i64 m.mul), .sl 1 (is .i64 m.add)]
def OkM (m : MapM) : Prop := 2 ≤ m.mod ∧ m.mod ≤ 12 ∧ (m.mul.length : Int) = m.mod ∧ (m.add.length : Int) = m.mod ∧ ∀ r : Nat, (r : Int) < m.mod → 1 ≤ m.mul.getD r 0 ∧ m.mul.getD r 0 ≤ 999 ∧ -999999 ≤ m.add.getD r 0 ∧ m.add.getD r 0 ≤ 999999 ∧ Int.tmod (m.mul.getD r 0 * r + m.add.getD r 0) m.mod = 0
open Classical in
noncomputable def okM (m : MapM) : Bool := decide (OkM m)
theorem okM_yes {a : MapM} (h : OkM a) : okM a = true := by unfold okM; simp [h]
theorem okM_no {a : MapM} (h : ¬ OkM a) : okM a = false := by unfold okM; simp [h]
theorem okM_iff {a : MapM} : okM a = true ↔ OkM a := by unfold okM; simp
attribute [irreducible] okM
theorem mulb {a r : Int} (h1 : 1 ≤ a) (h2 : a ≤ 999) (h3 : 0 ≤ r) (h4 : r ≤ 12) : 0 ≤ a * r ∧ a * r ≤ 11988 := by
  have e1 : a * r ≤ 999 * r := Int.mul_le_mul_of_nonneg_right h2 h3
  have e2 : 0 ≤ a * r := Int.mul_nonneg (by omega) h3
  omega
def stepZ (m : MapM) (z : Int) : Int := (m.mul.getD (z % m.mod).toNat 0 * z + m.add.getD (z % m.mod).toNat 0) / m.mod
/-- No more digits than there may be. -/
def Fit (z : Int) : Prop := ndig z.natAbs ≤ 2000
instance (z : Int) : Decidable (Fit z) := inferInstanceAs (Decidable (ndig z.natAbs ≤ 2000))
def runZ (m : MapM) : Nat → Int → Int
  | 0, z => z
  | k + 1, z => if Fit z then runZ m k (stepZ m z) else z
def orbZ (m : MapM) : Nat → Int → List Int
  | 0, z => [z]
  | k + 1, z => if Fit z then z :: orbZ m k (stepZ m z) else [z]
/-- The first fall: the steps, the number, the error. -/
def fallZ (m : MapM) (n : Int) : Nat → Int → Nat → Nat × Int × Nat
  | 0, _, _ => (0, 0, 4)
  | k + 1, x, i => if Fit (stepZ m x) then if stepZ m x < n then (i, stepZ m x, 0) else fallZ m n k (stepZ m x) (i + 1) else (0, 0, 3)
theorem digs_len_mul (a b : Nat) : (digs (a * b)).length ≤ (digs a).length + (digs b).length := by
  refine digs_len_of_lt ?_
  rw [Nat.pow_add]
  exact Nat.mul_lt_mul'' (digs_hi a) (digs_hi b)
theorem digs_len_add (a b : Nat) : (digs (a + b)).length ≤ max (digs a).length (digs b).length + 1 := by
  refine digs_len_of_lt ?_
  have h1 := digs_hi a
  have h2 := digs_hi b
  have h3 : 1000000000 ^ (digs a).length ≤ 1000000000 ^ max (digs a).length (digs b).length := Nat.pow_le_pow_right (by decide) (by omega)
  have h4 : 1000000000 ^ (digs b).length ≤ 1000000000 ^ max (digs a).length (digs b).length := Nat.pow_le_pow_right (by decide) (by omega)
  rw [Nat.pow_succ]; omega
theorem len_mulZ (a b : Int) : (digs (a * b).natAbs).length ≤ (digs a.natAbs).length + (digs b.natAbs).length := by
  rw [Int.natAbs_mul]; exact digs_len_mul _ _
theorem len_addZ (a b : Int) : (digs (a + b).natAbs).length ≤ max (digs a.natAbs).length (digs b.natAbs).length + 1 := by
  have h := digs_len_add a.natAbs b.natAbs
  have := digs_len_le (Int.natAbs_add_le a b)
  omega
theorem len_divZ (z : Int) {d : Int} (hd : 2 ≤ d) : (digs (z / d).natAbs).length ≤ (digs z.natAbs).length + 1 := by
  have h1 := Int.emod_nonneg z (show d ≠ 0 by omega)
  have h2 := Int.emod_lt_of_pos z (show 0 < d by omega)
  have h3 := Int.mul_ediv_add_emod z d
  have h4 : (z / d).natAbs ≤ z.natAbs + 1 := by
    by_cases hz : 0 ≤ z
    · have := Int.ediv_nonneg hz (show 0 ≤ d by omega)
      have : z / d ≤ z := Int.ediv_le_self _ hz
      omega
    · have e : z ≤ z / d := by
        have h5 : z / d < 0 := Int.ediv_neg_of_neg_of_pos (by omega) (by omega)
        have h6 : d * (z / d + 1) ≤ 2 * (z / d + 1) := Int.mul_le_mul_of_nonpos_right hd (by omega)
        rw [Int.mul_add, Int.mul_one] at h6
        omega
      have : z / d < 0 := Int.ediv_neg_of_neg_of_pos (by omega) (by omega)
      omega
  have h5 := digs_len_le h4
  have h6 := digs_len_add z.natAbs 1
  have h7 := digs_len_small (n := 1) (by decide)
  have h8 : (digs 1).length = 1 := by rw [digs_pos (by decide), show 1 / 1000000000 = 0 by rfl, digs_zero]; rfl
  rcases Nat.eq_zero_or_pos z.natAbs with h0 | h0
  · rw [h0] at h5; rw [Nat.zero_add, h8] at h5; omega
  · have : (digs z.natAbs).length ≠ 0 := fun e => by have := digs_len_zero.1 e; omega
    omega
theorem fit_len {z : Int} (h : Fit z) : (digs z.natAbs).length ≤ 300 := by
  unfold Fit ndig at h
  split at h
  · rename_i h0; rw [h0, digs_zero]; simp
  · rename_i h0
    rw [ndig_top (by omega)] at h
    omega
theorem small_len {z : Int} (h : z.natAbs ≤ 999999) : (digs z.natAbs).length ≤ 1 := digs_len_of_lt (by omega)
theorem step_len {m : MapM} (hm : OkM m) {z : Int} {k : Nat} (hz : (digs z.natAbs).length ≤ k) (hk : 1 ≤ k) : (digs (stepZ m z).natAbs).length ≤ k + 3 := by
  obtain ⟨o1, o2, o3, o4, o5⟩ := hm
  have hr0 := Int.emod_nonneg z (b := m.mod) (by omega)
  have hr1 := Int.emod_lt_of_pos z (b := m.mod) (by omega)
  have hr := o5 (z % m.mod).toNat (by omega)
  unfold stepZ
  have h1 := len_divZ (m.mul.getD (z % m.mod).toNat 0 * z + m.add.getD (z % m.mod).toNat 0) o1
  have h2 := len_addZ (m.mul.getD (z % m.mod).toNat 0 * z) (m.add.getD (z % m.mod).toNat 0)
  have h3 := len_mulZ (m.mul.getD (z % m.mod).toNat 0) z
  have h4 := small_len (z := m.mul.getD (z % m.mod).toNat 0) (by omega)
  have h5 := small_len (z := m.add.getD (z % m.mod).toNat 0) (by omega)
  omega
theorem cmpZ_lt {x y : Int} : cmpZ x y < 0 ↔ x < y := by unfold cmpZ; split <;> (try split) <;> omega
theorem list_ext {x y : List Int} (hl : x.length = y.length) (h : ∀ k, k < x.length → x.getD k 0 = y.getD k 0) : x = y := by
  refine List.ext_getElem hl fun k h1 h2 => ?_
  have := h k h1
  rw [List.getD_eq_getElem?_getD, List.getD_eq_getElem?_getD, List.getElem?_eq_getElem h1, List.getElem?_eq_getElem h2] at this
  exact this
theorem map_ext {x y : MapM} : x = y ↔ x.mod = y.mod ∧ x.mul = y.mul ∧ x.add = y.add := by
  constructor
  · intro h; subst h; exact ⟨rfl, rfl, rfl⟩
  · intro ⟨h1, h2, h3⟩; cases x; cases y; simp_all
/-- A number as a result: its text, or the error. -/
def toldS (z : Int) : ByteArray := if Fit z then txt z else { data := #[] }
def toldE (z : Int) : Nat := if Fit z then 0 else 3
def noM : MapM := ⟨0, [], []⟩
def kinM (q c : Int) : MapM := ⟨2, [1, q], [0, c]⟩
def kinOk (q c : Int) : Prop := 1 ≤ q ∧ q ≤ 999 ∧ -999999 ≤ c ∧ c ≤ 999999 ∧ Int.tmod q 2 ≠ 0 ∧ Int.tmod c 2 ≠ 0
instance (q c : Int) : Decidable (kinOk q c) := inferInstanceAs (Decidable (1 ≤ q ∧ q ≤ 999 ∧ -999999 ≤ c ∧ c ≤ 999999 ∧ Int.tmod q 2 ≠ 0 ∧ Int.tmod c 2 ≠ 0))
theorem pow_mono10 {j k : Nat} (h : j ≤ k) : 10 ^ j ≤ 10 ^ k := Nat.pow_le_pow_right (by decide) h
theorem fit_of_pow {n k : Nat} (h : n < 10 ^ k) (hk : k ≤ 2000) (h1 : 1 ≤ k) : ndig n ≤ 2000 := by
  unfold ndig
  split
  · decide
  · exact Nat.le_trans (decs_len_lt h) hk
theorem fit_numS {a : ByteArray} (h : OkS a) : Fit (numS a) := by
  obtain ⟨o1, o2, o3, o4⟩ := h
  have h1 := dvk_lt (a := a) (s := sgnAt a) (k := a.size - sgnAt a) fun i h1 h2 => o4 i h1 (by omega)
  have h3 : (numS a).natAbs = dvk a (sgnAt a) (a.size - sgnAt a) := by unfold numS sg; split <;> simp
  unfold Fit
  rw [h3]
  exact fit_of_pow h1 o2 (by omega)
theorem len_numS {a : ByteArray} (h : OkS a) : (digs (numS a).natAbs).length ≤ 300 := fit_len (fit_numS h)
end Go.Mth
