/- First falls, and numbers that stay alike. No walk in sight. -/
import Derived.Test.YtkngglpnejdicaaDoorLa
set_option linter.unusedVariables false
namespace Go.Mth
open Go.Ab
theorem iterZ_step {m : MapM} : ∀ (j : Nat) (z : Int), iterZ m (j + 1) z = iterZ m j (stepZ m z)
  | 0, z => rfl
  | j + 1, z => by rw [iterZ, iterZ_step j z, iterZ]
theorem run_iter {m : MapM} {n : Int} : ∀ (k i : Nat), (∀ j, i ≤ j → j < i + k → Fit (iterZ m j n)) → runZ m k (iterZ m i n) = iterZ m (i + k) n
  | 0, i, _ => rfl
  | k + 1, i, h => by
    rw [runZ, if_pos (h i (by omega) (by omega)), show stepZ m (iterZ m i n) = iterZ m (i + 1) n from rfl, run_iter k (i + 1) (fun j h1 h2 => h j (by omega) (by omega)), show i + 1 + k = i + (k + 1) by omega]
theorem orb_iter {m : MapM} {n : Int} : ∀ (k i : Nat), (∀ j, i ≤ j → j < i + k → Fit (iterZ m j n)) → (orbZ m k (iterZ m i n)).length = k + 1 ∧ ∀ j, j ≤ k → (orbZ m k (iterZ m i n)).getD j 0 = iterZ m (i + j) n
  | 0, i, _ => ⟨rfl, fun j hj => by have : j = 0 := by omega
                                    subst this; rfl⟩
  | k + 1, i, h => by
    obtain ⟨h1, h2⟩ := orb_iter (m := m) (n := n) k (i + 1) (fun j h1 h2 => h j (by omega) (by omega))
    rw [orbZ, if_pos (h i (by omega) (by omega)), show stepZ m (iterZ m i n) = iterZ m (i + 1) n from rfl]
    refine ⟨by simp [h1], fun j hj => ?_⟩
    cases j with
    | zero => rfl
    | succ j => rw [List.getD_cons_succ, h2 j (by omega), show i + 1 + j = i + (j + 1) by omega]
theorem fit_all {m : MapM} : ∀ (k : Nat) {z : Int}, Fit (runZ m k z) → ∀ j, j ≤ k → Fit (iterZ m j z)
  | 0, z, h, j, hj => by
    have : j = 0 := by omega
    subst this
    exact h
  | k + 1, z, h, j, hj => by
    by_cases hz : Fit z
    · rw [runZ, if_pos hz] at h
      cases j with
      | zero => exact hz
      | succ j => rw [iterZ_step]; exact fit_all k h j (by omega)
    · rw [runZ, if_neg hz] at h
      exact absurd h hz
theorem fit_run {m : MapM} {k : Nat} {z : Int} (h : ∀ j, j ≤ k → Fit (iterZ m j z)) : Fit (runZ m k z) ∧ runZ m k z = iterZ m k z := by
  have := run_iter (m := m) (n := z) k 0 (fun j _ h2 => h j (by omega))
  rw [Nat.zero_add] at this
  have e : runZ m k z = iterZ m k z := this
  exact ⟨by rw [e]; exact h k (Nat.le_refl _), e⟩
theorem run_bad {m : MapM} {k q : Nat} {z : Int} (hq : q ≤ k) (hb : ¬ Fit (iterZ m q z)) (h : ∀ j, j < q → Fit (iterZ m j z)) : ¬ Fit (runZ m k z) := fun hf => hb (fit_all k hf q hq)
theorem orb_fit {m : MapM} {k : Nat} {z : Int} (h : Fit (runZ m k z)) : (orbZ m k z).length = k + 1 ∧ ∀ j, j ≤ k → (orbZ m k z).getD j 0 = iterZ m j z := by
  obtain ⟨h1, h2⟩ := orb_iter (m := m) (n := z) k 0 (fun j _ hj => fit_all k h j (by omega))
  exact ⟨h1, fun j hj => (h2 j hj).trans (by rw [Nat.zero_add])⟩
/-- What a fall says. -/
theorem fallZ_spec {m : MapM} {n : Int} : ∀ (k i : Nat),
    ((fallZ m n k (iterZ m i n) (i + 1)).2.2 = 0 ∧ ∃ q, i < q ∧ q ≤ i + k ∧ (fallZ m n k (iterZ m i n) (i + 1)).1 = q ∧ (fallZ m n k (iterZ m i n) (i + 1)).2.1 = iterZ m q n ∧ iterZ m q n < n ∧ Fit (iterZ m q n) ∧ ∀ j, i < j → j < q → Fit (iterZ m j n) ∧ ¬ iterZ m j n < n) ∨
    ((fallZ m n k (iterZ m i n) (i + 1)).2.2 = 4 ∧ ∀ j, i < j → j ≤ i + k → Fit (iterZ m j n) ∧ ¬ iterZ m j n < n) ∨
    ((fallZ m n k (iterZ m i n) (i + 1)).2.2 = 3 ∧ ∃ q, i < q ∧ q ≤ i + k ∧ ¬ Fit (iterZ m q n))
  | 0, i => .inr (.inl ⟨rfl, fun j h1 h2 => by omega⟩)
  | k + 1, i => by
    by_cases hf : Fit (iterZ m (i + 1) n)
    · by_cases hl : iterZ m (i + 1) n < n
      · have e : fallZ m n (k + 1) (iterZ m i n) (i + 1) = (i + 1, iterZ m (i + 1) n, 0) := fallZ_yes hf hl
        rw [e]
        exact .inl ⟨rfl, i + 1, by omega, by omega, rfl, rfl, hl, hf, fun j h1 h2 => by omega⟩
      · have e : fallZ m n (k + 1) (iterZ m i n) (i + 1) = fallZ m n k (iterZ m (i + 1) n) (i + 1 + 1) := fallZ_go hf hl
        rw [e]
        rcases fallZ_spec (m := m) (n := n) k (i + 1) with ⟨h0, q, h1, h2, h3, h4, h5, h6, h7⟩ | ⟨h0, h1⟩ | ⟨h0, q, h1, h2, h3⟩
        · refine .inl ⟨h0, q, by omega, by omega, h3, h4, h5, h6, fun j a b => ?_⟩
          by_cases hj : j = i + 1
          · subst hj; exact ⟨hf, hl⟩
          · exact h7 j (by omega) b
        · refine .inr (.inl ⟨h0, fun j a b => ?_⟩)
          by_cases hj : j = i + 1
          · subst hj; exact ⟨hf, hl⟩
          · exact h1 j (by omega) (by omega)
        · exact .inr (.inr ⟨h0, q, by omega, by omega, h3⟩)
    · have e : fallZ m n (k + 1) (iterZ m i n) (i + 1) = (0, 0, 3) := fallZ_bad hf
      rw [e]
      exact .inr (.inr ⟨rfl, i + 1, by omega, by omega, hf⟩)
theorem fall_3 {m : MapM} {n : Int} {K : Nat} (h : (fallZ m n K n 1).2.2 = 3) : ¬ Fit (runZ m K n) := by
  rcases fallZ_spec (m := m) (n := n) K 0 with ⟨h0, _⟩ | ⟨h0, _⟩ | ⟨_, q, h1, h2, h3⟩
  · exact absurd (h.symm.trans h0) (by decide)
  · exact absurd (h.symm.trans h0) (by decide)
  · exact fun hf => h3 (fit_all K hf q (by omega))
theorem fall_4 {m : MapM} {n : Int} {K : Nat} (hn : Fit n) (h : (fallZ m n K n 1).2.2 = 4) : ∀ j, j ≤ K → Fit (iterZ m j n) ∧ ¬ iterZ m j n < n := by
  rcases fallZ_spec (m := m) (n := n) K 0 with ⟨h0, _⟩ | ⟨h0, h1⟩ | ⟨h0, _⟩
  · exact absurd (h.symm.trans h0) (by decide)
  · intro j hj
    cases j with
    | zero => exact ⟨hn, by show ¬ n < n; omega⟩
    | succ j => exact h1 (j + 1) (by omega) (by omega)
  · exact absurd (h.symm.trans h0) (by decide)
theorem fall_0 {m : MapM} {n : Int} {K : Nat} (hn : Fit n) (h4 : ¬ (fallZ m n K n 1).2.2 = 3) (h5 : ¬ (fallZ m n K n 1).2.2 = 4) :
    (fallZ m n K n 1).2.2 = 0 ∧ 1 ≤ (fallZ m n K n 1).1 ∧ (fallZ m n K n 1).1 ≤ K ∧ (fallZ m n K n 1).2.1 = iterZ m (fallZ m n K n 1).1 n ∧ iterZ m (fallZ m n K n 1).1 n < n ∧ ∀ j, j ≤ (fallZ m n K n 1).1 → Fit (iterZ m j n) ∧ (j < (fallZ m n K n 1).1 → ¬ iterZ m j n < n) := by
  rcases fallZ_spec (m := m) (n := n) K 0 with ⟨h0, q, h1, h2, h3, h4', h5', h6, h7⟩ | ⟨h0, h1⟩ | ⟨h0, _⟩
  · have h0' : (fallZ m n K n 1).2.2 = 0 := h0
    have h3' : (fallZ m n K n 1).1 = q := h3
    have h4'' : (fallZ m n K n 1).2.1 = iterZ m q n := h4'
    rw [h3', h4'', h0']
    refine ⟨rfl, h1, by omega, rfl, h5', fun j hj => ?_⟩
    by_cases hj0 : j = 0
    · subst hj0
      exact ⟨hn, fun _ => by show ¬ n < n; omega⟩
    · by_cases hjq : j = q
      · subst hjq; exact ⟨h6, fun h => by omega⟩
      · have := h7 j (by omega) (by omega)
        exact ⟨this.1, fun _ => this.2⟩
  · exact absurd h0 h5
  · exact absurd h0 h4
/-- The rests' factors. -/
def prodZ (m : MapM) (z : Int) : Nat → Int
  | 0 => 1
  | i + 1 => prodZ m z i * m.mul.getD (iterZ m i z % m.mod).toNat 0
theorem stepZ_add {m : MapM} (hm : OkM m) (z c : Int) : stepZ m (z + m.mod * c) = stepZ m z + m.mul.getD (z % m.mod).toNat 0 * c := by
  have h2 : 2 ≤ m.mod := hm.1
  unfold stepZ
  rw [Int.add_mul_emod_self_left]
  have e : m.mul.getD (z % m.mod).toNat 0 * (z + m.mod * c) + m.add.getD (z % m.mod).toNat 0 = (m.mul.getD (z % m.mod).toNat 0 * z + m.add.getD (z % m.mod).toNat 0) + (m.mul.getD (z % m.mod).toNat 0 * c) * m.mod := by
    rw [Int.mul_add, Int.mul_assoc, Int.mul_comm c m.mod]
    omega
  rw [e, Int.add_mul_ediv_right _ _ (by omega)]
theorem alike {m : MapM} (hm : OkM m) (x d : Int) (k : Nat) : ∀ i, i ≤ k → iterZ m i (x + d * m.mod ^ k) = iterZ m i x + d * prodZ m x i * m.mod ^ (k - i)
  | 0, _ => by simp [iterZ, prodZ]
  | i + 1, h => by
    rw [iterZ, alike hm x d k i (by omega), show k - i = (k - (i + 1)) + 1 by omega, Int.pow_succ]
    rw [show d * prodZ m x i * (m.mod ^ (k - (i + 1)) * m.mod) = m.mod * (d * prodZ m x i * m.mod ^ (k - (i + 1))) by ac_rfl]
    rw [stepZ_add hm, iterZ, prodZ]
    congr 1
    ac_rfl
theorem alike_rest {m : MapM} (hm : OkM m) (x d : Int) {k i : Nat} (h : i < k) : iterZ m i (x + d * m.mod ^ k) % m.mod = iterZ m i x % m.mod := by
  rw [alike hm x d k i (by omega), show k - i = (k - (i + 1)) + 1 by omega, Int.pow_succ, ← Int.mul_assoc, Int.add_mul_emod_self_right]
theorem alike_end {m : MapM} (hm : OkM m) (x d : Int) (k : Nat) : iterZ m k (x + d * m.mod ^ k) - iterZ m k x = d * prodZ m x k := by
  rw [alike hm x d k k (Nat.le_refl _), Nat.sub_self, Int.pow_zero, Int.mul_one]; omega
theorem cmpZ_0 {x y : Int} : cmpZ x y = 0 ↔ x = y := by unfold cmpZ; split <;> (try split) <;> omega
theorem first_iff {m : MapM} {n : Int} {K q i : Nat} (hn : Fit n) (h9 : (fallZ m n K n 1).2.2 = 0) (hE : ((fallZ m n K n 1).2.2 = 4 ∧ q = K) ∨ ((fallZ m n K n 1).2.2 = 0 ∧ q = (fallZ m n K n 1).1)) (hi : i ≤ q) : cmpZ (iterZ m i n) n < 0 ↔ i = q := by
  rcases hE with ⟨h4, _⟩ | ⟨_, hq⟩
  · exact absurd (h4.symm.trans h9) (by decide)
  · obtain ⟨_, h1, h2, h3, h4, h5⟩ := fall_0 (m := m) (K := K) hn (by omega) (by omega)
    rw [← hq] at h1 h2 h3 h4 h5
    rw [cmpZ_lt]
    constructor
    · intro h
      by_cases hiq : i = q
      · exact hiq
      · exact absurd h ((h5 i hi).2 (by omega))
    · rintro rfl
      exact h4
theorem first_no {m : MapM} {n : Int} {K q i : Nat} (hn : Fit n) (h9 : ¬ (fallZ m n K n 1).2.2 = 0) (hE : ((fallZ m n K n 1).2.2 = 4 ∧ q = K) ∨ ((fallZ m n K n 1).2.2 = 0 ∧ q = (fallZ m n K n 1).1)) (hi : i ≤ q) : decide (cmpZ (iterZ m i n) n < 0) = false := by
  rcases hE with ⟨h4, hq⟩ | ⟨h0, _⟩
  · refine decide_eq_false fun h => (fall_4 hn h4 i (by omega)).2 (cmpZ_lt.1 h)
  · exact absurd h0 h9
theorem first_txt {m : MapM} {a : ByteArray} {K : Int} {q : Nat} (h : okM m = true ∧ okS a = true) (h2 : 1 ≤ K ∧ K ≤ 20000) (hn : Fit (numS a)) (h9 : ¬ (fallZ m (numS a) K.toNat (numS a) 1).2.2 = 4)
    (hE : ((fallZ m (numS a) K.toNat (numS a) 1).2.2 = 4 ∧ q = K.toNat) ∨ ((fallZ m (numS a) K.toNat (numS a) 1).2.2 = 0 ∧ q = (fallZ m (numS a) K.toNat (numS a) 1).1)) : txt (iterZ m q (numS a)) = fallT m a K := by
  rcases hE with ⟨h4, hq⟩ | ⟨h0, hq⟩
  · exact absurd h4 h9
  · rw [fallT_yes h h2 h0, hq, (fall_0 hn (by omega) h9).2.2.2.1]
theorem orbE_fit {m : MapM} {a : ByteArray} {K : Int} (h : orbE m a K = 0) : okM m = true ∧ okS a = true ∧ 0 ≤ K ∧ K ≤ 1000 ∧ Fit (runZ m K.toNat (numS a)) := by
  unfold orbE at h
  split at h
  · rename_i h1
    split at h
    · rename_i h2
      split at h
      · rename_i h3
        exact ⟨h1.1, h1.2, h2.1, h2.2, h3⟩
      · omega
    · omega
  · omega
theorem orbE_ne {m : MapM} {a : ByteArray} {K : Int} (h : okM m = true ∧ okS a = true) (h2 : 0 ≤ K ∧ K ≤ 1000) (h3 : ¬ orbE m a K = 0) : orbE m a K = 3 := by
  refine orbE_3 h h2 fun hf => h3 ?_
  exact orbE_0 h h2 hf
end Go.Mth
