/- Numbers whose digits lie in a row of known capacity; the steps of long division. -/
import Derived.Test.YtkngglpnejdicaaDoorIn
import Derived.Test.YtkngglpnejdicaaDoorTx
set_option linter.unusedVariables false
set_option linter.unusedSimpArgs false
namespace Go.Ab
open Go.Mth
theorem AV.le_nilc' {sz c : Nat} {xs : List AV} (h : 0 < sz) (e : xs = []) (e2 : c = 0) : AV.le (.lit (.slice none 0 0)) (.slc sz xs c) := by subst e; subst e2; exact AV.le_nilc h
def intC (z : Int) : AV := .agg [bp (z < 0), .slc 1 (ns .u32 (digs z.natAbs)) (digs z.natAbs).length]
theorem intC_of {a : AV} {l : List Nat} {c : Nat} {z : Int} (h : AV.agg [a, .sl 1 (ns .u32 l)] = intW z) (hc : c = l.length) : AV.agg [a, .slc 1 (ns .u32 l) c] = intC z := by
  unfold intW intK at h
  simp only [AV.agg.injEq, List.cons.injEq, AV.sl.injEq, and_true, true_and] at h
  have hl := congrArg List.length h.2
  simp only [ns_len] at hl
  unfold intC
  rw [h.1, h.2, hc, hl]
theorem trimc_fin {neg : Bool} {xs : List Nat} {n : Nat} (hx : Dig xs) (hn : n ≤ xs.length) (hv : val (xs.take n) = val xs) (h : n = 0 ∨ xs.getD (n - 1) 0 ≠ 0) :
    AV.agg [AV.lit (.bool (neg && decide (0 < n))), .slc 1 (ns .u32 ((xs.drop 0).take (n - 0))) (n - 0)] = intC (sg neg (val xs)) :=
  intC_of (trim_fin (k := .u32) hx hn hv h) (by rw [List.length_take, List.drop_zero, Nat.sub_zero]; omega)
theorem nc_eq {k : IntKind} {xs ys : List Nat} {c d : Nat} (h : xs = ys) (hc : c = d) : AV.slc 1 (ns k xs) c = AV.slc 1 (ns k ys) d := by subst h; subst hc; rfl
theorem nc_sg {X n : Nat} (h : n = X) : AV.slc 1 (ns .u32 (digs (sg false n).natAbs)) (digs (sg false n).natAbs).length = AV.slc 1 (ns .u32 (digs X)) (digs X).length := by subst h; rw [sg_abs]
end Go.Ab
namespace Go.Mth
theorem times_step {r a : List Nat} {i c n t : Nat} (hl : r.length = i) (hv : val r + 1000000000 ^ i * c = val (a.take i) * n) (ht : t = a.getD i 0 * n + c) :
    val (r ++ [t % 1000000000]) + 1000000000 ^ (i + 1) * (t / 1000000000) = val (a.take (i + 1)) * n := by
  rw [val_snoc, val_take_succ, hl, Nat.add_assoc, carry, ht, Nat.add_mul, ← hv, Nat.mul_add, ← Nat.mul_assoc]
  omega
theorem times_fin {r : List Nat} {m n c i : Nat} (hi : i = (digs m).length) (hl : r.length = i) (hv : val r + 1000000000 ^ i * c = val ((digs m).take i) * n) : val (r ++ [c]) = m * n := by
  rw [val_snoc, hl, hv, hi, List.take_length, val_digs]
theorem set_zero {o : List Nat} {j : Nat} (h : o.getD j 0 = 0) : o.set j 0 = o := by
  apply List.ext_getElem?
  intro k
  rw [List.getElem?_set]
  split
  · rename_i e; subst e
    split
    · rename_i hl
      rw [List.getD_eq_getElem?_getD, List.getElem?_eq_getElem hl] at h
      rw [List.getElem?_eq_getElem hl]
      exact congrArg some (by simpa using h.symm)
    · rename_i hl; rw [List.getElem?_eq_none (by omega)]
  · rfl
theorem getD_set_off {o : List Nat} {j k v : Nat} (h : j ≠ k) : (o.set j v).getD k 0 = o.getD k 0 := by
  rw [List.getD_eq_getElem?_getD, List.getD_eq_getElem?_getD, List.getElem?_set_ne h]
theorem quo_top {a b r : Nat} (ha : a < 1000000000) (hr : r < b) : a + 1000000000 * r < b * 1000000000 := by
  have : 1000000000 * r + 1000000000 ≤ 1000000000 * b := by
    have := Nat.mul_le_mul_left 1000000000 (show r + 1 ≤ b by omega)
    omega
  omega
theorem quo_at {X n l : Nat} (h1 : n * l ≤ X) (h2 : X < n * (l + 1)) : X / n = l ∧ X % n = X - n * l := by
  have hn : 0 < n := by rcases Nat.eq_zero_or_pos n with e | e; subst e; simp at h2; exact e
  have hq : X / n = l := by
    apply Nat.le_antisymm
    · exact Nat.le_of_lt_succ ((Nat.div_lt_iff_lt_mul hn).2 (by rw [Nat.mul_comm]; exact h2))
    · exact (Nat.le_div_iff_mul_le hn).2 (by rw [Nat.mul_comm]; exact h1)
  refine ⟨hq, ?_⟩
  have := Nat.div_add_mod X n
  rw [hq] at this
  omega
theorem cmpN_le {m n : Nat} (h : cmpN m n ≤ 0) : m ≤ n := by unfold cmpN at h; split at h; omega; split at h <;> omega
theorem cmpN_nle {m n : Nat} (h : ¬ cmpN m n ≤ 0) : n < m := by unfold cmpN at h; split at h; omega; split at h <;> omega
theorem cmpN_neg {m n : Nat} (h : cmpN m n < 0) : m < n := by unfold cmpN at h; split at h; omega; split at h <;> omega
theorem cmpN_nneg {m n : Nat} (h : ¬ cmpN m n < 0) : n ≤ m := by unfold cmpN at h; split at h; omega; split at h <;> omega
/-- One digit of the quotient, and the rest that is left. -/
theorem quo_skip {a o : List Nat} {j n r : Nat} (hj : j < a.length) (hl : o.length = a.length) (hv : val (a.drop (j + 1)) = n * val (o.drop (j + 1)) + r) (hz : o.getD j 0 = 0) (hX : a.getD j 0 + 1000000000 * r < n) :
    val (a.drop j) = n * val (o.drop j) + (a.getD j 0 + 1000000000 * r) := by
  have h := div_step hj hl (show 0 < n by omega) hv (x := a.getD j 0 + 1000000000 * r) (by omega)
  rw [Nat.div_eq_of_lt hX, Nat.mod_eq_of_lt hX, set_zero hz] at h
  exact h
theorem quo_put {a o : List Nat} {j n r l : Nat} (hj : j < a.length) (hl : o.length = a.length) (hv : val (a.drop (j + 1)) = n * val (o.drop (j + 1)) + r) (h1 : n * l ≤ a.getD j 0 + 1000000000 * r) (h2 : a.getD j 0 + 1000000000 * r < n * (l + 1)) :
    val (a.drop j) = n * val ((o.set j l).drop j) + (a.getD j 0 + 1000000000 * r - n * l) := by
  have hn : 0 < n := by rcases Nat.eq_zero_or_pos n with e | e; subst e; simp at h2; exact e
  have h := div_step hj hl hn hv (x := a.getD j 0 + 1000000000 * r) (by omega)
  have hq := quo_at h1 h2
  rw [hq.1, hq.2] at h
  exact h
theorem quo_rest {X n l : Nat} (h1 : n * l ≤ X) (h2 : X < n * (l + 1)) : X - n * l < n := by rw [Nat.mul_add] at h2; omega
theorem digs_len_mod (m : Nat) {n : Nat} (hn : 0 < n) : (digs (m % n)).length ≤ (digs n).length := digs_len_le (Nat.le_of_lt (Nat.mod_lt m hn))
theorem digs_mul_len (m n : Nat) : (digs (m * n)).length ≤ (digs m).length + (digs n).length := by
  apply digs_len_of_lt
  rw [Nat.pow_add]
  have h1 := digs_hi m
  have h2 := digs_hi n
  rcases Nat.eq_zero_or_pos n with e | e
  · subst e; rw [Nat.mul_zero]; exact Nat.mul_pos (by omega) (by omega)
  · exact Nat.lt_of_lt_of_le (Nat.mul_lt_mul_of_pos_right h1 e) (Nat.mul_le_mul_left _ (Nat.le_of_lt h2))
theorem dgn_val (k n : Nat) (h : n < 1000000000 ^ k) : val (dgn k n) = n := by rw [val_dgn, Nat.mod_eq_of_lt h]
theorem val_quo (m n : Nat) : val (dgn (digs m).length (m / n)) = m / n := dgn_val _ _ (Nat.lt_of_le_of_lt (Nat.div_le_self m n) (digs_hi m))
end Go.Mth
