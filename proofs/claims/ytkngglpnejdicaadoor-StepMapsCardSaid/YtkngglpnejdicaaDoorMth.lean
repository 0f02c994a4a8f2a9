/- Numbers by their digits to the base of nine decimal digits. No program in sight. -/
import Derived.Test.YtkngglpnejdicaaDoorAb14
set_option linter.unusedVariables false
namespace Go.Mth
/-- The digits' value. -/
def val : List Nat → Nat
  | [] => 0
  | x :: xs => x + 1000000000 * val xs
/-- Digits below the base. -/
def Dig (xs : List Nat) : Prop := ∀ x ∈ xs, x < 1000000000
/-- A number's digits. -/
def digs (n : Nat) : List Nat := if h : n = 0 then [] else n % 1000000000 :: digs (n / 1000000000)
termination_by n
decreasing_by omega
/-- So many digits of a number. -/
def dgn : Nat → Nat → List Nat
  | 0, _ => []
  | k + 1, n => n % 1000000000 :: dgn k (n / 1000000000)
def sgn (z : Int) : Int := if z = 0 then 0 else if z < 0 then -1 else 1
def cmpN (a b : Nat) : Int := if a < b then -1 else if b < a then 1 else 0

theorem Dig.nil : Dig [] := fun x h => by cases h
theorem Dig.cons {x : Nat} {xs : List Nat} (h : x < 1000000000) (t : Dig xs) : Dig (x :: xs) := fun y hy => by
  rcases List.mem_cons.1 hy with e | e
  · omega
  · exact t y e
theorem Dig.head {x : Nat} {xs : List Nat} (h : Dig (x :: xs)) : x < 1000000000 := h x (by simp)
theorem Dig.tail {x : Nat} {xs : List Nat} (h : Dig (x :: xs)) : Dig xs := fun y hy => h y (by simp [hy])
theorem Dig.getD {xs : List Nat} (h : Dig xs) (i : Nat) : xs.getD i 0 < 1000000000 := by
  by_cases hi : i < xs.length
  · rw [List.getD_eq_getElem?_getD, List.getElem?_eq_getElem hi]; exact h _ (List.getElem_mem hi)
  · rw [List.getD_eq_getElem?_getD, List.getElem?_eq_none (by omega)]; decide
theorem Dig.app {xs ys : List Nat} (h : Dig xs) (k : Dig ys) : Dig (xs ++ ys) := fun x hx => by
  rcases List.mem_append.1 hx with e | e
  · exact h x e
  · exact k x e
theorem Dig.snoc {xs : List Nat} {x : Nat} (h : Dig xs) (k : x < 1000000000) : Dig (xs ++ [x]) := h.app (Dig.nil.cons k)
theorem Dig.take {xs : List Nat} (h : Dig xs) (n : Nat) : Dig (xs.take n) := fun x hx => h x (List.mem_of_mem_take hx)
theorem Dig.set {xs : List Nat} (h : Dig xs) {i x : Nat} (k : x < 1000000000) : Dig (xs.set i x) := fun y hy => by
  rcases List.mem_or_eq_of_mem_set hy with e | e
  · exact h y e
  · omega
theorem dgn_len : ∀ (k n : Nat), (dgn k n).length = k
  | 0, _ => rfl
  | k + 1, n => by simp [dgn, dgn_len k]
theorem dgn_dig : ∀ (k n : Nat), Dig (dgn k n)
  | 0, _ => Dig.nil
  | k + 1, n => (dgn_dig k _).cons (Nat.mod_lt _ (by decide))
theorem val_dgn : ∀ (k n : Nat), val (dgn k n) = n % 1000000000 ^ k
  | 0, n => by simp [dgn, val, Nat.mod_one]
  | k + 1, n => by
    rw [dgn, val, val_dgn k, Nat.pow_succ, Nat.mul_comm (1000000000 ^ k), Nat.mod_mul]
theorem val_lt : ∀ {xs : List Nat}, Dig xs → val xs < 1000000000 ^ xs.length
  | [], _ => by simp [val]
  | x :: xs, h => by
    have := val_lt h.tail
    have h1 := h.head
    simp only [val, List.length_cons, Nat.pow_succ]
    omega
/-- Digits are what their value and their number say. -/
theorem eq_dgn : ∀ {xs : List Nat}, Dig xs → xs = dgn xs.length (val xs)
  | [], _ => rfl
  | x :: xs, h => by
    have h1 := h.head
    simp only [List.length_cons, dgn, val]
    rw [show (x + 1000000000 * val xs) % 1000000000 = x by omega, show (x + 1000000000 * val xs) / 1000000000 = val xs by omega, ← eq_dgn h.tail]
theorem val_app : ∀ (xs ys : List Nat), val (xs ++ ys) = val xs + 1000000000 ^ xs.length * val ys
  | [], ys => by simp [val]
  | x :: xs, ys => by
    simp only [List.cons_append, val, val_app xs ys, List.length_cons, Nat.pow_succ, Nat.mul_add]
    rw [Nat.mul_comm (1000000000 ^ xs.length) 1000000000, Nat.mul_assoc]
    omega
theorem val_snoc (xs : List Nat) (x : Nat) : val (xs ++ [x]) = val xs + 1000000000 ^ xs.length * x := by rw [val_app]; simp [val]
theorem digs_zero : digs 0 = [] := by rw [digs]; simp
theorem digs_pos {n : Nat} (h : 0 < n) : digs n = n % 1000000000 :: digs (n / 1000000000) := by rw [digs]; simp [Nat.ne_of_gt h]
theorem digs_dig (n : Nat) : Dig (digs n) := by
  induction n using Nat.strongRecOn with
  | _ n ih =>
    by_cases h : n = 0
    · subst h; rw [digs_zero]; exact Dig.nil
    · rw [digs_pos (by omega)]; exact (ih (n / 1000000000) (by omega)).cons (Nat.mod_lt _ (by decide))
theorem val_digs (n : Nat) : val (digs n) = n := by
  induction n using Nat.strongRecOn with
  | _ n ih =>
    by_cases h : n = 0
    · subst h; rw [digs_zero]; rfl
    · rw [digs_pos (by omega), val, ih (n / 1000000000) (by omega)]; omega
theorem digs_len_zero {n : Nat} : (digs n).length = 0 ↔ n = 0 := by
  constructor
  · intro h
    have := List.eq_nil_of_length_eq_zero h
    have h2 := val_digs n
    rw [this] at h2
    exact h2.symm
  · intro h; subst h; rw [digs_zero]; rfl
/-- Without zeros at the end. -/
def Trim (xs : List Nat) : Prop := ∀ h : xs ≠ [], xs.getLast h ≠ 0
theorem val_pos_of_trim : ∀ {xs : List Nat}, xs ≠ [] → Trim xs → 0 < val xs
  | [], h, _ => absurd rfl h
  | [x], _, t => by have := t (by simp); simp at this; simp [val]; omega
  | x :: y :: xs, _, t => by
    have := val_pos_of_trim (xs := y :: xs) (by simp) (fun h => by have := t (by simp); simpa using this)
    simp only [val] at this ⊢
    omega
/-- Digits below the base, none too many: the number's. -/
theorem eq_digs : ∀ {xs : List Nat}, Dig xs → Trim xs → xs = digs (val xs)
  | [], _, _ => by simp [val, digs_zero]
  | x :: xs, h, t => by
    have h1 := h.head
    have tt : Trim xs := fun hx => by have := t (by simp); simpa [List.getLast_cons hx] using this
    have hp := val_pos_of_trim (xs := x :: xs) (by simp) t
    rw [digs_pos hp]
    simp only [val]
    rw [show (x + 1000000000 * val xs) % 1000000000 = x by omega, show (x + 1000000000 * val xs) / 1000000000 = val xs by omega, ← eq_digs h.tail tt]
theorem digs_trim (n : Nat) : Trim (digs n) := by
  induction n using Nat.strongRecOn with
  | _ n ih =>
    intro h
    by_cases hn : n = 0
    · subst hn; rw [digs_zero] at h; exact absurd rfl h
    · have hd := digs_pos (n := n) (by omega)
      have hlt := ih (n / 1000000000) (by omega)
      by_cases h2 : digs (n / 1000000000) = []
      · have h3 : n / 1000000000 = 0 := digs_len_zero.1 (by rw [h2]; rfl)
        simp only [hd, h2, List.getLast_singleton]
        omega
      · simp only [hd, List.getLast_cons h2]
        exact hlt h2
/-- A number's digits as an own type's value. -/
theorem take_getD_zero {xs : List Nat} {n : Nat} (hn : 0 < n) (hl : n ≤ xs.length) (h : xs.getD (n - 1) 0 = 0) : val (xs.take n) = val (xs.take (n - 1)) := by
  have e : xs.take n = xs.take (n - 1) ++ [xs.getD (n - 1) 0] := by
    rw [show n = (n - 1) + 1 by omega, List.take_add_one]
    rw [List.getD_eq_getElem?_getD, Nat.add_sub_cancel, List.getElem?_eq_getElem (by omega)]
    rfl
  rw [e, val_snoc, h]; simp
theorem trim_digs {xs : List Nat} (hd : Dig xs) {n : Nat} (hl : n ≤ xs.length) (hv : val (xs.take n) = val xs) (h : n = 0 ∨ xs.getD (n - 1) 0 ≠ 0) : xs.take n = digs (val xs) := by
  rw [← hv]
  refine eq_digs (hd.take n) fun hne => ?_
  rcases h with h | h
  · subst h; simp at hne
  · have hlen : (xs.take n).length = n := by simp; omega
    have hn : 0 < n := by
      cases n with
      | zero => simp at hne
      | succ n => omega
    rw [List.getLast_eq_getElem]
    simp only [List.getElem_take, hlen]
    rw [List.getD_eq_getElem?_getD, List.getElem?_eq_getElem (by omega)] at h
    simpa using h

theorem val_take_succ (xs : List Nat) (j : Nat) : val (xs.take (j + 1)) = val (xs.take j) + 1000000000 ^ j * xs.getD j 0 := by
  by_cases h : j < xs.length
  · have e : xs.take (j + 1) = xs.take j ++ [xs.getD j 0] := by
      rw [List.take_add_one, List.getD_eq_getElem?_getD, List.getElem?_eq_getElem h]; rfl
    rw [e, val_snoc, List.length_take, Nat.min_eq_left (by omega)]
  · rw [List.take_of_length_le (by omega), List.take_of_length_le (by omega), List.getD_eq_getElem?_getD, List.getElem?_eq_none (by omega)]; simp
theorem val_split (xs : List Nat) {j : Nat} (h : j ≤ xs.length) : val xs = val (xs.take j) + 1000000000 ^ j * val (xs.drop j) := by
  have := val_app (xs.take j) (xs.drop j)
  rw [List.take_append_drop, List.length_take, Nat.min_eq_left h] at this
  exact this
theorem val_take_all {xs : List Nat} {j : Nat} (h : xs.length ≤ j) : val (xs.take j) = val xs := by rw [List.take_of_length_le h]
theorem val_drop_succ {xs : List Nat} {j : Nat} (h : j < xs.length) : val (xs.drop j) = xs.getD j 0 + 1000000000 * val (xs.drop (j + 1)) := by
  rw [List.drop_eq_getElem_cons h, val, List.getD_eq_getElem?_getD, List.getElem?_eq_getElem h]; rfl
theorem val_drop_all {xs : List Nat} {j : Nat} (h : xs.length ≤ j) : val (xs.drop j) = 0 := by rw [List.drop_of_length_le h]; rfl
theorem cmp_lt {a b : List Nat} (ha : Dig a) {j : Nat} (hja : j < a.length) (hjb : j < b.length) (hd : val (a.drop (j + 1)) = val (b.drop (j + 1))) (h : a.getD j 0 < b.getD j 0) : val a < val b := by
  rw [val_split a (j := j) (by omega), val_split b (j := j) (by omega), val_drop_succ hja, val_drop_succ hjb, hd]
  have h1 := val_lt (ha.take j)
  rw [List.length_take, Nat.min_eq_left (by omega)] at h1
  have h2 : 1000000000 ^ j * (a.getD j 0 + 1 + 1000000000 * val (b.drop (j + 1))) ≤ 1000000000 ^ j * (b.getD j 0 + 1000000000 * val (b.drop (j + 1))) := Nat.mul_le_mul_left _ (by omega)
  have h3 : 1000000000 ^ j * (a.getD j 0 + 1 + 1000000000 * val (b.drop (j + 1))) = 1000000000 ^ j * (a.getD j 0 + 1000000000 * val (b.drop (j + 1))) + 1000000000 ^ j := by
    rw [show a.getD j 0 + 1 + 1000000000 * val (b.drop (j + 1)) = (a.getD j 0 + 1000000000 * val (b.drop (j + 1))) + 1 by omega, Nat.mul_add, Nat.mul_one]
  omega
theorem digs_lo (n : Nat) (h : 0 < n) : 1000000000 ^ ((digs n).length - 1) ≤ n := by
  induction n using Nat.strongRecOn with
  | _ n ih =>
    rw [digs_pos h]
    simp only [List.length_cons, Nat.add_sub_cancel]
    by_cases h2 : n / 1000000000 = 0
    · rw [h2, digs_zero]; simp; omega
    · have h3 := ih (n / 1000000000) (by omega) (by omega)
      have hl : 0 < (digs (n / 1000000000)).length := by
        rcases Nat.eq_zero_or_pos (digs (n / 1000000000)).length with e | e
        · exact absurd (digs_len_zero.1 e) h2
        · exact e
      have e : 1000000000 ^ (digs (n / 1000000000)).length = 1000000000 ^ ((digs (n / 1000000000)).length - 1) * 1000000000 := by
        rw [← Nat.pow_succ]; congr 1; omega
      rw [e]
      omega
theorem digs_hi (n : Nat) : n < 1000000000 ^ (digs n).length := by
  have := val_lt (digs_dig n)
  rwa [val_digs] at this
theorem digs_len_lt {m n : Nat} (h : (digs m).length < (digs n).length) : m < n := by
  have h1 := digs_hi m
  have hn : 0 < n := by
    rcases Nat.eq_zero_or_pos n with e | e
    · subst e; rw [digs_zero] at h; simp at h
    · exact e
  have h2 := digs_lo n hn
  have h3 : 1000000000 ^ (digs m).length ≤ 1000000000 ^ ((digs n).length - 1) := Nat.pow_le_pow_right (by decide) (by omega)
  omega
theorem digs_len_le {m n : Nat} (h : m ≤ n) : (digs m).length ≤ (digs n).length := by
  rcases Nat.lt_or_ge (digs n).length (digs m).length with e | e
  · have := digs_len_lt e; omega
  · exact e
theorem digs_len_of_lt {n k : Nat} (h : n < 1000000000 ^ k) : (digs n).length ≤ k := by
  by_cases hn : n = 0
  · subst hn; rw [digs_zero]; simp
  · have h1 := digs_lo n (by omega)
    rcases Nat.lt_or_ge k (digs n).length with e | e
    · have : 1000000000 ^ k ≤ 1000000000 ^ ((digs n).length - 1) := Nat.pow_le_pow_right (by decide) (by omega)
      omega
    · exact e
theorem cmpN_len {m n : Nat} (h : (digs m).length ≠ (digs n).length) : cmpN m n = if (digs m).length < (digs n).length then -1 else 1 := by
  unfold cmpN
  by_cases h1 : (digs m).length < (digs n).length
  · rw [if_pos h1, if_pos (digs_len_lt h1)]
  · have := digs_len_lt (m := n) (n := m) (by omega)
    rw [if_neg h1, if_neg (by omega), if_pos this]
theorem cmpN_lt {m n j : Nat} (h1 : j < (digs m).length) (h2 : (digs m).length = (digs n).length) (hd : val ((digs m).drop (j + 1)) = val ((digs n).drop (j + 1))) (h : (digs m).getD j 0 < (digs n).getD j 0) : cmpN m n = -1 := by
  have := cmp_lt (digs_dig m) h1 (by omega) hd h
  rw [val_digs, val_digs] at this
  unfold cmpN
  rw [if_pos this]
theorem cmpN_gt {m n j : Nat} (h1 : j < (digs m).length) (h2 : (digs m).length = (digs n).length) (hd : val ((digs m).drop (j + 1)) = val ((digs n).drop (j + 1))) (h : (digs n).getD j 0 < (digs m).getD j 0) : cmpN m n = 1 := by
  have := cmp_lt (digs_dig n) (by omega) h1 hd.symm h
  rw [val_digs, val_digs] at this
  unfold cmpN
  rw [if_neg (by omega), if_pos this]
theorem cmpN_eq {m n : Nat} (h : val ((digs m).drop 0) = val ((digs n).drop 0)) : cmpN m n = 0 := by
  simp only [List.drop_zero, val_digs] at h
  subst h
  simp [cmpN]
theorem carry (i s : Nat) : 1000000000 ^ i * (s % 1000000000) + 1000000000 ^ (i + 1) * (s / 1000000000) = 1000000000 ^ i * s := by
  rw [Nat.pow_succ, Nat.mul_assoc, ← Nat.mul_add, Nat.mod_add_div]
theorem add_step {r a b : List Nat} {i c s : Nat} (hl : r.length = i) (hv : val r + 1000000000 ^ i * c = val (a.take i) + val (b.take i)) (hs : s = a.getD i 0 + b.getD i 0 + c) :
    val (r ++ [s % 1000000000]) + 1000000000 ^ (i + 1) * (s / 1000000000) = val (a.take (i + 1)) + val (b.take (i + 1)) := by
  rw [val_snoc, hl, Nat.add_assoc, carry, val_take_succ, val_take_succ, hs, Nat.mul_add, Nat.mul_add]
  omega
/-- How many digits a sum has that the reference makes. -/
def moreN (m n : Nat) : Nat := if m + n < 1000000000 ^ max (digs m).length (digs n).length then max (digs m).length (digs n).length else max (digs m).length (digs n).length + 1
theorem val_more (m n : Nat) : val (dgn (moreN m n) (m + n)) = m + n := by
  rw [val_dgn, Nat.mod_eq_of_lt]
  have h1 := digs_hi m
  have h2 := digs_hi n
  have h3 : 1000000000 ^ (digs m).length ≤ 1000000000 ^ max (digs m).length (digs n).length := Nat.pow_le_pow_right (by decide) (by omega)
  have h4 : 1000000000 ^ (digs n).length ≤ 1000000000 ^ max (digs m).length (digs n).length := Nat.pow_le_pow_right (by decide) (by omega)
  unfold moreN
  split
  · assumption
  · rw [Nat.pow_succ]; omega
theorem val_plus (m n : Nat) : val (dgn (max (digs m).length (digs n).length + 1) (m + n)) = m + n := by
  rw [val_dgn, Nat.mod_eq_of_lt]
  have h1 := digs_hi m
  have h2 := digs_hi n
  have h3 : 1000000000 ^ (digs m).length ≤ 1000000000 ^ max (digs m).length (digs n).length := Nat.pow_le_pow_right (by decide) (by omega)
  have h4 : 1000000000 ^ (digs n).length ≤ 1000000000 ^ max (digs m).length (digs n).length := Nat.pow_le_pow_right (by decide) (by omega)
  rw [Nat.pow_succ]; omega
theorem val_minus (m n : Nat) : val (dgn (digs m).length (m - n)) = m - n := by
  rw [val_dgn, Nat.mod_eq_of_lt]
  have := digs_hi m
  omega
theorem more_fin {r : List Nat} {m n i : Nat} (hl : r.length = i) (hd : Dig r) (h1 : (digs m).length ≤ i) (h2 : (digs n).length ≤ i) (hv : val r + 1000000000 ^ i * 0 = val ((digs m).take i) + val ((digs n).take i)) (hi : i ≤ max (digs m).length (digs n).length ∨ (i = max (digs m).length (digs n).length + 1 ∧ 1000000000 ^ max (digs m).length (digs n).length ≤ m + n)) : r = dgn (moreN m n) (m + n) := by
  rw [val_take_all h1, val_take_all h2, val_digs, val_digs, Nat.mul_zero, Nat.add_zero] at hv
  have e := eq_dgn hd
  rw [hl, hv] at e
  have hlt := val_lt hd
  rw [hl, hv] at hlt
  rw [e]
  congr 1
  unfold moreN
  rcases hi with h | ⟨h, h'⟩
  · have : i = max (digs m).length (digs n).length := by omega
    rw [← this, if_pos hlt]
  · rw [if_neg (by omega), h]
/-- One step of a difference, with what is borrowed. -/
theorem sub_step {r a b : List Nat} {i c x c' : Nat} (hl : r.length = i) (hv : val r + val (b.take i) = val (a.take i) + 1000000000 ^ i * c) (hs : x + b.getD i 0 + c = a.getD i 0 + 1000000000 * c') :
    val (r ++ [x]) + val (b.take (i + 1)) = val (a.take (i + 1)) + 1000000000 ^ (i + 1) * c' := by
  have h := congrArg (fun t => 1000000000 ^ i * t) hs
  simp only [Nat.mul_add] at h
  rw [val_snoc, hl, val_take_succ, val_take_succ, Nat.pow_succ, Nat.mul_assoc]
  omega
theorem less_fin {r : List Nat} {m n c : Nat} (hl : r.length = (digs m).length) (hd : Dig r) (hnm : n ≤ m) (hv : val r + val ((digs n).take (digs m).length) = val ((digs m).take (digs m).length) + 1000000000 ^ (digs m).length * c) : r = dgn (digs m).length (m - n) := by
  have hle := digs_len_le hnm
  rw [val_take_all hle, val_take_all (Nat.le_refl _), val_digs, val_digs] at hv
  have e := eq_dgn hd
  have hlt := val_lt hd
  rw [hl] at e hlt
  have hm := digs_hi m
  have hc : c = 0 := by
    rcases Nat.eq_zero_or_pos c with h | h
    · exact h
    · have : 1000000000 ^ (digs m).length * 1 ≤ 1000000000 ^ (digs m).length * c := Nat.mul_le_mul_left _ h
      omega
  subst hc
  rw [e]
  congr 1
  omega
theorem dgn_eq {r : List Nat} {k n : Nat} (hd : Dig r) (hl : r.length = k) (hv : val r = n) : r = dgn k n := by
  have := eq_dgn hd
  rw [hl, hv] at this
  exact this
theorem getD_ge {xs : List Nat} {i : Nat} (h : xs.length ≤ i) : xs.getD i 0 = 0 := by rw [List.getD_eq_getElem?_getD, List.getElem?_eq_none h]; rfl
def cmpZ (x y : Int) : Int := if x < y then -1 else if y < x then 1 else 0
theorem cmpN_ge {m n : Nat} (h : (0 : Int) ≤ cmpN m n) : n ≤ m := by unfold cmpN at h; split at h <;> omega
theorem cmpN_ng {m n : Nat} (h : ¬ (0 : Int) ≤ cmpN m n) : m ≤ n := by unfold cmpN at h; split at h <;> omega
theorem cmpZ_neg {x y : Int} (hx : x < 0) (h : sgn x = sgn y) : cmpZ x y = cmpN y.natAbs x.natAbs := by
  unfold sgn at h; unfold cmpZ cmpN
  repeat' split at h
  all_goals (repeat' split)
  all_goals omega
theorem cmpZ_pos {x y : Int} (hx : ¬ x < 0) (h : sgn x = sgn y) : cmpZ x y = cmpN x.natAbs y.natAbs := by
  unfold sgn at h; unfold cmpZ cmpN
  repeat' split at h
  all_goals (repeat' split)
  all_goals omega
theorem cmpZ_sgn_lt {x y : Int} (h : sgn x < sgn y) : cmpZ x y = -1 := by
  unfold sgn at h; unfold cmpZ
  repeat' split at h
  all_goals (repeat' split)
  all_goals omega
theorem cmpZ_sgn_gt {x y : Int} (h : sgn x ≠ sgn y) (h2 : ¬ sgn x < sgn y) : cmpZ x y = 1 := by
  unfold sgn at h h2; unfold cmpZ
  repeat' split at h
  all_goals (repeat' split)
  all_goals (repeat' split at h2)
  all_goals omega
theorem sgn_lo (x : Int) : -1 ≤ sgn x ∧ sgn x ≤ 1 := by unfold sgn; repeat' split
                                                        all_goals omega
theorem more_hi {m n i c : Nat} {r : List Nat} (hc : c ≤ 1) (hv : val r + 1000000000 ^ i * c = val ((digs m).take i) + val ((digs n).take i)) (hi : i ≤ max (digs m).length (digs n).length ∨ (i = max (digs m).length (digs n).length + 1 ∧ c = 0 ∧ 1000000000 ^ (max (digs m).length (digs n).length) ≤ m + n)) (hg : i < (digs m).length ∨ i < (digs n).length ∨ 0 < c) :
    i + 1 ≤ max (digs m).length (digs n).length ∨ (i + 1 = max (digs m).length (digs n).length + 1 ∧ ((digs m).getD i 0 + (digs n).getD i 0 + c) / 1000000000 = 0 ∧ 1000000000 ^ (max (digs m).length (digs n).length) ≤ m + n) := by
  by_cases hk : i + 1 ≤ max (digs m).length (digs n).length
  · exact Or.inl hk
  · refine Or.inr ⟨by omega, ?_, ?_⟩
    · rw [getD_ge (xs := digs m) (by omega), getD_ge (xs := digs n) (by omega)]; omega
    · have hik : i = max (digs m).length (digs n).length := by omega
      have hc1 : c = 1 := by omega
      rw [val_take_all (xs := digs m) (by omega), val_take_all (xs := digs n) (by omega), val_digs, val_digs, hc1] at hv
      rw [← hik]; omega
theorem val_set : ∀ {xs : List Nat} {i : Nat} (v : Nat), i < xs.length → val (xs.set i v) + 1000000000 ^ i * xs.getD i 0 = val xs + 1000000000 ^ i * v
  | [], i, v, h => by simp at h
  | x :: xs, 0, v, h => by simp [val]; omega
  | x :: xs, i + 1, v, h => by
    have ih := val_set (xs := xs) (i := i) v (by simpa using h)
    have e : (x :: xs).getD (i + 1) 0 = xs.getD i 0 := by simp [List.getD]
    rw [List.set_cons_succ, val, val, e, Nat.pow_succ, Nat.mul_comm (1000000000 ^ i) 1000000000, Nat.mul_assoc, Nat.mul_assoc]
    omega
theorem Dig.mulb {a b : List Nat} (ha : Dig a) (hb : Dig b) (i k : Nat) : a.getD i 0 * b.getD k 0 ≤ 999999998000000001 := by
  have h1 := ha.getD i
  have h2 := hb.getD k
  have := Nat.mul_le_mul (show a.getD i 0 ≤ 999999999 by omega) (show b.getD k 0 ≤ 999999999 by omega)
  omega
theorem mul_step {o b : List Nat} {i k c x ai P : Nat} (hk : i + k < o.length) (hv : val o + 1000000000 ^ (i + k) * c = P + 1000000000 ^ i * (ai * val (b.take k))) (hx : x = o.getD (i + k) 0 + ai * b.getD k 0 + c) :
    val (o.set (i + k) (x % 1000000000)) + 1000000000 ^ (i + (k + 1)) * (x / 1000000000) = P + 1000000000 ^ i * (ai * val (b.take (k + 1))) := by
  have h1 := val_set (x % 1000000000) hk
  have h2 := carry (i + k) x
  have e : 1000000000 ^ (i + k) * x = 1000000000 ^ (i + k) * o.getD (i + k) 0 + 1000000000 ^ (i + k) * (ai * b.getD k 0) + 1000000000 ^ (i + k) * c := by rw [hx, Nat.mul_add, Nat.mul_add]
  rw [val_take_succ, Nat.mul_add, Nat.mul_add]
  have e2 : 1000000000 ^ i * (ai * (1000000000 ^ k * b.getD k 0)) = 1000000000 ^ (i + k) * (ai * b.getD k 0) := by
    rw [Nat.pow_add, Nat.mul_left_comm ai, Nat.mul_assoc]
  rw [e2, show i + (k + 1) = i + k + 1 by omega]
  omega
theorem val_take_le (xs : List Nat) (k : Nat) : val (xs.take k) ≤ val xs := by
  by_cases h : k ≤ xs.length
  · rw [val_split xs h]; omega
  · rw [val_take_all (by omega)]; omega
theorem mul_k {o : List Nat} {m n i k c : Nat} (hv : val o + 1000000000 ^ (i + k) * c = val ((digs m).take i) * n + 1000000000 ^ i * ((digs m).getD i 0 * val ((digs n).take k))) (hc : 0 < c) : k ≤ (digs n).length := by
  have h1 : val ((digs m).take (i + 1)) < 1000000000 ^ (i + 1) := by
    have h := val_lt ((digs_dig m).take (i + 1))
    have h2 : 1000000000 ^ ((digs m).take (i + 1)).length ≤ 1000000000 ^ (i + 1) := Nat.pow_le_pow_right (by decide) (by simp; omega)
    omega
  have h2 := digs_hi n
  have h3 : val ((digs n).take k) ≤ n := by have := val_take_le (digs n) k; rwa [val_digs] at this
  have h4 : 1000000000 ^ i * ((digs m).getD i 0 * val ((digs n).take k)) ≤ 1000000000 ^ i * ((digs m).getD i 0 * n) := Nat.mul_le_mul_left _ (Nat.mul_le_mul_left _ h3)
  have h5 : val ((digs m).take i) * n + 1000000000 ^ i * ((digs m).getD i 0 * n) = val ((digs m).take (i + 1)) * n := by rw [val_take_succ, Nat.add_mul, Nat.mul_assoc]
  have h6 : 1000000000 ^ (i + k) * 1 ≤ 1000000000 ^ (i + k) * c := Nat.mul_le_mul_left _ hc
  have h7 : val ((digs m).take (i + 1)) * n < 1000000000 ^ (i + 1) * 1000000000 ^ (digs n).length := Nat.mul_lt_mul'' h1 h2
  rw [← Nat.pow_add] at h7
  rcases Nat.lt_or_ge (digs n).length k with h | h
  · have : 1000000000 ^ (i + 1 + (digs n).length) ≤ 1000000000 ^ (i + k) := Nat.pow_le_pow_right (by decide) (by omega)
    omega
  · exact h
theorem mul_end {o : List Nat} {m n i k : Nat} (hk : (digs n).length ≤ k) (hv : val o + 1000000000 ^ (i + k) * 0 = val ((digs m).take i) * n + 1000000000 ^ i * ((digs m).getD i 0 * val ((digs n).take k))) : val o = val ((digs m).take (i + 1)) * n := by
  rw [val_take_all hk, val_digs] at hv
  rw [val_take_succ, Nat.add_mul, Nat.mul_assoc]
  omega
theorem val_repl (k : Nat) : val (List.replicate k 0) = 0 := by
  induction k with
  | zero => rfl
  | succ k ih => rw [List.replicate_succ, val, ih]
theorem Dig.repl (k : Nat) : Dig (List.replicate k 0) := fun x hx => by rw [List.eq_of_mem_replicate hx]; decide
theorem of_step {r : List Nat} {x n : Nat} (h : r ++ digs x = digs n) (hx : 0 < x) : (r ++ [x % 1000000000]) ++ digs (x / 1000000000) = digs n := by
  rw [← h, digs_pos hx]; simp
theorem of_end {r : List Nat} {x n : Nat} (h : r ++ digs x = digs n) (hx : ¬ 0 < x) : r = digs n := by
  rw [← h, show x = 0 by omega, digs_zero]; simp
theorem digs_len_small {n : Nat} (h : n < 1000000000000000000000000000) : (digs n).length ≤ 3 := digs_len_of_lt (by simpa using h)
theorem of_len {r : List Nat} {x n : Nat} (h : r ++ digs x = digs n) (hx : 0 < x) (hn : n < 1000000000000000000000000000) : r.length + 1 ≤ 3 := by
  have h1 := congrArg List.length h
  have h2 := digs_len_small hn
  have h3 : (digs x).length ≠ 0 := fun e => by have := digs_len_zero.1 e; omega
  simp at h1; omega
theorem drop_set_succ {xs : List Nat} {j v : Nat} : (xs.set j v).drop (j + 1) = xs.drop (j + 1) := by
  rw [List.drop_set]; simp
theorem drop_set_at {xs : List Nat} {j v : Nat} (h : j < xs.length) : val ((xs.set j v).drop j) = v + 1000000000 * val (xs.drop (j + 1)) := by
  rw [val_drop_succ (by simpa using h), drop_set_succ]
  congr 1
  rw [List.getD_eq_getElem?_getD, List.getElem?_set]; simp [h]
/-- One step of a division by a small number. -/
theorem div_step {a o : List Nat} {j d r x : Nat} (hj : j < a.length) (hl : o.length = a.length) (hd : 0 < d) (hv : val (a.drop (j + 1)) = d * val (o.drop (j + 1)) + r) (hx : x = r * 1000000000 + a.getD j 0) :
    val (a.drop j) = d * val ((o.set j (x / d)).drop j) + x % d := by
  rw [val_drop_succ hj, drop_set_at (by omega), hv, Nat.mul_add d]
  have := Nat.div_add_mod x d
  have e : 1000000000 * (d * val (o.drop (j + 1)) + r) = d * (1000000000 * val (o.drop (j + 1))) + r * 1000000000 := by rw [Nat.mul_add, Nat.mul_left_comm, Nat.mul_comm r]
  omega
theorem div_dig {r d x a : Nat} (hr : r < d) (ha : a < 1000000000) (hx : x = r * 1000000000 + a) : x / d < 1000000000 := by
  rw [Nat.div_lt_iff_lt_mul (by omega)]
  have : (r + 1) * 1000000000 ≤ d * 1000000000 := Nat.mul_le_mul_right _ hr
  omega
theorem div_end {m d r : Nat} {o : List Nat} (hr : r < d) (hv : val ((digs m).drop 0) = d * val (o.drop 0) + r) : val o = m / d ∧ r = m % d := by
  simp only [List.drop_zero, val_digs] at hv
  constructor
  · rw [hv, Nat.mul_add_div (by omega), Nat.div_eq_of_lt hr]; rfl
  · rw [hv, Nat.mul_add_mod, Nat.mod_eq_of_lt hr]
/-- Decimal digits, the lowest first, as bytes. -/
def decs (n : Nat) : List Nat := if h : n = 0 then [] else (48 + n % 10) :: decs (n / 10)
termination_by n
decreasing_by omega
theorem decs_zero : decs 0 = [] := by rw [decs]; simp
theorem decs_pos {n : Nat} (h : 0 < n) : decs n = (48 + n % 10) :: decs (n / 10) := by rw [decs]; simp [Nat.ne_of_gt h]
theorem text_step {bk : List Nat} {n p k hi : Nat} (hk : k < 9) (hM : 0 < p + 10 ^ (9 - k) * hi) (h : bk ++ decs (p + 10 ^ (9 - k) * hi) = decs n) : (bk ++ [48 + p % 10]) ++ decs (p / 10 + 10 ^ (9 - (k + 1)) * hi) = decs n := by
  rw [← h, decs_pos hM]
  have e : 10 ^ (9 - k) * hi = 10 * (10 ^ (9 - (k + 1)) * hi) := by
    rw [← Nat.mul_assoc, show 9 - k = (9 - (k + 1)) + 1 by omega, Nat.pow_succ, Nat.mul_comm 10]
  rw [e, show (p + 10 * (10 ^ (9 - (k + 1)) * hi)) % 10 = p % 10 by omega, show (p + 10 * (10 ^ (9 - (k + 1)) * hi)) / 10 = p / 10 + 10 ^ (9 - (k + 1)) * hi by omega]
  simp
/-- Nothing but digits above a place. -/
theorem val_drop_pos {n j : Nat} (h : j < (digs n).length) : 0 < val ((digs n).drop j) := by
  have hne : (digs n).drop j ≠ [] := by simp; omega
  refine val_pos_of_trim hne fun hx => ?_
  rw [List.getLast_drop]
  exact digs_trim n _
theorem decs_len_lt {n : Nat} : ∀ {k : Nat}, n < 10 ^ k → (decs n).length ≤ k := by
  induction n using Nat.strongRecOn with
  | _ n ih =>
    intro k hk
    by_cases h : n = 0
    · subst h; rw [decs_zero]; simp
    · rw [decs_pos (by omega)]
      cases k with
      | zero => simp at hk; omega
      | succ k =>
        have := ih (n / 10) (by omega) (k := k) (by rw [Nat.div_lt_iff_lt_mul (by decide), ← Nat.pow_succ]; exact hk)
        simpa using this
theorem decs_len_le (n : Nat) : (decs n).length ≤ 9 * (digs n).length := by
  refine decs_len_lt ?_
  have := digs_hi n
  rw [show (1000000000 : Nat) = 10 ^ 9 by rfl, ← Nat.pow_mul] at this
  exact this
/-- How many decimal digits a number has. -/
def ndig (n : Nat) : Nat := if n = 0 then 1 else (decs n).length
theorem decs_up {x y : Nat} (hy : 0 < y) : ∀ {k : Nat} {p : Nat}, p < 10 ^ k → (decs (p + 10 ^ k * y)).length = k + (decs y).length
  | 0, p, hp => by simp at hp; subst hp; simp
  | k + 1, p, hp => by
    have hpos : 0 < 10 ^ (k + 1) * y := Nat.mul_pos (Nat.pow_pos (by decide)) hy
    have e : 10 ^ (k + 1) * y = 10 * (10 ^ k * y) := by rw [Nat.pow_succ, Nat.mul_comm (10 ^ k) 10, Nat.mul_assoc]
    rw [decs_pos (by omega), List.length_cons, e, show (p + 10 * (10 ^ k * y)) / 10 = p / 10 + 10 ^ k * y by omega, decs_up hy (x := x) (k := k) (by rw [Nat.div_lt_iff_lt_mul (by decide), ← Nat.pow_succ]; exact hp)]
    omega
/-- A number's decimal digits: nine for each digit but the top one's. -/
theorem ndig_top {n : Nat} (h : 0 < n) : (decs n).length = 9 * ((digs n).length - 1) + (decs ((digs n).getD ((digs n).length - 1) 0)).length := by
  have hl : (digs n).length ≠ 0 := fun e => by have := digs_len_zero.1 e; omega
  have hs := val_split (digs n) (j := (digs n).length - 1) (by omega)
  rw [val_digs, val_drop_succ (by omega), val_drop_all (xs := digs n) (j := (digs n).length - 1 + 1) (by omega)] at hs
  have hp := val_drop_pos (n := n) (j := (digs n).length - 1) (by omega)
  rw [val_drop_succ (by omega), val_drop_all (xs := digs n) (j := (digs n).length - 1 + 1) (by omega)] at hp
  have hlt := val_lt ((digs_dig n).take ((digs n).length - 1))
  rw [List.length_take, Nat.min_eq_left (by omega)] at hlt
  simp only [Nat.mul_zero, Nat.add_zero] at hs hp
  rw [show (1000000000 : Nat) ^ ((digs n).length - 1) = 10 ^ (9 * ((digs n).length - 1)) by rw [Nat.pow_mul]] at hs hlt
  have := decs_up (x := 0) hp hlt
  rw [← hs] at this
  exact this
def sg (neg : Bool) (n : Nat) : Int := if neg = true then -(n : Int) else n
end Go.Mth
