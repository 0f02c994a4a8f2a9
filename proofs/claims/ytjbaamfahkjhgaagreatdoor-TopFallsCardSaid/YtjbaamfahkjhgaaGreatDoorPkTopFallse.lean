/- What the proof of a row of this seat leans on (part 5 of 6): a library of abstract values, walks of functions, and plain laws. -/
import Derived.Test.YtjbaamfahkjhgaaGreatDoorPkTopFallsd
set_option linter.unusedVariables false
set_option linter.unusedSimpArgs false
set_option linter.unusedSectionVars false
namespace Go.Mth
section
variable {α : Type} [Inhabited α] {key : α → Int}
theorem getD_app {A W : List α} {a k : Nat} (ha : a = A.length) : (A ++ W).getD (a + k) default = W.getD k default := by
 subst ha
 rw [List.getD_eq_getElem?_getD, List.getD_eq_getElem?_getD, List.getElem?_append_right (Nat.le_add_right _ _), Nat.add_sub_cancel_left]
theorem getD_left {U W : List α} {k : Nat} (h : k < U.length) : (U ++ W).getD k default = U.getD k default := by
 rw [List.getD_eq_getElem?_getD, List.getD_eq_getElem?_getD, List.getElem?_append_left h]
theorem srt_get {U : List α} (h : Srt key U) {i j : Nat} (hij : i ≤ j) (hj : j < U.length) : key (U.getD i default) ≤ key (U.getD j default) := by
 rcases Nat.lt_or_ge i j with e | e
 ·have e1 : U.getD i default = U[i] := by rw [List.getD_eq_getElem?_getD, List.getElem?_eq_getElem (by omega)]; rfl
  have e2 : U.getD j default = U[j] := by rw [List.getD_eq_getElem?_getD, List.getElem?_eq_getElem hj]; rfl
  rw [e1, e2]
  exact List.pairwise_iff_getElem.1 h i j (by omega) hj e
 ·rw [show i = j by omega]; exact Int.le_refl _
theorem mem_take_get {V : List α} {k : Nat} {y : α} (h : y ∈ V.take k) : ∃ i, i < k ∧ i < V.length ∧ y = V.getD i default := by
 obtain ⟨i, hi, rfl⟩ := List.getElem_of_mem h
 rw [List.length_take] at hi
 refine ⟨i, by omega, by omega, ?_⟩
 rw [List.getElem_take, List.getD_eq_getElem?_getD, List.getElem?_eq_getElem (by omega)]
 rfl
theorem mem_drop_get {V : List α} {k : Nat} {y : α} (h : y ∈ V.drop k) : ∃ i, k ≤ i ∧ i < V.length ∧ y = V.getD i default := by
 obtain ⟨i, hi, rfl⟩ := List.getElem_of_mem h
 rw [List.length_drop] at hi
 refine ⟨k + i, by omega, by omega, ?_⟩
 rw [List.getElem_drop, List.getD_eq_getElem?_getD, List.getElem?_eq_getElem (by omega)]
 rfl
theorem take_lt {V : List α} (h : Srt key V) {k : Nat} {c : Int} (hk : k = 0 ∨ (k ≤ V.length ∧ key (V.getD (k - 1) default) < c)) : ∀ y ∈ V.take k, key y < c := fun y hy => by
 obtain ⟨i, h1, h2, rfl⟩ := mem_take_get hy
 rcases hk with e | ⟨e1, e2⟩
 ·omega
 ·have := srt_get h (i := i) (j := k - 1) (by omega) (by omega); omega
theorem take_le {V : List α} (h : Srt key V) {k : Nat} {c : Int} (hk : k = 0 ∨ (k ≤ V.length ∧ key (V.getD (k - 1) default) ≤ c)) : ∀ y ∈ V.take k, key y ≤ c := fun y hy => by
 obtain ⟨i, h1, h2, rfl⟩ := mem_take_get hy
 rcases hk with e | ⟨e1, e2⟩
 ·omega
 ·have := srt_get h (i := i) (j := k - 1) (by omega) (by omega); omega
theorem drop_ge {V : List α} (h : Srt key V) {k : Nat} {c : Int} (hk : V.length ≤ k ∨ c ≤ key (V.getD k default)) : ∀ y ∈ V.drop k, c ≤ key y := fun y hy => by
 obtain ⟨i, h1, h2, rfl⟩ := mem_drop_get hy
 rcases hk with e | e
 ·omega
 ·have := srt_get h (i := k) (j := i) h1 h2; omega
theorem drop_gt {V : List α} (h : Srt key V) {k : Nat} {c : Int} (hk : V.length ≤ k ∨ c < key (V.getD k default)) : ∀ y ∈ V.drop k, c < key y := fun y hy => by
 obtain ⟨i, h1, h2, rfl⟩ := mem_drop_get hy
 rcases hk with e | e
 ·omega
 ·have := srt_get h (i := k) (j := i) h1 h2; omega
theorem srt_take {V : List α} (h : Srt key V) (k : Nat) : Srt key (V.take k) := h.sublist (List.take_sublist _ _)
theorem srt_drop {V : List α} (h : Srt key V) (k : Nat) : Srt key (V.drop k) := h.sublist (List.drop_sublist _ _)
theorem mrg_cut {U V : List α} {k l : Nat} (h1 : ∀ x ∈ U.drop k, ∀ y ∈ V.take l, key y < key x) (h2 : ∀ x ∈ U.take k, ∀ y ∈ V.drop l, key x ≤ key y) : mrg key U V = mrg key (U.take k) (V.take l) ++ mrg key (U.drop k) (V.drop l) := by
 have := mrg_split (key := key) (u2 := U.drop k) (v2 := V.drop l) _ (U.take k) (V.take l) (Nat.le_refl _) h1 h2
 rw [List.take_append_drop, List.take_append_drop] at this
 exact this
theorem sym_one {A V B : List α} {u : α} {a m b : Nat} (hV : Srt key V) (ha : a = A.length) (hm : m = a + 1) (hb : b = m + V.length) : mvR (A ++ (u :: (V ++ B))) a (bsr (pA key (A ++ (u :: (V ++ B))) a) m b - 1 - a) = A ++ (mrg key [u] V ++ B) := by
 obtain ⟨s1, s2, s3, s4⟩ := bsr_spec (pA key (A ++ (u :: (V ++ B))) a) _ m b (Nat.le_refl _) (by omega)
 generalize hr : bsr (pA key (A ++ (u :: (V ++ B))) a) m b = r at s1 s2 s3 s4
 have gu : (A ++ (u :: (V ++ B))).getD a default = u := getD_at ha
 have gv : ∀ k, k < V.length → (A ++ (u :: (V ++ B))).getD (m + k) default = V.getD k default := fun k hk => by
  have e : A ++ (u :: (V ++ B)) = (A ++ [u]) ++ (V ++ B) := by simp
  rw [e, getD_app (by simp; omega), getD_left hk]
 have c1 : ∀ y ∈ V.take (r - m), key y < key u := take_lt hV (by
  rcases s3 with e | e
  ·left; omega
  ·by_cases h0 : r = m
   ·left; omega
   ·right
    refine ⟨by omega, ?_⟩
    unfold pA at e
    rw [gu, show r - 1 = m + (r - m - 1) by omega, gv _ (by omega)] at e
    simpa using e)
 have c2 : ∀ y ∈ V.drop (r - m), key u ≤ key y := drop_ge hV (by
  rcases s4 with e | e
  ·left; omega
  ·by_cases h0 : r = b
   ·left; omega
   ·right
    unfold pA at e
    rw [gu, show r = m + (r - m) by omega, gv _ (by omega)] at e
    have := decide_eq_false_iff_not.1 e
    omega)
 have hc := mrg_cut (U := [u]) (V := V) (k := 0) (l := r - m) (fun x hx y hy => by simp at hx; rw [hx]; exact c1 y hy) (fun x hx => by simp at hx)
 rw [hc, List.take_zero, mrg_nil', List.drop_zero, mrg_low (fun x hx y hy => by simp at hx; rw [hx]; exact c2 y hy)]
 have l1 : (V.take (r - m)).length = r - 1 - a := by rw [List.length_take]; omega
 have e : A ++ (u :: (V ++ B)) = A ++ u :: (V.take (r - m) ++ (V.drop (r - m) ++ B)) := by rw [← List.append_assoc (V.take _), List.take_append_drop]
 rw [e, ha] at *
 rw [mvR_ok _ _ _ l1]
 simp
theorem sym_last {A U B : List α} {v : α} {a m b : Nat} (hU : Srt key U) (ha : a = A.length) (hm : m = a + U.length) : mvL (A ++ (U ++ v :: B)) m (m - bsr (pB key (A ++ (U ++ v :: B)) m) a m) = A ++ (mrg key U [v] ++ B) := by
 obtain ⟨s1, s2, s3, s4⟩ := bsr_spec (pB key (A ++ (U ++ v :: B)) m) _ a m (Nat.le_refl _) (by omega)
 generalize hr : bsr (pB key (A ++ (U ++ v :: B)) m) a m = r at s1 s2 s3 s4
 have gv : (A ++ (U ++ v :: B)).getD m default = v := by
  rw [← List.append_assoc]
  exact getD_at (by simp; omega)
 have gu : ∀ k, k < U.length → (A ++ (U ++ v :: B)).getD (a + k) default = U.getD k default := fun k hk => by rw [getD_app ha, getD_left hk]
 have c1 : ∀ y ∈ U.take (r - a), key y ≤ key v := take_le hU (by
  rcases s3 with e | e
  ·left; omega
  ·by_cases h0 : r = a
   ·left; omega
   ·right
    refine ⟨by omega, ?_⟩
    unfold pB at e
    rw [gv, show r - 1 = a + (r - a - 1) by omega, gu _ (by omega)] at e
    have := of_decide_eq_true e
    omega)
 have c2 : ∀ y ∈ U.drop (r - a), key v < key y := drop_gt hU (by
  rcases s4 with e | e
  ·left; omega
  ·by_cases h0 : r = m
   ·left; omega
   ·right
    unfold pB at e
    rw [gv, show r = a + (r - a) by omega, gu _ (by omega)] at e
    have := decide_eq_false_iff_not.1 e
    omega)
 have hc := mrg_cut (U := U) (V := [v]) (k := r - a) (l := 1) (fun x hx y hy => by simp at hy; rw [hy]; exact c2 x hx) (fun x hx y hy => by simp at hy)
 have t1 : [v].take 1 = [v] := rfl
 have t2 : [v].drop 1 = ([] : List α) := rfl
 rw [hc, t1, t2, mrg_nil, mrg_low (fun x hx y hy => by simp at hy; rw [hy]; exact c1 x hx)]
 have l1 : (U.drop (r - a)).length = m - r := by rw [List.length_drop]; omega
 have l2 : (U.take (r - a)).length = r - a := by rw [List.length_take]; omega
 have e : A ++ (U ++ v :: B) = A ++ (U.take (r - a) ++ (U.drop (r - a) ++ v :: B)) := by rw [← List.append_assoc (U.take _), List.take_append_drop]
 rw [e, mvL_ok _ _ _ _ l1 (by omega)]
 simp
theorem sym_ok : ∀ (f : Nat) (A U V B : List α) (a m b : Nat), b - a ≤ f → Srt key U → Srt key V → 0 < U.length → 0 < V.length → a = A.length → m = a + U.length → b = m + V.length → symF key f (A ++ (U ++ (V ++ B))) a m b = A ++ (mrg key U V ++ B)
 | 0, A, U, V, B, a, m, b, h, _, _, h1, h2, ha, hm, hb => by omega
 | f + 1, A, U, V, B, a, m, b, h, hU, hV, h1, h2, ha, hm, hb => by
  rw [symF]
  by_cases c1 : m - a = 1
  ·rw [if_pos c1]
   match U, h1, hm with
   | [u], _, hm => exact sym_one hV ha hm hb
   | u :: u2 :: U', _, hm => simp at hm; omega
  ·rw [if_neg c1]
   by_cases c2 : b - m = 1
   ·rw [if_pos c2]
    match V, h2, hb with
    | [v], _, hb => exact sym_last (b := b) hU ha hm
    | v :: v2 :: V', _, hb => simp at hb; omega
   ·rw [if_neg c2]
    simp only []
    have spec : a ≤ symS key (A ++ (U ++ (V ++ B))) a m b ∧ symS key (A ++ (U ++ (V ++ B))) a m b ≤ m ∧ symS key (A ++ (U ++ (V ++ B))) a m b ≤ (a + b) / 2 ∧ (a + b) / 2 + m - symS key (A ++ (U ++ (V ++ B))) a m b ≤ b ∧
      (symS key (A ++ (U ++ (V ++ B))) a m b = a ∨ (a + b) / 2 + m - symS key (A ++ (U ++ (V ++ B))) a m b = b ∨ pC key (A ++ (U ++ (V ++ B))) ((a + b) / 2 + m - 1) (symS key (A ++ (U ++ (V ++ B))) a m b - 1) = true) ∧
      (symS key (A ++ (U ++ (V ++ B))) a m b = m ∨ symS key (A ++ (U ++ (V ++ B))) a m b = (a + b) / 2 ∨ pC key (A ++ (U ++ (V ++ B))) ((a + b) / 2 + m - 1) (symS key (A ++ (U ++ (V ++ B))) a m b) = false) := by
     unfold symS
     split
     ·rename_i c
      obtain ⟨s1, s2, s3, s4⟩ := bsr_spec (pC key (A ++ (U ++ (V ++ B))) ((a + b) / 2 + m - 1)) _ ((a + b) / 2 + m - b) ((a + b) / 2) (Nat.le_refl _) (by omega)
      refine ⟨by omega, by omega, s2, by omega, ?_, ?_⟩
      ·rcases s3 with e | e
       ·right; left; omega
       ·exact .inr (.inr e)
      ·rcases s4 with e | e
       ·right; left; exact e
       ·exact .inr (.inr e)
     ·rename_i c
      obtain ⟨s1, s2, s3, s4⟩ := bsr_spec (pC key (A ++ (U ++ (V ++ B))) ((a + b) / 2 + m - 1)) _ a m (Nat.le_refl _) (by omega)
      refine ⟨s1, s2, by omega, by omega, ?_, ?_⟩
      ·rcases s3 with e | e
       ·left; exact e
       ·exact .inr (.inr e)
      ·rcases s4 with e | e
       ·left; exact e
       ·exact .inr (.inr e)
    generalize hst : symS key (A ++ (U ++ (V ++ B))) a m b = st at spec
    obtain ⟨s1, s2, s3, s4, s5, s6⟩ := spec
    generalize hmd : (a + b) / 2 = mid at s3 s4 s5 s6
    have hmid1 : a < mid := by omega
    have hmid2 : mid < b := by omega
    have gu : ∀ k, k < U.length → (A ++ (U ++ (V ++ B))).getD (a + k) default = U.getD k default := fun k hk => by rw [getD_app ha, getD_left hk]
    have gv : ∀ k, k < V.length → (A ++ (U ++ (V ++ B))).getD (m + k) default = V.getD k default := fun k hk => by rw [← List.append_assoc, getD_app (by simp; omega), getD_left hk]
    have x1 : ∀ x ∈ U.drop (st - a), ∀ y ∈ V.take (mid - st), key y < key x := fun x hx y hy => by
     have hlx : st - a < U.length := by
      rcases Nat.lt_or_ge (st - a) U.length with e | e
      ·exact e
      ·rw [List.drop_of_length_le e] at hx; simp at hx
     have hly : 0 < mid - st := by
      rcases Nat.eq_zero_or_pos (mid - st) with e | e
      ·rw [e] at hy; simp at hy
      ·exact e
     rcases s6 with e | e | e
     ·omega
     ·omega
     ·unfold pC at e
      rw [show mid + m - 1 - st = m + (mid - st - 1) by omega, show st = a + (st - a) by omega, gu _ hlx, ← show st = a + (st - a) by omega, gv _ (by omega)] at e
      have e2 := decide_eq_false_iff_not.1 e
      have e3 : key (V.getD (mid - st - 1) default) < key (U.getD (st - a) default) := Decidable.not_not.1 e2
      have y1 := take_le hV (k := mid - st) (c := key (V.getD (mid - st - 1) default)) (.inr ⟨by omega, Int.le_refl _⟩) y hy
      have x2 := drop_ge hU (k := st - a) (c := key (U.getD (st - a) default)) (.inr (Int.le_refl _)) x hx
      omega
    have x2 : ∀ x ∈ U.take (st - a), ∀ y ∈ V.drop (mid - st), key x ≤ key y := fun x hx y hy => by
     have hlx : 0 < st - a := by
      rcases Nat.eq_zero_or_pos (st - a) with e | e
      ·rw [e] at hx; simp at hx
      ·exact e
     have hly : mid - st < V.length := by
      rcases Nat.lt_or_ge (mid - st) V.length with e | e
      ·exact e
      ·rw [List.drop_of_length_le e] at hy; simp at hy
     rcases s5 with e | e | e
     ·omega
     ·omega
     ·unfold pC at e
      rw [show mid + m - 1 - (st - 1) = m + (mid - st) by omega, show st - 1 = a + (st - a - 1) by omega, gu _ (by omega), gv _ hly] at e
      have e2 := of_decide_eq_true e
      have y1 := drop_ge hV (k := mid - st) (c := key (V.getD (mid - st) default)) (.inr (Int.le_refl _)) y hy
      have z1 := take_le hU (k := st - a) (c := key (U.getD (st - a - 1) default)) (.inr ⟨by omega, Int.le_refl _⟩) x hx
      omega
    have lU1 : (U.take (st - a)).length = st - a := by rw [List.length_take]; omega
    have lU2 : (U.drop (st - a)).length = m - st := by rw [List.length_drop]; omega
    have lV1 : (V.take (mid - st)).length = mid - st := by rw [List.length_take]; omega
    have lV2 : (V.drop (mid - st)).length = b - (mid + m - st) := by rw [List.length_drop]; omega
    have eX : A ++ (U ++ (V ++ B)) = (A ++ U.take (st - a)) ++ (U.drop (st - a) ++ (V.take (mid - st) ++ (V.drop (mid - st) ++ B))) := by
     rw [← List.append_assoc (V.take _), List.take_append_drop, List.append_assoc A, ← List.append_assoc (U.take _), List.take_append_drop]
    have r1 : (if st < m ∧ m < mid + m - st then rotF (m - st + (mid + m - st - m)) (A ++ (U ++ (V ++ B))) m (m - st) (mid + m - st - m) else A ++ (U ++ (V ++ B))) = (A ++ U.take (st - a)) ++ (V.take (mid - st) ++ (U.drop (st - a) ++ (V.drop (mid - st) ++ B))) := by
     split
     ·rename_i c
      rw [eX]
      exact rot_ok _ _ _ _ _ _ _ _ (Nat.le_refl _) (by omega) (by omega) lU2 (by omega) (by simp [lU1]; omega)
     ·rename_i c
      rw [eX]
      by_cases c3 : st < m
      ·rw [List.eq_nil_of_length_eq_zero (show (V.take (mid - st)).length = 0 by omega)]; rfl
      ·rw [List.eq_nil_of_length_eq_zero (show (U.drop (st - a)).length = 0 by omega)]; rfl
    rw [r1]
    have lM : (mrg key (U.take (st - a)) (V.take (mid - st))).length = mid - a := by rw [mrg_len _ _ (srt_take hU _) (srt_take hV _), lU1, lV1]; omega
    have r2 : (if a < st ∧ st < mid then symF key f ((A ++ U.take (st - a)) ++ (V.take (mid - st) ++ (U.drop (st - a) ++ (V.drop (mid - st) ++ B)))) a st mid else (A ++ U.take (st - a)) ++ (V.take (mid - st) ++ (U.drop (st - a) ++ (V.drop (mid - st) ++ B)))) = A ++ (mrg key (U.take (st - a)) (V.take (mid - st)) ++ (U.drop (st - a) ++ (V.drop (mid - st) ++ B))) := by
     rw [List.append_assoc A]
     split
     ·rename_i c
      exact sym_ok f A (U.take (st - a)) (V.take (mid - st)) _ a st mid (by omega) (srt_take hU _) (srt_take hV _) (by omega) (by omega) ha (by omega) (by omega)
     ·rename_i c
      by_cases c3 : a < st
      ·rw [List.eq_nil_of_length_eq_zero (show (V.take (mid - st)).length = 0 by omega), mrg_nil]; rfl
      ·rw [List.eq_nil_of_length_eq_zero (show (U.take (st - a)).length = 0 by omega), mrg_nil']; rfl
    rw [r2]
    have hcut := mrg_cut (U := U) (V := V) (k := st - a) (l := mid - st) x1 x2
    rw [hcut]
    have eA : A ++ (mrg key (U.take (st - a)) (V.take (mid - st)) ++ (U.drop (st - a) ++ (V.drop (mid - st) ++ B))) = (A ++ mrg key (U.take (st - a)) (V.take (mid - st))) ++ (U.drop (st - a) ++ (V.drop (mid - st) ++ B)) := by simp
    rw [eA]
    split
    ·rename_i c
     rw [sym_ok f (A ++ mrg key (U.take (st - a)) (V.take (mid - st))) (U.drop (st - a)) (V.drop (mid - st)) B mid (mid + m - st) b (by omega) (srt_drop hU _) (srt_drop hV _) (by omega) (by omega) (by simp [lM]; omega) (by omega) (by omega)]
     simp
    ·rename_i c
     by_cases c3 : mid < mid + m - st
     ·rw [List.eq_nil_of_length_eq_zero (show (V.drop (mid - st)).length = 0 by omega), mrg_nil]
      simp
     ·rw [List.eq_nil_of_length_eq_zero (show (U.drop (st - a)).length = 0 by omega), mrg_nil']
      simp
end
end Go.Mth

namespace Go.Mth
section
variable {α : Type} [Inhabited α]
theorem rotF_gt {f : Nat} {X : List α} {m i j : Nat} (hf : 0 < f) (h : j < i) : rotF (f - 1) (swr X (m - i) m j) m (i - j) j = rotF f X m i j := by
 obtain ⟨g, rfl⟩ : ∃ g, f = g + 1 := ⟨f - 1, by omega⟩
 rw [rotF, if_neg (by omega), if_pos h]; rfl
theorem rotF_lt {f : Nat} {X : List α} {m i j : Nat} (hf : 0 < f) (h : i < j) : rotF (f - 1) (swr X (m - i) (m + j - i) i) m i (j - i) = rotF f X m i j := by
 obtain ⟨g, rfl⟩ : ∃ g, f = g + 1 := ⟨f - 1, by omega⟩
 rw [rotF, if_neg (by omega), if_neg (by omega)]; rfl
theorem rotF_eq {f : Nat} {X : List α} {m i j : Nat} (hf : 0 < f) (h : i = j) : swr X (m - i) m i = rotF f X m i j := by
 obtain ⟨g, rfl⟩ : ∃ g, f = g + 1 := ⟨f - 1, by omega⟩
 rw [rotF, if_pos h]
variable {key : α → Int}
theorem sym_1 {f e : Nat} {D : List α} {a m b i : Nat} (he : f = e + 1) (h : m - a = 1) (hi : i = bsr (pA key D a) m b) : mvR D a (i - 1 - a) = symF key f D a m b := by
 subst he; rw [symF, if_pos h, hi]
theorem sym_2 {f e : Nat} {D : List α} {a m b i : Nat} (he : f = e + 1) (h : ¬ m - a = 1) (h2 : b - m = 1) (hi : i = bsr (pB key D m) a m) : mvL D m (m - i) = symF key f D a m b := by
 subst he; rw [symF, if_neg h, if_pos h2, hi]
theorem sym_3 {f e : Nat} {D X1 X2 X3 : List α} {a m b p : Nat} (he : f = e + 1) (h : ¬ m - a = 1) (h2 : ¬ b - m = 1) (hp : symS key D a m b = p)
  (h4 : X1 = if p < m ∧ m < (a + b) / 2 + m - p then rotF (m - p + ((a + b) / 2 + m - p - m)) D m (m - p) ((a + b) / 2 + m - p - m) else D)
  (h5 : X2 = if a < p ∧ p < (a + b) / 2 then symF key e X1 a p ((a + b) / 2) else X1)
  (h6 : X3 = if (a + b) / 2 < (a + b) / 2 + m - p ∧ (a + b) / 2 + m - p < b then symF key e X2 ((a + b) / 2) ((a + b) / 2 + m - p) b else X2) : X3 = symF key f D a m b := by
 subst he; rw [symF, if_neg h, if_neg h2, hp, h6, h5, h4]
theorem bs_end {P : Nat → Bool} {i j x : Nat} (h : bsr P i j = x) (hij : ¬ i < j) : i = x := by rw [← h, bsr_end hij]
theorem bs_up {P : Nat → Bool} {i j x : Nat} (h : bsr P i j = x) (hij : i < j) (hp : P ((i + j) / 2) = true) : bsr P ((i + j) / 2 + 1) j = x := by rw [← h, bsr_up hij hp]
theorem bs_dn {P : Nat → Bool} {i j x : Nat} (h : bsr P i j = x) (hij : i < j) (hp : ¬ P ((i + j) / 2) = true) : bsr P i ((i + j) / 2) = x := by rw [← h, bsr_dn hij hp]
theorem pA_y {X : List α} {a h : Nat} (c : cmpZ (key (X.getD h default)) (key (X.getD a default)) < 0) : pA key X a h = true := decide_eq_true (cmpZ_lt.1 c)
theorem pA_n {X : List α} {a h : Nat} (c : ¬ cmpZ (key (X.getD h default)) (key (X.getD a default)) < 0) : ¬ pA key X a h = true := fun e => c (cmpZ_lt.2 (of_decide_eq_true e))
theorem pB_y {X : List α} {m h : Nat} (c : ¬ cmpZ (key (X.getD m default)) (key (X.getD h default)) < 0) : pB key X m h = true := decide_eq_true fun e => c (cmpZ_lt.2 e)
theorem pB_n {X : List α} {m h : Nat} (c : cmpZ (key (X.getD m default)) (key (X.getD h default)) < 0) : ¬ pB key X m h = true := fun e => of_decide_eq_true e (cmpZ_lt.1 c)
theorem pC_y {X : List α} {p h : Nat} (c : ¬ cmpZ (key (X.getD (p - h) default)) (key (X.getD h default)) < 0) : pC key X p h = true := decide_eq_true fun e => c (cmpZ_lt.2 e)
theorem pC_n {X : List α} {p h : Nat} (c : cmpZ (key (X.getD (p - h) default)) (key (X.getD h default)) < 0) : ¬ pC key X p h = true := fun e => of_decide_eq_true e (cmpZ_lt.1 c)
theorem symS_lo {X : List α} {a m b p : Nat} (h : (a + b) / 2 < m) (hp : p = (a + b) / 2 + m - b) : bsr (pC key X ((a + b) / 2 + m - 1)) p ((a + b) / 2) = symS key X a m b := by unfold symS; rw [if_pos h, hp]
theorem symS_hi {X : List α} {a m b : Nat} (h : ¬ (a + b) / 2 < m) : bsr (pC key X ((a + b) / 2 + m - 1)) a m = symS key X a m b := by unfold symS; rw [if_neg h]
end
end Go.Mth

namespace Go.Proofs.YtjbaamfahkjhgaaGreatDoor
open Go Go.Ab Go.Mth
theorem f113_ : callable cx.P 134 = true := by kernel_rfl
theorem f114_ : tyInt cx.P 149 = some .u64 := by kernel_rfl
theorem f115_ : callable cx.P 125 = true := by kernel_rfl
theorem f116_ : callable cx.P 114 = true := by kernel_rfl
theorem f117_ : callable cx.P 135 = true := by kernel_rfl
theorem f118_ : callable cx.P 126 = true := by kernel_rfl
theorem f119_ : callable cx.P 116 = true := by kernel_rfl
theorem c_swpf (kf : Nat) (key : Fal → Int) (hkey : ∀ x y : Fal, ECalls cx 93 [falV x, falV y, .ip [.clo kf []]] (.lit (.int .i64 (cmpZ (key x) (key y))))) (D : List Fal) (L : List Int) (a b n : Nat) (ha : a + n ≤ D.length) (hb : b + n ≤ D.length) (hD : D.length ≤ 1000000) :
  RCalls cx 134 [.row 20, Nv a, Nv b, Nv n, .clo 93 [.ip [.clo kf []]]] [2, 3, 20] [v2v, r0v D, v3v, r1v L] (.tup []) [v2v, r0v (swr D a b n), v3v, r1v L] := by
 refine rcalls_of_x (X := [(2, false), (3, false), (20, true)]) (scalls_of_awpB 9009 Tryz.func134 (c := _) rfl (Nat.le_of_ble_eq_true rfl) rfl rfl rfl (fun us => ?_)) rfl
 refine awp_late ?_
 show awp cx 38 _ (lateQ cx 38 (postS cx Tryz.f134 (.tup []) [v2v, r0v (swr D a b n), v3v, r1v L] 9009 [.ref 2 0, .ref 3 0, .row 20] us)) ⟨[(0, .row 20), (1, Nv a), (2, Nv b), (3, Nv n), (4, .clo 93 [.ip [.clo kf []]])], [p0v us, v2v, r0v D, v3v, r1v L]⟩
 refine awp_seq fun K0 hK0 => awp_region rfl (o_as (Nv 0) rfl (aops_end (hK0 _ ?_)))
 refine awp_block ?_
 refine awp_loopR (fun κ σ => ∃ (i : Nat), (i ≤ n) ∧ (n - i) = κ ∧ σ = ⟨[(0, .row 20), (1, Nv a), (2, Nv b), (3, Nv n), (4, .clo 93 [.ip [.clo kf []]]), (10, Nv i)], [p0v us, v2v, r0v (swr D a b i), v3v, r1v L]⟩) ⟨_, _, ⟨0, (by omega), rfl, rfl⟩, ?wk0⟩ ?rd0
 case wk0 =>
  exact Wk.sub ⟨rfl, rfl, rfl, rfl, rfl, (by rfl), trivial⟩ ⟨rfl, rfl, (by rfl), rfl, rfl, trivial⟩
 rintro κ _ ⟨i, hi, rfl, rfl⟩
 have hXl := swr_len D a b i
 refine awp_seq fun K1 hK1 => awp_seq fun K2 hK2 => awp_region rfl (o_mv (Nv i) rfl (o_mv (Nv n) rfl ?_))
 refine n_lss i n gn rfl rfl ?_
 refine aops_end (hK2 _ ?_)
 refine awp_condQ (q := i < n) rfl (fun h1 => ?_) (fun h1 => ?_)
 ·refine awp_skip (hK1 _ (awp_seq fun K3 hK3 => ?_))
  refine awp_block ?_
  refine awp_regionT rfl ?_
  refine o_mv (.row 20) rfl (o_mv (Nv a) rfl (o_mv (Nv i) rfl ?_))
  refine n_add a i gn rfl rfl (by simp only [topOf]; omega) ?_
  refine o_mv (.row 20) rfl (o_mv (Nv b) rfl (o_mv (Nv i) rfl ?_))
  refine n_add b i gn rfl rfl (by simp only [topOf]; omega) ?_
  refine o_mv (.row 20) rfl (o_mv (Nv b) rfl (o_mv (Nv i) rfl ?_))
  refine n_add b i gn rfl rfl (by simp only [topOf]; omega) ?_
  refine g_indexRow cL (swr D a b i) (b + i) cL_len rfl gn f110_ rfl rfl rfl (by omega) ?_
  refine g_loadRowA cL (swr D a b i) (b + i) default cL_len gn f109_ rfl rfl (by omega) ?_
  refine o_mv (.row 20) rfl (o_mv (Nv a) rfl (o_mv (Nv i) rfl ?_))
  refine n_add a i gn rfl rfl (by simp only [topOf]; omega) ?_
  refine g_indexRow cL (swr D a b i) (a + i) cL_len rfl gn f110_ rfl rfl rfl (by omega) ?_
  refine g_loadRowA cL (swr D a b i) (a + i) default cL_len gn f109_ rfl rfl (by omega) ?_
  refine g_indexRow cL (swr D a b i) (a + i) cL_len rfl gn f110_ rfl rfl rfl (by omega) ?_
  refine g_storeRow cL (swr D a b i) (a + i) ((swr D a b i).getD (b + i) default) [p0v us, v2v, r0v ((swr D a b i).set (a + i) ((swr D a b i).getD (b + i) default)), v3v, r1v L] cL_len cL_closed gn f108_ rfl rfl rfl (by omega) rfl ?_
  refine g_indexRow cL ((swr D a b i).set (a + i) ((swr D a b i).getD (b + i) default)) (b + i) cL_len rfl gn f110_ rfl rfl rfl (by simp only [List.length_set]; omega) ?_
  refine g_storeRow cL ((swr D a b i).set (a + i) ((swr D a b i).getD (b + i) default)) (b + i) ((swr D a b i).getD (a + i) default) [p0v us, v2v, r0v (((swr D a b i).set (a + i) ((swr D a b i).getD (b + i) default)).set (b + i) ((swr D a b i).getD (a + i) default)), v3v, r1v L] cL_len cL_closed gn f108_ rfl rfl rfl (by (simp only [List.length_set]; omega)) rfl ?_
  refine aops_end ⟨by kernel_rfl, ?_⟩
  refine hK3 _ (awp_region rfl (o_mv (Nv i) rfl ?_))
  refine n_add i 1 gn rfl rfl (by simp only [topOf]; omega) ?_
  refine o_as (Nv (i + 1)) rfl (aops_end ?_)
  refine ⟨_, _, ?lt, ⟨i + 1, (by omega), rfl, rfl⟩, ?wk⟩
  case lt => omega
  case wk => exact Wk.sub ⟨rfl, rfl, rfl, rfl, rfl, (by rfl), trivial⟩ ⟨rfl, rfl, (by rfl), rfl, rfl, trivial⟩
 ·refine awp_exit ?_
  exact ⟨⟨[], [p0v us, v2v, r0v (swr D a b n), v3v, r1v L]⟩, Wk.sub trivial ⟨rfl, rfl, (by (exact row_gs' (by rw [show i = n by omega]))), rfl, rfl, trivial⟩, ⟨[], trivial, rfl, fun id ob h => keep_pin h rfl, rfl⟩⟩

theorem c_rotf (kf : Nat) (key : Fal → Int) (hkey : ∀ x y : Fal, ECalls cx 93 [falV x, falV y, .ip [.clo kf []]] (.lit (.int .i64 (cmpZ (key x) (key y))))) (D : List Fal) (L : List Int) (a m b : Nat) (ham : a < m) (hmb : m < b) (hb : b ≤ D.length) (hD : D.length ≤ 1000000) :
  RCalls cx 125 [.row 20, Nv a, Nv m, Nv b, .clo 93 [.ip [.clo kf []]]] [2, 3, 20] [v2v, r0v D, v3v, r1v L] (.tup []) [v2v, r0v (rotF (m - a + (b - m)) D m (m - a) (b - m)), v3v, r1v L] := by
 refine rcalls_of_x (X := [(2, false), (3, false), (20, true)]) (scalls_of_awpB 9009 Tryz.func125 (c := _) rfl (Nat.le_of_ble_eq_true rfl) rfl rfl rfl (fun us => ?_)) rfl
 refine awp_late ?_
 show awp cx 58 _ (lateQ cx 58 (postS cx Tryz.f125 (.tup []) [v2v, r0v (rotF (m - a + (b - m)) D m (m - a) (b - m)), v3v, r1v L] 9009 [.ref 2 0, .ref 3 0, .row 20] us)) ⟨[(0, .row 20), (1, Nv a), (2, Nv m), (3, Nv b), (4, .clo 93 [.ip [.clo kf []]])], [p0v us, v2v, r0v D, v3v, r1v L]⟩
 refine awp_seq fun K0 hK0 => awp_region rfl (o_mv (Nv m) rfl (o_mv (Nv a) rfl ?_))
 refine n_sub m a gn rfl rfl (by omega) (by simp only [topOf]; omega) ?_
 refine o_as (Nv (m - a)) rfl (aops_end (hK0 _ (awp_seq fun K1 hK1 => awp_region rfl (o_mv (Nv b) rfl (o_mv (Nv m) rfl ?_)))))
 refine n_sub b m gn rfl rfl (by omega) (by simp only [topOf]; omega) ?_
 refine o_as (Nv (b - m)) rfl (aops_end (hK1 _ (awp_seq fun K2 hK2 => ?_)))
 refine awp_block ?_
 refine awp_loopR (fun κ σ => ∃ (f : Nat), ∃ (i : Nat), ∃ (j : Nat), ∃ (X : List Fal), (rotF f X m i j = rotF (m - a + (b - m)) D m (m - a) (b - m)) ∧ (X.length = D.length) ∧ (i + j ≤ f) ∧ (0 < i ∧ i ≤ m - a) ∧ (0 < j ∧ j ≤ b - m) ∧ (i + j) = κ ∧ σ = ⟨[(0, .row 20), (2, Nv m), (4, .clo 93 [.ip [.clo kf []]]), (10, Nv i), (11, Nv j)], [p0v us, v2v, r0v X, v3v, r1v L]⟩) ⟨_, _, ⟨m - a + (b - m), m - a, b - m, D, rfl, rfl, (by omega), (by omega), (by omega), rfl, rfl⟩, ?wk0⟩ ?rd0
 case wk0 =>
  exact Wk.sub ⟨rfl, rfl, rfl, (by rfl), (by rfl), trivial⟩ ⟨rfl, rfl, (by rfl), rfl, rfl, trivial⟩
 rintro κ _ ⟨f, i, j, X, hR, hl, hf, hi, hj, rfl, rfl⟩
 refine awp_seq fun K3 hK3 => awp_seq fun K4 hK4 => awp_region rfl (o_mv (Nv i) rfl (o_mv (Nv j) rfl ?_))
 refine n_neq i j gn rfl rfl ?_
 refine aops_end (hK4 _ ?_)
 refine awp_condQ (q := i ≠ j) rfl (fun h1 => ?_) (fun h1 => ?_)
 ·refine awp_skip (hK3 _ ?_)
  refine awp_block ?_
  refine awp_seq fun K5 hK5 => awp_region rfl (o_mv (Nv i) rfl (o_mv (Nv j) rfl ?_))
  refine n_gtr i j gn rfl rfl ?_
  refine aops_end (hK5 _ ?_)
  refine awp_condQ (q := j < i) rfl (fun h2 => ?_) (fun h2 => ?_)
  ·refine awp_seq fun K6 hK6 => ?_
   refine awp_regionSW 7 31 _ 134 [] _ _ _ _ _ [.row 20, Nv (m - i), Nv m, Nv j, .clo 93 [.ip [.clo kf []]]] (.tup []) [v2v, r0v (swr X (m - i) m j), v3v, r1v L, p0v us] rfl rfl rfl f113_ ?_
   refine o_mv (.row 20) rfl (o_mv (Nv m) rfl (o_mv (Nv i) rfl ?_))
   refine n_sub m i gn rfl rfl (by omega) (by simp only [topOf]; omega) ?_
   refine o_mv (Nv m) rfl (o_mv (Nv j) rfl (o_mv (.clo 93 [.ip [.clo kf []]]) rfl ?_))
   refine aops_end ⟨_, Wk.sub (σ' := ⟨[(0, .row 20), (2, Nv m), (4, .clo 93 [.ip [.clo kf []]]), (10, Nv i), (11, Nv j), (18, Nv i), (19, Nv j), (20, bp (i ≠ j)), (21, Nv i), (22, Nv j), (23, bp (j < i)), (24, .row 20), (27, Nv (m - i)), (28, Nv m), (29, Nv j), (30, .clo 93 [.ip [.clo kf []]])], [v2v, r0v X, v3v, r1v L, p0v us]⟩) ⟨rfl, rfl, rfl, rfl, rfl, rfl, rfl, rfl, rfl, rfl, rfl, rfl, rfl, rfl, rfl, rfl, trivial⟩ ⟨rfl, rfl, rfl, rfl, rfl, trivial⟩, rfl, rfl, scalls_of_r (K := [2, 3, 20]) (m := [v2v, r0v X, v3v, r1v L]) (m' := [v2v, r0v (swr X (m - i) m j), v3v, r1v L]) (e := [p0v us]) (c_swpf kf key hkey X L (m - i) m j (by omega) (by omega) (by omega)) rfl rfl, ?_⟩
   refine hK6 _ (awp_region rfl (o_mv (Nv i) rfl (o_mv (Nv j) rfl ?_)))
   refine n_sub i j gn rfl rfl (by omega) (by simp only [topOf]; omega) ?_
   refine o_as (Nv (i - j)) rfl (aops_end ?_)
   refine ⟨_, _, ?lt, ⟨f - 1, i - j, j, swr X (m - i) m j, ((rotF_gt (by omega) (by omega)).trans hR), (swr_len _ _ _ _).trans hl, (by omega), (by omega), (by omega), rfl, rfl⟩, ?wk⟩
   case lt => omega
   case wk => exact Wk.sub ⟨rfl, rfl, rfl, (by rfl), rfl, trivial⟩ ⟨rfl, rfl, (by rfl), rfl, rfl, trivial⟩
  ·refine awp_seq fun K7 hK7 => ?_
   refine awp_regionSW 11 46 _ 134 [] _ _ _ _ _ [.row 20, Nv (m - i), Nv ((m + j) - i), Nv i, .clo 93 [.ip [.clo kf []]]] (.tup []) [v2v, r0v (swr X (m - i) (m + j - i) i), v3v, r1v L, p0v us] rfl rfl rfl f113_ ?_
   refine o_mv (.row 20) rfl (o_mv (Nv m) rfl (o_mv (Nv i) rfl ?_))
   refine n_sub m i gn rfl rfl (by omega) (by simp only [topOf]; omega) ?_
   refine o_mv (Nv m) rfl (o_mv (Nv j) rfl ?_)
   refine n_add m j gn rfl rfl (by simp only [topOf]; omega) ?_
   refine o_mv (Nv i) rfl ?_
   refine n_sub (m + j) i gn rfl rfl (by omega) (by simp only [topOf]; omega) ?_
   refine o_mv (Nv i) rfl (o_mv (.clo 93 [.ip [.clo kf []]]) rfl ?_)
   refine aops_end ⟨_, Wk.sub (σ' := ⟨[(0, .row 20), (2, Nv m), (4, .clo 93 [.ip [.clo kf []]]), (10, Nv i), (11, Nv j), (18, Nv i), (19, Nv j), (20, bp (i ≠ j)), (21, Nv i), (22, Nv j), (23, bp (j < i)), (35, .row 20), (38, Nv (m - i)), (43, Nv ((m + j) - i)), (44, Nv i), (45, .clo 93 [.ip [.clo kf []]])], [v2v, r0v X, v3v, r1v L, p0v us]⟩) ⟨rfl, rfl, rfl, rfl, rfl, rfl, rfl, rfl, rfl, rfl, rfl, rfl, rfl, rfl, rfl, rfl, trivial⟩ ⟨rfl, rfl, rfl, rfl, rfl, trivial⟩, rfl, rfl, scalls_of_r (K := [2, 3, 20]) (m := [v2v, r0v X, v3v, r1v L]) (m' := [v2v, r0v (swr X (m - i) (m + j - i) i), v3v, r1v L]) (e := [p0v us]) (c_swpf kf key hkey X L (m - i) (m + j - i) i (by omega) (by omega) (by omega)) rfl rfl, ?_⟩
   refine hK7 _ (awp_region rfl (o_mv (Nv j) rfl (o_mv (Nv i) rfl ?_)))
   refine n_sub j i gn rfl rfl (by omega) (by simp only [topOf]; omega) ?_
   refine o_as (Nv (j - i)) rfl (aops_end ?_)
   refine ⟨_, _, ?lt, ⟨f - 1, i, j - i, swr X (m - i) (m + j - i) i, ((rotF_lt (by omega) (by omega)).trans hR), (swr_len _ _ _ _).trans hl, (by omega), (by omega), (by omega), rfl, rfl⟩, ?wk⟩
   case lt => omega
   case wk => exact Wk.sub ⟨rfl, rfl, rfl, rfl, (by rfl), trivial⟩ ⟨rfl, rfl, (by rfl), rfl, rfl, trivial⟩
 ·refine awp_exit ?_
  refine hK2 _ ?_
  refine awp_regionSW 7 57 _ 134 [] _ _ _ _ _ [.row 20, Nv (m - i), Nv m, Nv i, .clo 93 [.ip [.clo kf []]]] (.tup []) [v2v, r0v (swr X (m - i) m i), v3v, r1v L, p0v us] rfl rfl rfl f113_ ?_
  refine o_mv (.row 20) rfl (o_mv (Nv m) rfl (o_mv (Nv i) rfl ?_))
  refine n_sub m i gn rfl rfl (by omega) (by simp only [topOf]; omega) ?_
  refine o_mv (Nv m) rfl (o_mv (Nv i) rfl (o_mv (.clo 93 [.ip [.clo kf []]]) rfl ?_))
  refine aops_end ⟨_, Wk.sub (σ' := ⟨[(0, .row 20), (2, Nv m), (4, .clo 93 [.ip [.clo kf []]]), (10, Nv i), (11, Nv j), (18, Nv i), (19, Nv j), (20, bp (i ≠ j)), (50, .row 20), (53, Nv (m - i)), (54, Nv m), (55, Nv i), (56, .clo 93 [.ip [.clo kf []]])], [v2v, r0v X, v3v, r1v L, p0v us]⟩) ⟨rfl, rfl, rfl, rfl, rfl, rfl, rfl, rfl, rfl, rfl, rfl, rfl, rfl, trivial⟩ ⟨rfl, rfl, rfl, rfl, rfl, trivial⟩, rfl, rfl, scalls_of_r (K := [2, 3, 20]) (m := [v2v, r0v X, v3v, r1v L]) (m' := [v2v, r0v (swr X (m - i) m i), v3v, r1v L]) (e := [p0v us]) (c_swpf kf key hkey X L (m - i) m i (by omega) (by omega) (by omega)) rfl rfl, ?_⟩
  exact ⟨⟨[], [p0v us, v2v, r0v (rotF (m - a + (b - m)) D m (m - a) (b - m)), v3v, r1v L]⟩, Wk.sub trivial ⟨rfl, rfl, (by (exact row_gs' ((rotF_eq (by omega) (by omega)).trans hR))), rfl, rfl, trivial⟩, ⟨[], trivial, rfl, fun id ob h => keep_pin h rfl, rfl⟩⟩

theorem c_symf (kf : Nat) (key : Fal → Int) (hkey : ∀ x y : Fal, ECalls cx 93 [falV x, falV y, .ip [.clo kf []]] (.lit (.int .i64 (cmpZ (key x) (key y))))) (L : List Int) : ∀ (f : Nat) (D : List Fal) (a m b : Nat), b - a ≤ f → a < m → m < b → b ≤ D.length → D.length ≤ 1000000 →
  RCalls cx 114 [.row 20, Nv a, Nv m, Nv b, .clo 93 [.ip [.clo kf []]]] [2, 3, 20] [v2v, r0v D, v3v, r1v L] (.tup []) [v2v, r0v (symF key f D a m b), v3v, r1v L] := by
 intro f
 induction f using Nat.strongRecOn
 rename_i f ih
 intro D a m b hf ham hmb hb hD
 obtain ⟨e, hfe⟩ : ∃ e, f = e + 1 := ⟨f - 1, by omega⟩
 refine rcalls_of_x (X := [(2, false), (3, false), (20, true)]) (scalls_of_awpB 9009 Tryz.func114 (c := _) rfl (Nat.le_of_ble_eq_true rfl) rfl rfl rfl (fun us => ?_)) rfl
 refine awp_late ?_
 show awp cx 220 _ (lateQ cx 220 (postS cx Tryz.f114 (.tup []) [v2v, r0v (symF key f D a m b), v3v, r1v L] 9009 [.ref 2 0, .ref 3 0, .row 20] us)) ⟨[(0, .row 20), (1, Nv a), (2, Nv m), (3, Nv b), (4, .clo 93 [.ip [.clo kf []]])], [p0v us, v2v, r0v D, v3v, r1v L]⟩
 refine awp_seq fun K0 hK0 => awp_seq fun K1 hK1 => awp_region rfl (o_mv (Nv m) rfl (o_mv (Nv a) rfl ?_))
 refine n_sub m a gn rfl rfl (by omega) (by simp only [topOf]; omega) ?_
 refine n_eql (m - a) 1 gn rfl rfl ?_
 refine aops_end (hK1 _ ?_)
 refine awp_condQ (q := (m - a) = 1) rfl (fun h1 => ?_) (fun h1 => ?_)
 ·refine awp_seq fun K2 hK2 => awp_region rfl (o_mv (Nv m) rfl (o_as (Nv m) rfl (aops_end (hK2 _ (awp_seq fun K3 hK3 => awp_region rfl (o_mv (Nv b) rfl (o_as (Nv b) rfl (aops_end (hK3 _ ?_)))))))))
  refine awp_seq fun K4 hK4 => ?_
  refine awp_block ?_
  refine awp_loopR (fun κ σ => ∃ (i : Nat), ∃ (j : Nat), (bsr (pA key D a) i j = bsr (pA key D a) m b) ∧ (m ≤ i ∧ i ≤ j ∧ j ≤ b) ∧ (j - i) = κ ∧ σ = ⟨[(0, .row 20), (1, Nv a), (2, Nv m), (3, Nv b), (4, .clo 93 [.ip [.clo kf []]]), (10, Nv i), (11, Nv j)], [p0v us, v2v, r0v D, v3v, r1v L]⟩) ⟨_, _, ⟨m, b, rfl, (by omega), rfl, rfl⟩, ?wk0⟩ ?rd0
  case wk0 =>
   exact Wk.sub ⟨rfl, rfl, rfl, rfl, rfl, (by rfl), (by rfl), trivial⟩ ⟨rfl, rfl, rfl, rfl, rfl, trivial⟩
  rintro κ _ ⟨i, j, hbs, hi, rfl, rfl⟩
  refine awp_seq fun K5 hK5 => awp_seq fun K6 hK6 => awp_region rfl (o_mv (Nv i) rfl (o_mv (Nv j) rfl ?_))
  refine n_lss i j gn rfl rfl ?_
  refine aops_end (hK6 _ ?_)
  refine awp_condQ (q := i < j) rfl (fun h2 => ?_) (fun h2 => ?_)
  ·refine awp_skip (hK5 _ ?_)
   refine awp_block ?_
   refine awp_seq fun K7 hK7 => awp_region rfl (o_mv (Nv i) rfl (o_mv (Nv j) rfl ?_))
   refine n_add i j gn rfl rfl (by simp only [topOf]; omega) ?_
   refine n_conv (i + j) gn rfl f41_ f114_ (by simp only [topOf]; omega) ?_
   refine n_shr1 (i + j) gn rfl rfl ?_
   refine n_conv ((i + j) / 2) gn rfl f114_ f41_ (by simp only [topOf]; omega) ?_
   refine o_as (Nv ((i + j) / 2)) rfl (aops_end (hK7 _ (awp_seq fun K8 hK8 => awp_regionD rfl (o_mv (.clo 93 [.ip [.clo kf []]]) rfl (o_mv (.row 20) rfl (o_mv (Nv ((i + j) / 2)) rfl ?_))))))
   refine g_indexRow cL D ((i + j) / 2) cL_len rfl gn f110_ rfl rfl rfl (by omega) ?_
   refine g_loadRowA cL D ((i + j) / 2) default cL_len gn f109_ rfl rfl (by omega) ?_
   refine o_mv (.row 20) rfl (o_mv (Nv a) rfl ?_)
   refine g_indexRow cL D a cL_len rfl gn f110_ rfl rfl rfl (by omega) ?_
   refine g_loadRowA cL D a default cL_len gn f109_ rfl rfl (by omega) ?_
   refine o_callG [] [.agg (cL (D.getD ((i + j) / 2) default)), .agg (cL (D.getD a default)), .ip [.clo kf []]] _ (Iv (cmpZ (key (D.getD ((i + j) / 2) default)) (key (D.getD a default)))) [p0v us, v2v, r0v D, v3v, r1v L] gn f111_ rfl trivial rfl rfl (LeL.cons (AV.le_refl _) (LeL.cons (AV.le_refl _) (LeL.cons (AV.le_refl _) LeL.nil))) (hkey (D.getD ((i + j) / 2) default) (D.getD a default)) rfl ?_
   refine o_lss (a := (cmpZ (key (D.getD ((i + j) / 2) default)) (key (D.getD a default)))) (c := ((0 : Nat) : Int)) gn rfl rfl ?_
   refine aops_end ⟨by kernel_rfl, ?_⟩
   refine hK8 _ ?_
   refine awp_condQ (q := (cmpZ (key (D.getD ((i + j) / 2) default)) (key (D.getD a default))) < ((0 : Nat) : Int)) rfl (fun h3 => ?_) (fun h3 => ?_)
   ·refine awp_region rfl (o_mv (Nv ((i + j) / 2)) rfl ?_)
    refine n_add ((i + j) / 2) 1 gn rfl rfl (by simp only [topOf]; omega) ?_
    refine o_as (Nv (((i + j) / 2) + 1)) rfl (aops_end ?_)
    refine ⟨_, _, ?lt, ⟨(i + j) / 2 + 1, j, (bs_up hbs (by assumption) (pA_y (by assumption))), (by omega), rfl, rfl⟩, ?wk⟩
    case lt => omega
    case wk => exact Wk.sub ⟨rfl, rfl, rfl, rfl, rfl, (by rfl), rfl, trivial⟩ ⟨rfl, rfl, rfl, rfl, rfl, trivial⟩
   ·refine awp_region rfl (o_mv (Nv ((i + j) / 2)) rfl (o_as (Nv ((i + j) / 2)) rfl (aops_end ?_)))
    refine ⟨_, _, ?lt, ⟨i, (i + j) / 2, (bs_dn hbs (by assumption) (pA_n (by assumption))), (by omega), rfl, rfl⟩, ?wk⟩
    case lt => omega
    case wk => exact Wk.sub ⟨rfl, rfl, rfl, rfl, rfl, rfl, (by rfl), trivial⟩ ⟨rfl, rfl, rfl, rfl, rfl, trivial⟩
  ·refine awp_exit ?_
   refine hK4 _ (awp_seq fun K9 hK9 => awp_seq fun K10 hK10 => ?_)
   have hie := bs_end hbs (by assumption)
   refine awp_region rfl (o_mv (Nv a) rfl (o_as (Nv a) rfl (aops_end (hK10 _ ?_))))
   refine awp_block ?_
   refine awp_loopR (fun κ σ => ∃ (q : Nat), (a + q ≤ i - 1) ∧ (i - (a + q)) = κ ∧ σ = ⟨[(0, .row 20), (1, Nv a), (2, Nv m), (3, Nv b), (4, .clo 93 [.ip [.clo kf []]]), (10, Nv i), (13, Nv (a + q))], [p0v us, v2v, r0v (mvR D a q), v3v, r1v L]⟩) ⟨_, _, ⟨0, (by omega), rfl, rfl⟩, ?wk1⟩ ?rd1
   case wk1 =>
    exact Wk.sub ⟨rfl, rfl, rfl, rfl, rfl, rfl, (by rfl), trivial⟩ ⟨rfl, rfl, (by rfl), rfl, rfl, trivial⟩
   rintro κ _ ⟨q, hq, rfl, rfl⟩
   have hXl := mvR_len D a q
   refine awp_seq fun K11 hK11 => awp_seq fun K12 hK12 => awp_region rfl (o_mv (Nv (a + q)) rfl (o_mv (Nv i) rfl ?_))
   refine n_sub i 1 gn rfl rfl (by omega) (by simp only [topOf]; omega) ?_
   refine n_lss (a + q) (i - 1) gn rfl rfl ?_
   refine aops_end (hK12 _ ?_)
   refine awp_condQ (q := (a + q) < (i - 1)) rfl (fun h4 => ?_) (fun h4 => ?_)
   ·refine awp_skip (hK11 _ (awp_seq fun K13 hK13 => ?_))
    refine awp_block ?_
    refine awp_regionT rfl ?_
    refine o_mv (.row 20) rfl (o_mv (Nv (a + q)) rfl (o_mv (.row 20) rfl (o_mv (Nv (a + q)) rfl ?_)))
    refine n_add (a + q) 1 gn rfl rfl (by simp only [topOf]; omega) ?_
    refine o_mv (.row 20) rfl (o_mv (Nv (a + q)) rfl ?_)
    refine n_add (a + q) 1 gn rfl rfl (by simp only [topOf]; omega) ?_
    refine g_indexRow cL (mvR D a q) ((a + q) + 1) cL_len rfl gn f110_ rfl rfl rfl (by omega) ?_
    refine g_loadRowA cL (mvR D a q) ((a + q) + 1) default cL_len gn f109_ rfl rfl (by omega) ?_
    refine o_mv (.row 20) rfl (o_mv (Nv (a + q)) rfl ?_)
    refine g_indexRow cL (mvR D a q) (a + q) cL_len rfl gn f110_ rfl rfl rfl (by omega) ?_
    refine g_loadRowA cL (mvR D a q) (a + q) default cL_len gn f109_ rfl rfl (by omega) ?_
    refine g_indexRow cL (mvR D a q) (a + q) cL_len rfl gn f110_ rfl rfl rfl (by omega) ?_
    refine g_storeRow cL (mvR D a q) (a + q) ((mvR D a q).getD ((a + q) + 1) default) [p0v us, v2v, r0v ((mvR D a q).set (a + q) ((mvR D a q).getD ((a + q) + 1) default)), v3v, r1v L] cL_len cL_closed gn f108_ rfl rfl rfl (by omega) rfl ?_
    refine g_indexRow cL ((mvR D a q).set (a + q) ((mvR D a q).getD ((a + q) + 1) default)) ((a + q) + 1) cL_len rfl gn f110_ rfl rfl rfl (by simp only [List.length_set]; omega) ?_
    refine g_storeRow cL ((mvR D a q).set (a + q) ((mvR D a q).getD ((a + q) + 1) default)) ((a + q) + 1) ((mvR D a q).getD (a + q) default) [p0v us, v2v, r0v (((mvR D a q).set (a + q) ((mvR D a q).getD ((a + q) + 1) default)).set ((a + q) + 1) ((mvR D a q).getD (a + q) default)), v3v, r1v L] cL_len cL_closed gn f108_ rfl rfl rfl (by (simp only [List.length_set]; omega)) rfl ?_
    refine aops_end ⟨by kernel_rfl, ?_⟩
    refine hK13 _ (awp_region rfl (o_mv (Nv (a + q)) rfl ?_))
    refine n_add (a + q) 1 gn rfl rfl (by simp only [topOf]; omega) ?_
    refine o_as (Nv ((a + q) + 1)) rfl (aops_end ?_)
    refine ⟨_, _, ?lt, ⟨q + 1, (by omega), rfl, rfl⟩, ?wk⟩
    case lt => omega
    case wk => exact Wk.sub ⟨rfl, rfl, rfl, rfl, rfl, rfl, (by rfl), trivial⟩ ⟨rfl, rfl, (by rfl), rfl, rfl, trivial⟩
   ·refine awp_exit ?_
    refine hK9 _ ?_
    refine awp_ret ?_
    exact ⟨⟨[], [p0v us, v2v, r0v (symF key f D a m b), v3v, r1v L]⟩, Wk.sub trivial ⟨rfl, rfl, (by (exact row_gs' (by rw [← sym_1 hfe (by assumption) hie, show q = i - 1 - a by omega]))), rfl, rfl, trivial⟩, ⟨[], trivial, rfl, fun id ob h => keep_pin h rfl, rfl⟩⟩
 ·refine awp_skip (hK0 _ (awp_seq fun K14 hK14 => awp_seq fun K15 hK15 => awp_region rfl (o_mv (Nv b) rfl (o_mv (Nv m) rfl ?_))))
  refine n_sub b m gn rfl rfl (by omega) (by simp only [topOf]; omega) ?_
  refine n_eql (b - m) 1 gn rfl rfl ?_
  refine aops_end (hK15 _ ?_)
  refine awp_condQ (q := (b - m) = 1) rfl (fun h5 => ?_) (fun h5 => ?_)
  ·refine awp_seq fun K16 hK16 => awp_region rfl (o_mv (Nv a) rfl (o_as (Nv a) rfl (aops_end (hK16 _ (awp_seq fun K17 hK17 => awp_region rfl (o_mv (Nv m) rfl (o_as (Nv m) rfl (aops_end (hK17 _ ?_)))))))))
   refine awp_seq fun K18 hK18 => ?_
   refine awp_block ?_
   refine awp_loopR (fun κ σ => ∃ (i : Nat), ∃ (j : Nat), (bsr (pB key D m) i j = bsr (pB key D m) a m) ∧ (a ≤ i ∧ i ≤ j ∧ j ≤ m) ∧ (j - i) = κ ∧ σ = ⟨[(0, .row 20), (1, Nv a), (2, Nv m), (3, Nv b), (4, .clo 93 [.ip [.clo kf []]]), (14, Nv i), (15, Nv j)], [p0v us, v2v, r0v D, v3v, r1v L]⟩) ⟨_, _, ⟨a, m, rfl, (by omega), rfl, rfl⟩, ?wk2⟩ ?rd2
   case wk2 =>
    exact Wk.sub ⟨rfl, rfl, rfl, rfl, rfl, (by rfl), (by rfl), trivial⟩ ⟨rfl, rfl, rfl, rfl, rfl, trivial⟩
   rintro κ _ ⟨i, j, hbs, hi, rfl, rfl⟩
   refine awp_seq fun K19 hK19 => awp_seq fun K20 hK20 => awp_region rfl (o_mv (Nv i) rfl (o_mv (Nv j) rfl ?_))
   refine n_lss i j gn rfl rfl ?_
   refine aops_end (hK20 _ ?_)
   refine awp_condQ (q := i < j) rfl (fun h6 => ?_) (fun h6 => ?_)
   ·refine awp_skip (hK19 _ ?_)
    refine awp_block ?_
    refine awp_seq fun K21 hK21 => awp_region rfl (o_mv (Nv i) rfl (o_mv (Nv j) rfl ?_))
    refine n_add i j gn rfl rfl (by simp only [topOf]; omega) ?_
    refine n_conv (i + j) gn rfl f41_ f114_ (by simp only [topOf]; omega) ?_
    refine n_shr1 (i + j) gn rfl rfl ?_
    refine n_conv ((i + j) / 2) gn rfl f114_ f41_ (by simp only [topOf]; omega) ?_
    refine o_as (Nv ((i + j) / 2)) rfl (aops_end (hK21 _ (awp_seq fun K22 hK22 => awp_regionD rfl (o_mv (.clo 93 [.ip [.clo kf []]]) rfl (o_mv (.row 20) rfl (o_mv (Nv m) rfl ?_))))))
    refine g_indexRow cL D m cL_len rfl gn f110_ rfl rfl rfl (by omega) ?_
    refine g_loadRowA cL D m default cL_len gn f109_ rfl rfl (by omega) ?_
    refine o_mv (.row 20) rfl (o_mv (Nv ((i + j) / 2)) rfl ?_)
    refine g_indexRow cL D ((i + j) / 2) cL_len rfl gn f110_ rfl rfl rfl (by omega) ?_
    refine g_loadRowA cL D ((i + j) / 2) default cL_len gn f109_ rfl rfl (by omega) ?_
    refine o_callG [] [.agg (cL (D.getD m default)), .agg (cL (D.getD ((i + j) / 2) default)), .ip [.clo kf []]] _ (Iv (cmpZ (key (D.getD m default)) (key (D.getD ((i + j) / 2) default)))) [p0v us, v2v, r0v D, v3v, r1v L] gn f111_ rfl trivial rfl rfl (LeL.cons (AV.le_refl _) (LeL.cons (AV.le_refl _) (LeL.cons (AV.le_refl _) LeL.nil))) (hkey (D.getD m default) (D.getD ((i + j) / 2) default)) rfl ?_
    refine o_lss (a := (cmpZ (key (D.getD m default)) (key (D.getD ((i + j) / 2) default)))) (c := ((0 : Nat) : Int)) gn rfl rfl ?_
    refine o_notP (q := (cmpZ (key (D.getD m default)) (key (D.getD ((i + j) / 2) default))) < ((0 : Nat) : Int)) gn rfl ?_
    refine aops_end ⟨by kernel_rfl, ?_⟩
    refine hK22 _ ?_
    refine awp_condQ (q := ¬ ((cmpZ (key (D.getD m default)) (key (D.getD ((i + j) / 2) default))) < ((0 : Nat) : Int))) rfl (fun h7 => ?_) (fun h7 => ?_)
    ·refine awp_region rfl (o_mv (Nv ((i + j) / 2)) rfl ?_)
     refine n_add ((i + j) / 2) 1 gn rfl rfl (by simp only [topOf]; omega) ?_
     refine o_as (Nv (((i + j) / 2) + 1)) rfl (aops_end ?_)
     refine ⟨_, _, ?lt, ⟨(i + j) / 2 + 1, j, (bs_up hbs (by assumption) (pB_y (by assumption))), (by omega), rfl, rfl⟩, ?wk⟩
     case lt => omega
     case wk => exact Wk.sub ⟨rfl, rfl, rfl, rfl, rfl, (by rfl), rfl, trivial⟩ ⟨rfl, rfl, rfl, rfl, rfl, trivial⟩
    ·refine awp_region rfl (o_mv (Nv ((i + j) / 2)) rfl (o_as (Nv ((i + j) / 2)) rfl (aops_end ?_)))
     refine ⟨_, _, ?lt, ⟨i, (i + j) / 2, (bs_dn hbs (by assumption) (pB_n (Decidable.not_not.1 (by assumption)))), (by omega), rfl, rfl⟩, ?wk⟩
     case lt => omega
     case wk => exact Wk.sub ⟨rfl, rfl, rfl, rfl, rfl, rfl, (by rfl), trivial⟩ ⟨rfl, rfl, rfl, rfl, rfl, trivial⟩
   ·refine awp_exit ?_
    refine hK18 _ (awp_seq fun K23 hK23 => awp_seq fun K24 hK24 => ?_)
    have hie := bs_end hbs (by assumption)
    refine awp_region rfl (o_mv (Nv m) rfl (o_as (Nv m) rfl (aops_end (hK24 _ ?_))))
    refine awp_block ?_
    refine awp_loopR (fun κ σ => ∃ (q : Nat), (q + i ≤ m) ∧ (m - q) = κ ∧ σ = ⟨[(0, .row 20), (1, Nv a), (2, Nv m), (3, Nv b), (4, .clo 93 [.ip [.clo kf []]]), (14, Nv i), (17, Nv (m - q))], [p0v us, v2v, r0v (mvL D m q), v3v, r1v L]⟩) ⟨_, _, ⟨0, (by omega), rfl, rfl⟩, ?wk3⟩ ?rd3
    case wk3 =>
     exact Wk.sub ⟨rfl, rfl, rfl, rfl, rfl, rfl, (by rfl), trivial⟩ ⟨rfl, rfl, (by rfl), rfl, rfl, trivial⟩
    rintro κ _ ⟨q, hq, rfl, rfl⟩
    have hXl := mvL_len D m q
    refine awp_seq fun K25 hK25 => awp_seq fun K26 hK26 => awp_region rfl (o_mv (Nv (m - q)) rfl (o_mv (Nv i) rfl ?_))
    refine n_gtr (m - q) i gn rfl rfl ?_
    refine aops_end (hK26 _ ?_)
    refine awp_condQ (q := i < (m - q)) rfl (fun h8 => ?_) (fun h8 => ?_)
    ·refine awp_skip (hK25 _ (awp_seq fun K27 hK27 => ?_))
     refine awp_block ?_
     refine awp_regionT rfl ?_
     refine o_mv (.row 20) rfl (o_mv (Nv (m - q)) rfl (o_mv (.row 20) rfl (o_mv (Nv (m - q)) rfl ?_)))
     refine n_sub (m - q) 1 gn rfl rfl (by omega) (by simp only [topOf]; omega) ?_
     refine o_mv (.row 20) rfl (o_mv (Nv (m - q)) rfl ?_)
     refine n_sub (m - q) 1 gn rfl rfl (by omega) (by simp only [topOf]; omega) ?_
     refine g_indexRow cL (mvL D m q) ((m - q) - 1) cL_len rfl gn f110_ rfl rfl rfl (by omega) ?_
     refine g_loadRowA cL (mvL D m q) ((m - q) - 1) default cL_len gn f109_ rfl rfl (by omega) ?_
     refine o_mv (.row 20) rfl (o_mv (Nv (m - q)) rfl ?_)
     refine g_indexRow cL (mvL D m q) (m - q) cL_len rfl gn f110_ rfl rfl rfl (by omega) ?_
     refine g_loadRowA cL (mvL D m q) (m - q) default cL_len gn f109_ rfl rfl (by omega) ?_
     refine g_indexRow cL (mvL D m q) (m - q) cL_len rfl gn f110_ rfl rfl rfl (by omega) ?_
     refine g_storeRow cL (mvL D m q) (m - q) ((mvL D m q).getD ((m - q) - 1) default) [p0v us, v2v, r0v ((mvL D m q).set (m - q) ((mvL D m q).getD ((m - q) - 1) default)), v3v, r1v L] cL_len cL_closed gn f108_ rfl rfl rfl (by omega) rfl ?_
     refine g_indexRow cL ((mvL D m q).set (m - q) ((mvL D m q).getD ((m - q) - 1) default)) ((m - q) - 1) cL_len rfl gn f110_ rfl rfl rfl (by simp only [List.length_set]; omega) ?_
     refine g_storeRow cL ((mvL D m q).set (m - q) ((mvL D m q).getD ((m - q) - 1) default)) ((m - q) - 1) ((mvL D m q).getD (m - q) default) [p0v us, v2v, r0v (((mvL D m q).set (m - q) ((mvL D m q).getD ((m - q) - 1) default)).set ((m - q) - 1) ((mvL D m q).getD (m - q) default)), v3v, r1v L] cL_len cL_closed gn f108_ rfl rfl rfl (by (simp only [List.length_set]; omega)) rfl ?_
     refine aops_end ⟨by kernel_rfl, ?_⟩
     refine hK27 _ (awp_region rfl (o_mv (Nv (m - q)) rfl ?_))
     refine n_sub (m - q) 1 gn rfl rfl (by omega) (by simp only [topOf]; omega) ?_
     refine o_as (Nv ((m - q) - 1)) rfl (aops_end ?_)
     refine ⟨_, _, ?lt, ⟨q + 1, (by omega), rfl, rfl⟩, ?wk⟩
     case lt => omega
     case wk => exact Wk.sub ⟨rfl, rfl, rfl, rfl, rfl, rfl, (by rfl), trivial⟩ ⟨rfl, rfl, (by rfl), rfl, rfl, trivial⟩
    ·refine awp_exit ?_
     refine hK23 _ ?_
     refine awp_ret ?_
     exact ⟨⟨[], [p0v us, v2v, r0v (symF key f D a m b), v3v, r1v L]⟩, Wk.sub trivial ⟨rfl, rfl, (by (exact row_gs' (by rw [← sym_2 hfe (by assumption) (by assumption) hie, show q = m - i by omega]))), rfl, rfl, trivial⟩, ⟨[], trivial, rfl, fun id ob h => keep_pin h rfl, rfl⟩⟩
  ·refine awp_skip (hK14 _ (awp_seq fun K28 hK28 => awp_region rfl (o_mv (Nv a) rfl (o_mv (Nv b) rfl ?_))))
   refine n_add a b gn rfl rfl (by simp only [topOf]; omega) ?_
   refine n_conv (a + b) gn rfl f41_ f114_ (by simp only [topOf]; omega) ?_
   refine n_shr1 (a + b) gn rfl rfl ?_
   refine n_conv ((a + b) / 2) gn rfl f114_ f41_ (by simp only [topOf]; omega) ?_
   refine o_as (Nv ((a + b) / 2)) rfl (aops_end (hK28 _ (awp_seq fun K29 hK29 => awp_region rfl (o_mv (Nv ((a + b) / 2)) rfl (o_mv (Nv m) rfl ?_)))))
   refine n_add ((a + b) / 2) m gn rfl rfl (by simp only [topOf]; omega) ?_
   refine o_as (Nv (((a + b) / 2) + m)) rfl (aops_end (hK29 _ (awp_seq fun K30 hK30 => awp_region rfl (o_as (Nv 0) rfl (o_as (Nv 0) rfl (aops_end (hK30 _ ?_)))))))
   refine awp_seqJ (J := fun σ => ∃ (p : Nat), ∃ (q : Nat), (bsr (pC key D ((((a + b) / 2) + m) - 1)) p q = symS key D a m b) ∧ (a ≤ p ∧ (((a + b) / 2) + m) ≤ p + b ∧ p ≤ q ∧ q ≤ m ∧ q ≤ ((a + b) / 2)) ∧ True ∧ σ = ⟨[(0, .row 20), (1, Nv a), (2, Nv m), (3, Nv b), (4, .clo 93 [.ip [.clo kf []]]), (18, Nv ((a + b) / 2)), (19, Nv (((a + b) / 2) + m)), (20, Nv p), (21, Nv q)], [p0v us, v2v, r0v D, v3v, r1v L]⟩) ?ja4 ?jb4
   case ja4 =>
    refine awp_seq fun K31 hK31 => awp_region rfl (o_mv (Nv m) rfl (o_mv (Nv ((a + b) / 2)) rfl ?_))
    refine n_gtr m ((a + b) / 2) gn rfl rfl ?_
    refine aops_end (hK31 _ ?_)
    refine awp_condQ (q := ((a + b) / 2) < m) rfl (fun h9 => ?_) (fun h9 => ?_)
    ·refine awp_seq fun K32 hK32 => awp_region rfl (o_mv (Nv (((a + b) / 2) + m)) rfl (o_mv (Nv b) rfl ?_))
     refine n_sub (((a + b) / 2) + m) b gn rfl rfl (by omega) (by simp only [topOf]; omega) ?_
     refine o_as (Nv ((((a + b) / 2) + m) - b)) rfl (aops_end (hK32 _ (awp_region rfl (o_mv (Nv ((a + b) / 2)) rfl (o_as (Nv ((a + b) / 2)) rfl (aops_end ?_))))))
     exact ⟨_, ⟨(((a + b) / 2) + m) - b, (a + b) / 2, (symS_lo (by assumption) rfl), (by omega), trivial, rfl⟩, Wk.sub ⟨rfl, rfl, rfl, rfl, rfl, (by rfl), (by rfl), (by rfl), (by rfl), trivial⟩ ⟨rfl, rfl, rfl, rfl, rfl, trivial⟩⟩
    ·refine awp_seq fun K33 hK33 => awp_region rfl (o_mv (Nv a) rfl (o_as (Nv a) rfl (aops_end (hK33 _ (awp_region rfl (o_mv (Nv m) rfl (o_as (Nv m) rfl (aops_end ?_))))))))
     exact ⟨_, ⟨a, m, (symS_hi (by assumption)), (by omega), trivial, rfl⟩, Wk.sub ⟨rfl, rfl, rfl, rfl, rfl, (by rfl), (by rfl), (by rfl), (by rfl), trivial⟩ ⟨rfl, rfl, rfl, rfl, rfl, trivial⟩⟩
   rintro _ ⟨p, q, hbs, hpq, -, rfl⟩
   refine awp_seq fun K34 hK34 => awp_region rfl (o_mv (Nv (((a + b) / 2) + m)) rfl ?_)
   refine n_sub (((a + b) / 2) + m) 1 gn rfl rfl (by omega) (by simp only [topOf]; omega) ?_
   refine o_as (Nv ((((a + b) / 2) + m) - 1)) rfl (aops_end (hK34 _ (awp_seq fun K35 hK35 => ?_)))
   refine awp_block ?_
   refine awp_loopR (fun κ σ => ∃ (p : Nat), ∃ (q : Nat), (bsr (pC key D ((((a + b) / 2) + m) - 1)) p q = symS key D a m b) ∧ (a ≤ p ∧ (((a + b) / 2) + m) ≤ p + b ∧ p ≤ q ∧ q ≤ m ∧ q ≤ ((a + b) / 2)) ∧ (q - p) = κ ∧ σ = ⟨[(0, .row 20), (1, Nv a), (2, Nv m), (3, Nv b), (4, .clo 93 [.ip [.clo kf []]]), (18, Nv ((a + b) / 2)), (19, Nv (((a + b) / 2) + m)), (22, Nv ((((a + b) / 2) + m) - 1)), (20, Nv p), (21, Nv q)], [p0v us, v2v, r0v D, v3v, r1v L]⟩) ⟨_, _, ⟨p, q, hbs, hpq, rfl, rfl⟩, ?wk5⟩ ?rd5
   case wk5 =>
    exact Wk.sub ⟨rfl, rfl, rfl, rfl, rfl, rfl, rfl, (by rfl), rfl, rfl, trivial⟩ ⟨rfl, rfl, rfl, rfl, rfl, trivial⟩
   rintro κ _ ⟨p, q, hbs, hpq, rfl, rfl⟩
   refine awp_seq fun K36 hK36 => awp_seq fun K37 hK37 => awp_region rfl (o_mv (Nv p) rfl (o_mv (Nv q) rfl ?_))
   refine n_lss p q gn rfl rfl ?_
   refine aops_end (hK37 _ ?_)
   refine awp_condQ (q := p < q) rfl (fun h10 => ?_) (fun h10 => ?_)
   ·refine awp_skip (hK36 _ ?_)
    refine awp_block ?_
    refine awp_seq fun K38 hK38 => awp_region rfl (o_mv (Nv p) rfl (o_mv (Nv q) rfl ?_))
    refine n_add p q gn rfl rfl (by simp only [topOf]; omega) ?_
    refine n_conv (p + q) gn rfl f41_ f114_ (by simp only [topOf]; omega) ?_
    refine n_shr1 (p + q) gn rfl rfl ?_
    refine n_conv ((p + q) / 2) gn rfl f114_ f41_ (by simp only [topOf]; omega) ?_
    refine o_as (Nv ((p + q) / 2)) rfl (aops_end (hK38 _ (awp_seq fun K39 hK39 => awp_regionD rfl (o_mv (.clo 93 [.ip [.clo kf []]]) rfl (o_mv (.row 20) rfl (o_mv (Nv ((((a + b) / 2) + m) - 1)) rfl (o_mv (Nv ((p + q) / 2)) rfl ?_)))))))
    refine n_sub ((((a + b) / 2) + m) - 1) ((p + q) / 2) gn rfl rfl (by omega) (by simp only [topOf]; omega) ?_
    refine g_indexRow cL D (((((a + b) / 2) + m) - 1) - ((p + q) / 2)) cL_len rfl gn f110_ rfl rfl rfl (by omega) ?_
    refine g_loadRowA cL D (((((a + b) / 2) + m) - 1) - ((p + q) / 2)) default cL_len gn f109_ rfl rfl (by omega) ?_
    refine o_mv (.row 20) rfl (o_mv (Nv ((p + q) / 2)) rfl ?_)
    refine g_indexRow cL D ((p + q) / 2) cL_len rfl gn f110_ rfl rfl rfl (by omega) ?_
    refine g_loadRowA cL D ((p + q) / 2) default cL_len gn f109_ rfl rfl (by omega) ?_
    refine o_callG [] [.agg (cL (D.getD (((((a + b) / 2) + m) - 1) - ((p + q) / 2)) default)), .agg (cL (D.getD ((p + q) / 2) default)), .ip [.clo kf []]] _ (Iv (cmpZ (key (D.getD (((((a + b) / 2) + m) - 1) - ((p + q) / 2)) default)) (key (D.getD ((p + q) / 2) default)))) [p0v us, v2v, r0v D, v3v, r1v L] gn f111_ rfl trivial rfl rfl (LeL.cons (AV.le_refl _) (LeL.cons (AV.le_refl _) (LeL.cons (AV.le_refl _) LeL.nil))) (hkey (D.getD (((((a + b) / 2) + m) - 1) - ((p + q) / 2)) default) (D.getD ((p + q) / 2) default)) rfl ?_
    refine o_lss (a := (cmpZ (key (D.getD (((((a + b) / 2) + m) - 1) - ((p + q) / 2)) default)) (key (D.getD ((p + q) / 2) default)))) (c := ((0 : Nat) : Int)) gn rfl rfl ?_
    refine o_notP (q := (cmpZ (key (D.getD (((((a + b) / 2) + m) - 1) - ((p + q) / 2)) default)) (key (D.getD ((p + q) / 2) default))) < ((0 : Nat) : Int)) gn rfl ?_
    refine aops_end ⟨by kernel_rfl, ?_⟩
    refine hK39 _ ?_
    refine awp_condQ (q := ¬ ((cmpZ (key (D.getD (((((a + b) / 2) + m) - 1) - ((p + q) / 2)) default)) (key (D.getD ((p + q) / 2) default))) < ((0 : Nat) : Int))) rfl (fun h11 => ?_) (fun h11 => ?_)
    ·refine awp_region rfl (o_mv (Nv ((p + q) / 2)) rfl ?_)
     refine n_add ((p + q) / 2) 1 gn rfl rfl (by simp only [topOf]; omega) ?_
     refine o_as (Nv (((p + q) / 2) + 1)) rfl (aops_end ?_)
     refine ⟨_, _, ?lt, ⟨(p + q) / 2 + 1, q, (bs_up hbs (by assumption) (pC_y (by assumption))), (by omega), rfl, rfl⟩, ?wk⟩
     case lt => omega
     case wk => exact Wk.sub ⟨rfl, rfl, rfl, rfl, rfl, rfl, rfl, rfl, (by rfl), rfl, trivial⟩ ⟨rfl, rfl, rfl, rfl, rfl, trivial⟩
    ·refine awp_region rfl (o_mv (Nv ((p + q) / 2)) rfl (o_as (Nv ((p + q) / 2)) rfl (aops_end ?_)))
     refine ⟨_, _, ?lt, ⟨p, (p + q) / 2, (bs_dn hbs (by assumption) (pC_n (Decidable.not_not.1 (by assumption)))), (by omega), rfl, rfl⟩, ?wk⟩
     case lt => omega
     case wk => exact Wk.sub ⟨rfl, rfl, rfl, rfl, rfl, rfl, rfl, rfl, rfl, (by rfl), trivial⟩ ⟨rfl, rfl, rfl, rfl, rfl, trivial⟩
   ·refine awp_exit ?_
    refine hK35 _ (awp_seq fun K40 hK40 => ?_)
    have hps := (bs_end hbs (by assumption)).symm
    refine awp_region rfl (o_mv (Nv (((a + b) / 2) + m)) rfl (o_mv (Nv p) rfl ?_))
    refine n_sub (((a + b) / 2) + m) p gn rfl rfl (by omega) (by simp only [topOf]; omega) ?_
    refine o_as (Nv ((((a + b) / 2) + m) - p)) rfl (aops_end (hK40 _ ?_))
    refine awp_seqJ (J := fun σ => ∃ (X1 : List Fal), (X1 = if p < m ∧ m < (((a + b) / 2) + m - p) then rotF (m - p + ((((a + b) / 2) + m - p) - m)) D m (m - p) ((((a + b) / 2) + m - p) - m) else D) ∧ (X1.length = D.length) ∧ True ∧ σ = ⟨[(0, .row 20), (1, Nv a), (2, Nv m), (3, Nv b), (4, .clo 93 [.ip [.clo kf []]]), (18, Nv ((a + b) / 2)), (20, Nv p), (24, Nv (((a + b) / 2) + m - p))], [p0v us, v2v, r0v X1, v3v, r1v L]⟩) ?ja6 ?jb6
    case ja6 =>
     refine awp_seq fun K41 hK41 => awp_region rfl (o_mv (Nv p) rfl (o_mv (Nv m) rfl ?_))
     refine n_lss p m gn rfl rfl ?_
     refine o_mv (bp (p < m)) rfl ?_
     refine o_splitP (q := p < m) 181 rfl (fun h12 => ?_) (fun h12 => ?_)
     ·refine o_move (Nv m) (Gd.yes rfl rfl (decide_eq_true h12)) rfl (o_move (Nv ((((a + b) / 2) + m) - p)) (Gd.yes rfl rfl (decide_eq_true h12)) rfl ?_)
      refine n_lss m ((((a + b) / 2) + m) - p) (Gd.yes rfl rfl (decide_eq_true h12)) rfl rfl ?_
      refine o_pickT (bp (m < ((((a + b) / 2) + m) - p))) gn rfl (decide_eq_true h12) rfl ?_
      refine aops_end (hK41 _ ?_)
      refine awp_condQ (q := m < ((((a + b) / 2) + m) - p)) rfl (fun h13 => ?_) (fun h13 => ?_)
      ·refine awp_regionSW 5 191 _ 125 [] _ _ _ _ _ [.row 20, Nv p, Nv m, Nv ((((a + b) / 2) + m) - p), .clo 93 [.ip [.clo kf []]]] (.tup []) [v2v, r0v (rotF (m - p + ((((a + b) / 2) + m - p) - m)) D m (m - p) ((((a + b) / 2) + m - p) - m)), v3v, r1v L, p0v us] rfl rfl rfl f115_ ?_
       refine o_mv (.row 20) rfl (o_mv (Nv p) rfl (o_mv (Nv m) rfl (o_mv (Nv ((((a + b) / 2) + m) - p)) rfl (o_mv (.clo 93 [.ip [.clo kf []]]) rfl ?_))))
       refine aops_end ⟨_, Wk.sub (σ' := ⟨[(0, .row 20), (1, Nv a), (2, Nv m), (3, Nv b), (4, .clo 93 [.ip [.clo kf []]]), (18, Nv ((a + b) / 2)), (19, Nv (((a + b) / 2) + m)), (22, Nv ((((a + b) / 2) + m) - 1)), (20, Nv p), (21, Nv q), (149, Nv p), (150, Nv q), (151, bp (p < q)), (175, Nv (((a + b) / 2) + m)), (176, Nv p), (177, Nv ((((a + b) / 2) + m) - p)), (24, Nv ((((a + b) / 2) + m) - p)), (178, Nv p), (179, Nv m), (180, bp (p < m)), (181, bp (p < m)), (182, Nv m), (183, Nv ((((a + b) / 2) + m) - p)), (184, bp (m < ((((a + b) / 2) + m) - p))), (185, bp (m < ((((a + b) / 2) + m) - p))), (186, .row 20), (187, Nv p), (188, Nv m), (189, Nv ((((a + b) / 2) + m) - p)), (190, .clo 93 [.ip [.clo kf []]])], [v2v, r0v D, v3v, r1v L, p0v us]⟩) ⟨rfl, rfl, rfl, rfl, rfl, rfl, rfl, rfl, rfl, rfl, rfl, rfl, rfl, rfl, rfl, rfl, rfl, rfl, rfl, rfl, rfl, rfl, rfl, rfl, rfl, rfl, rfl, rfl, rfl, rfl, trivial⟩ ⟨rfl, rfl, rfl, rfl, rfl, trivial⟩, rfl, rfl, scalls_of_r (K := [2, 3, 20]) (m := [v2v, r0v D, v3v, r1v L]) (m' := [v2v, r0v (rotF (m - p + ((((a + b) / 2) + m - p) - m)) D m (m - p) ((((a + b) / 2) + m - p) - m)), v3v, r1v L]) (e := [p0v us]) (c_rotf kf key hkey D L p m (((a + b) / 2) + m - p) (by omega) (by omega) (by omega) hD) rfl rfl, ?_⟩
       exact ⟨_, ⟨rotF (m - p + ((((a + b) / 2) + m - p) - m)) D m (m - p) ((((a + b) / 2) + m - p) - m), (if_pos (by omega)).symm, rot_len _ _ _ _ _, trivial, rfl⟩, Wk.sub ⟨rfl, rfl, rfl, rfl, rfl, rfl, rfl, (by rfl), trivial⟩ ⟨rfl, rfl, (by rfl), rfl, rfl, trivial⟩⟩
      ·refine awp_skip ?_
       exact ⟨_, ⟨D, (if_neg (by omega)).symm, rfl, trivial, rfl⟩, Wk.sub ⟨rfl, rfl, rfl, rfl, rfl, rfl, rfl, (by rfl), trivial⟩ ⟨rfl, rfl, (by rfl), rfl, rfl, trivial⟩⟩
     ·refine o_skip rfl rfl (decide_eq_false h12) (o_skip rfl rfl (decide_eq_false h12) (o_skip rfl rfl (decide_eq_false h12) ?_))
      refine o_pickF Fv gn rfl (decide_eq_false h12) rfl ?_
      refine aops_end (hK41 _ ?_)
      refine awp_condB (b := false) rfl (fun hh => absurd (hh.symm.trans rfl) (by decide)) (fun _ => ?_)
      refine awp_skip ?_
      exact ⟨_, ⟨D, (if_neg (by omega)).symm, rfl, trivial, rfl⟩, Wk.sub ⟨rfl, rfl, rfl, rfl, rfl, rfl, rfl, (by rfl), trivial⟩ ⟨rfl, rfl, (by rfl), rfl, rfl, trivial⟩⟩
    rintro _ ⟨X1, hX1, hl1, -, rfl⟩
    refine awp_seqJ (J := fun σ => ∃ (X2 : List Fal), (X2 = if a < p ∧ p < ((a + b) / 2) then symF key e X1 a p ((a + b) / 2) else X1) ∧ (X2.length = D.length) ∧ True ∧ σ = ⟨[(0, .row 20), (1, Nv a), (2, Nv m), (3, Nv b), (4, .clo 93 [.ip [.clo kf []]]), (18, Nv ((a + b) / 2)), (20, Nv p), (24, Nv (((a + b) / 2) + m - p))], [p0v us, v2v, r0v X2, v3v, r1v L]⟩) ?ja7 ?jb7
    case ja7 =>
     refine awp_seq fun K42 hK42 => awp_region rfl (o_mv (Nv a) rfl (o_mv (Nv p) rfl ?_))
     refine n_lss a p gn rfl rfl ?_
     refine o_mv (bp (a < p)) rfl ?_
     refine o_splitP (q := a < p) 195 rfl (fun h14 => ?_) (fun h14 => ?_)
     ·refine o_move (Nv p) (Gd.yes rfl rfl (decide_eq_true h14)) rfl (o_move (Nv ((a + b) / 2)) (Gd.yes rfl rfl (decide_eq_true h14)) rfl ?_)
      refine n_lss p ((a + b) / 2) (Gd.yes rfl rfl (decide_eq_true h14)) rfl rfl ?_
      refine o_pickT (bp (p < ((a + b) / 2))) gn rfl (decide_eq_true h14) rfl ?_
      refine aops_end (hK42 _ ?_)
      refine awp_condQ (q := p < ((a + b) / 2)) rfl (fun h15 => ?_) (fun h15 => ?_)
      ·refine awp_regionSW 5 205 _ 114 [] _ _ _ _ _ [.row 20, Nv a, Nv p, Nv ((a + b) / 2), .clo 93 [.ip [.clo kf []]]] (.tup []) [v2v, r0v (symF key e X1 a p ((a + b) / 2)), v3v, r1v L, p0v us] rfl rfl rfl f116_ ?_
       refine o_mv (.row 20) rfl (o_mv (Nv a) rfl (o_mv (Nv p) rfl (o_mv (Nv ((a + b) / 2)) rfl (o_mv (.clo 93 [.ip [.clo kf []]]) rfl ?_))))
       refine aops_end ⟨_, Wk.sub (σ' := ⟨[(0, .row 20), (1, Nv a), (2, Nv m), (3, Nv b), (4, .clo 93 [.ip [.clo kf []]]), (18, Nv ((a + b) / 2)), (20, Nv p), (24, Nv (((a + b) / 2) + m - p)), (192, Nv a), (193, Nv p), (194, bp (a < p)), (195, bp (a < p)), (196, Nv p), (197, Nv ((a + b) / 2)), (198, bp (p < ((a + b) / 2))), (199, bp (p < ((a + b) / 2))), (200, .row 20), (201, Nv a), (202, Nv p), (203, Nv ((a + b) / 2)), (204, .clo 93 [.ip [.clo kf []]])], [v2v, r0v X1, v3v, r1v L, p0v us]⟩) ⟨rfl, rfl, rfl, rfl, rfl, rfl, rfl, rfl, rfl, rfl, rfl, rfl, rfl, rfl, rfl, rfl, rfl, rfl, rfl, rfl, rfl, trivial⟩ ⟨rfl, rfl, rfl, rfl, rfl, trivial⟩, rfl, rfl, scalls_of_r (K := [2, 3, 20]) (m := [v2v, r0v X1, v3v, r1v L]) (m' := [v2v, r0v (symF key e X1 a p ((a + b) / 2)), v3v, r1v L]) (e := [p0v us]) (ih e (by omega) X1 a p ((a + b) / 2) (by omega) (by omega) (by omega) (by omega) (by omega)) rfl rfl, ?_⟩
       exact ⟨_, ⟨symF key e X1 a p ((a + b) / 2), (if_pos (by omega)).symm, (sym_len key _ _ _ _ _).trans hl1, trivial, rfl⟩, Wk.sub ⟨rfl, rfl, rfl, rfl, rfl, rfl, rfl, rfl, trivial⟩ ⟨rfl, rfl, (by rfl), rfl, rfl, trivial⟩⟩
      ·refine awp_skip ?_
       exact ⟨_, ⟨X1, (if_neg (by omega)).symm, hl1, trivial, rfl⟩, Wk.sub ⟨rfl, rfl, rfl, rfl, rfl, rfl, rfl, rfl, trivial⟩ ⟨rfl, rfl, (by rfl), rfl, rfl, trivial⟩⟩
     ·refine o_skip rfl rfl (decide_eq_false h14) (o_skip rfl rfl (decide_eq_false h14) (o_skip rfl rfl (decide_eq_false h14) ?_))
      refine o_pickF Fv gn rfl (decide_eq_false h14) rfl ?_
      refine aops_end (hK42 _ ?_)
      refine awp_condB (b := false) rfl (fun hh => absurd (hh.symm.trans rfl) (by decide)) (fun _ => ?_)
      refine awp_skip ?_
      exact ⟨_, ⟨X1, (if_neg (by omega)).symm, hl1, trivial, rfl⟩, Wk.sub ⟨rfl, rfl, rfl, rfl, rfl, rfl, rfl, rfl, trivial⟩ ⟨rfl, rfl, (by rfl), rfl, rfl, trivial⟩⟩
    rintro _ ⟨X2, hX2, hl2, -, rfl⟩
    refine awp_seq fun K43 hK43 => awp_region rfl (o_mv (Nv ((a + b) / 2)) rfl (o_mv (Nv (((a + b) / 2) + m - p)) rfl ?_))
    refine n_lss ((a + b) / 2) (((a + b) / 2) + m - p) gn rfl rfl ?_
    refine o_mv (bp (((a + b) / 2) < (((a + b) / 2) + m - p))) rfl ?_
    refine o_splitP (q := ((a + b) / 2) < (((a + b) / 2) + m - p)) 209 rfl (fun h16 => ?_) (fun h16 => ?_)
    ·refine o_move (Nv (((a + b) / 2) + m - p)) (Gd.yes rfl rfl (decide_eq_true h16)) rfl (o_move (Nv b) (Gd.yes rfl rfl (decide_eq_true h16)) rfl ?_)
     refine n_lss (((a + b) / 2) + m - p) b (Gd.yes rfl rfl (decide_eq_true h16)) rfl rfl ?_
     refine o_pickT (bp ((((a + b) / 2) + m - p) < b)) gn rfl (decide_eq_true h16) rfl ?_
     refine aops_end (hK43 _ ?_)
     refine awp_condQ (q := (((a + b) / 2) + m - p) < b) rfl (fun h17 => ?_) (fun h17 => ?_)
     ·refine awp_regionSW 5 219 _ 114 [] _ _ _ _ _ [.row 20, Nv ((a + b) / 2), Nv (((a + b) / 2) + m - p), Nv b, .clo 93 [.ip [.clo kf []]]] (.tup []) [v2v, r0v (symF key e X2 ((a + b) / 2) (((a + b) / 2) + m - p) b), v3v, r1v L, p0v us] rfl rfl rfl f116_ ?_
      refine o_mv (.row 20) rfl (o_mv (Nv ((a + b) / 2)) rfl (o_mv (Nv (((a + b) / 2) + m - p)) rfl (o_mv (Nv b) rfl (o_mv (.clo 93 [.ip [.clo kf []]]) rfl ?_))))
      refine aops_end ⟨_, Wk.sub (σ' := ⟨[(0, .row 20), (1, Nv a), (2, Nv m), (3, Nv b), (4, .clo 93 [.ip [.clo kf []]]), (18, Nv ((a + b) / 2)), (20, Nv p), (24, Nv (((a + b) / 2) + m - p)), (206, Nv ((a + b) / 2)), (207, Nv (((a + b) / 2) + m - p)), (208, bp (((a + b) / 2) < (((a + b) / 2) + m - p))), (209, bp (((a + b) / 2) < (((a + b) / 2) + m - p))), (210, Nv (((a + b) / 2) + m - p)), (211, Nv b), (212, bp ((((a + b) / 2) + m - p) < b)), (213, bp ((((a + b) / 2) + m - p) < b)), (214, .row 20), (215, Nv ((a + b) / 2)), (216, Nv (((a + b) / 2) + m - p)), (217, Nv b), (218, .clo 93 [.ip [.clo kf []]])], [v2v, r0v X2, v3v, r1v L, p0v us]⟩) ⟨rfl, rfl, rfl, rfl, rfl, rfl, rfl, rfl, rfl, rfl, rfl, rfl, rfl, rfl, rfl, rfl, rfl, rfl, rfl, rfl, rfl, trivial⟩ ⟨rfl, rfl, rfl, rfl, rfl, trivial⟩, rfl, rfl, scalls_of_r (K := [2, 3, 20]) (m := [v2v, r0v X2, v3v, r1v L]) (m' := [v2v, r0v (symF key e X2 ((a + b) / 2) (((a + b) / 2) + m - p) b), v3v, r1v L]) (e := [p0v us]) (ih e (by omega) X2 ((a + b) / 2) (((a + b) / 2) + m - p) b (by omega) (by omega) (by omega) (by omega) (by omega)) rfl rfl, ?_⟩
      exact ⟨⟨[], [p0v us, v2v, r0v (symF key f D a m b), v3v, r1v L]⟩, Wk.sub trivial ⟨rfl, rfl, (by (exact row_gs' (sym_3 hfe (by assumption) (by assumption) hps hX1 hX2 (if_pos (by omega)).symm))), rfl, rfl, trivial⟩, ⟨[], trivial, rfl, fun id ob h => keep_pin h rfl, rfl⟩⟩
     ·refine awp_skip ?_
      exact ⟨⟨[], [p0v us, v2v, r0v (symF key f D a m b), v3v, r1v L]⟩, Wk.sub trivial ⟨rfl, rfl, (by (exact row_gs' (sym_3 hfe (by assumption) (by assumption) hps hX1 hX2 (if_neg (by omega)).symm))), rfl, rfl, trivial⟩, ⟨[], trivial, rfl, fun id ob h => keep_pin h rfl, rfl⟩⟩
    ·refine o_skip rfl rfl (decide_eq_false h16) (o_skip rfl rfl (decide_eq_false h16) (o_skip rfl rfl (decide_eq_false h16) ?_))
     refine o_pickF Fv gn rfl (decide_eq_false h16) rfl ?_
     refine aops_end (hK43 _ ?_)
     refine awp_condB (b := false) rfl (fun hh => absurd (hh.symm.trans rfl) (by decide)) (fun _ => ?_)
     refine awp_skip ?_
     exact ⟨⟨[], [p0v us, v2v, r0v (symF key f D a m b), v3v, r1v L]⟩, Wk.sub trivial ⟨rfl, rfl, (by (exact row_gs' (sym_3 hfe (by assumption) (by assumption) hps hX1 hX2 (if_neg (by omega)).symm))), rfl, rfl, trivial⟩, ⟨[], trivial, rfl, fun id ob h => keep_pin h rfl, rfl⟩⟩

theorem c_swpi (kf : Nat) (key : Int → Int) (hkey : ∀ x y : Int, ECalls cx 96 [.lit (.int .i64 x), .lit (.int .i64 y), .ip [.clo kf []]] (.lit (.int .i64 (cmpZ (key x) (key y))))) (D : List Int) (F : List Fal) (a b n : Nat) (ha : a + n ≤ D.length) (hb : b + n ≤ D.length) (hD : D.length ≤ 1000000) :
  RCalls cx 135 [.row 21, Nv a, Nv b, Nv n, .clo 96 [.ip [.clo kf []]]] [2, 3, 21] [v2v, r0v F, v3v, r1v D] (.tup []) [v2v, r0v F, v3v, r1v (swr D a b n)] := by
 refine rcalls_of_x (X := [(2, false), (3, false), (21, true)]) (scalls_of_awpB 9009 Tryz.func135 (c := _) rfl (Nat.le_of_ble_eq_true rfl) rfl rfl rfl (fun us => ?_)) rfl
 refine awp_late ?_
 show awp cx 38 _ (lateQ cx 38 (postS cx Tryz.f135 (.tup []) [v2v, r0v F, v3v, r1v (swr D a b n)] 9009 [.ref 2 0, .ref 3 0, .row 21] us)) ⟨[(0, .row 21), (1, Nv a), (2, Nv b), (3, Nv n), (4, .clo 96 [.ip [.clo kf []]])], [p1v us, v2v, r0v F, v3v, r1v D]⟩
 refine awp_seq fun K0 hK0 => awp_region rfl (o_as (Nv 0) rfl (aops_end (hK0 _ ?_)))
 refine awp_block ?_
 refine awp_loopR (fun κ σ => ∃ (i : Nat), (i ≤ n) ∧ (n - i) = κ ∧ σ = ⟨[(0, .row 21), (1, Nv a), (2, Nv b), (3, Nv n), (4, .clo 96 [.ip [.clo kf []]]), (10, Nv i)], [p1v us, v2v, r0v F, v3v, r1v (swr D a b i)]⟩) ⟨_, _, ⟨0, (by omega), rfl, rfl⟩, ?wk0⟩ ?rd0
 case wk0 =>
  exact Wk.sub ⟨rfl, rfl, rfl, rfl, rfl, (by rfl), trivial⟩ ⟨rfl, rfl, rfl, rfl, (by rfl), trivial⟩
 rintro κ _ ⟨i, hi, rfl, rfl⟩
 have hXl := swr_len D a b i
 refine awp_seq fun K1 hK1 => awp_seq fun K2 hK2 => awp_region rfl (o_mv (Nv i) rfl (o_mv (Nv n) rfl ?_))
 refine n_lss i n gn rfl rfl ?_
 refine aops_end (hK2 _ ?_)
 refine awp_condQ (q := i < n) rfl (fun h1 => ?_) (fun h1 => ?_)
 ·refine awp_skip (hK1 _ (awp_seq fun K3 hK3 => ?_))
  refine awp_block ?_
  refine awp_regionT rfl ?_
  refine o_mv (.row 21) rfl (o_mv (Nv a) rfl (o_mv (Nv i) rfl ?_))
  refine n_add a i gn rfl rfl (by simp only [topOf]; omega) ?_
  refine o_mv (.row 21) rfl (o_mv (Nv b) rfl (o_mv (Nv i) rfl ?_))
  refine n_add b i gn rfl rfl (by simp only [topOf]; omega) ?_
  refine o_mv (.row 21) rfl (o_mv (Nv b) rfl (o_mv (Nv i) rfl ?_))
  refine n_add b i gn rfl rfl (by simp only [topOf]; omega) ?_
  refine i_indexRow (swr D a b i) (b + i) gn f10_ rfl rfl rfl (by omega) ?_
  refine i_loadRow (swr D a b i) (b + i) gn f11_ rfl rfl (by omega) ?_
  refine o_mv (.row 21) rfl (o_mv (Nv a) rfl (o_mv (Nv i) rfl ?_))
  refine n_add a i gn rfl rfl (by simp only [topOf]; omega) ?_
  refine i_indexRow (swr D a b i) (a + i) gn f10_ rfl rfl rfl (by omega) ?_
  refine i_loadRow (swr D a b i) (a + i) gn f11_ rfl rfl (by omega) ?_
  refine i_indexRow (swr D a b i) (a + i) gn f10_ rfl rfl rfl (by omega) ?_
  refine i_storeRow (swr D a b i) (a + i) ((swr D a b i).getD (b + i) 0) [p1v us, v2v, r0v F, v3v, r1v ((swr D a b i).set (a + i) ((swr D a b i).getD (b + i) 0))] gn f43_ rfl rfl rfl (by omega) rfl ?_
  refine i_indexRow ((swr D a b i).set (a + i) ((swr D a b i).getD (b + i) 0)) (b + i) gn f10_ rfl rfl rfl (by simp only [List.length_set]; omega) ?_
  refine i_storeRow ((swr D a b i).set (a + i) ((swr D a b i).getD (b + i) 0)) (b + i) ((swr D a b i).getD (a + i) 0) [p1v us, v2v, r0v F, v3v, r1v (((swr D a b i).set (a + i) ((swr D a b i).getD (b + i) 0)).set (b + i) ((swr D a b i).getD (a + i) 0))] gn f43_ rfl rfl rfl (by (simp only [List.length_set]; omega)) rfl ?_
  refine aops_end ⟨by kernel_rfl, ?_⟩
  refine hK3 _ (awp_region rfl (o_mv (Nv i) rfl ?_))
  refine n_add i 1 gn rfl rfl (by simp only [topOf]; omega) ?_
  refine o_as (Nv (i + 1)) rfl (aops_end ?_)
  refine ⟨_, _, ?lt, ⟨i + 1, (by omega), rfl, rfl⟩, ?wk⟩
  case lt => omega
  case wk => exact Wk.sub ⟨rfl, rfl, rfl, rfl, rfl, (by rfl), trivial⟩ ⟨rfl, rfl, rfl, rfl, (by rfl), trivial⟩
 ·refine awp_exit ?_
  exact ⟨⟨[], [p1v us, v2v, r0v F, v3v, r1v (swr D a b n)]⟩, Wk.sub trivial ⟨rfl, rfl, rfl, rfl, (by (exact row_is (by rw [show i = n by omega]))), trivial⟩, ⟨[], trivial, rfl, fun id ob h => keep_pin h rfl, rfl⟩⟩

theorem c_roti (kf : Nat) (key : Int → Int) (hkey : ∀ x y : Int, ECalls cx 96 [.lit (.int .i64 x), .lit (.int .i64 y), .ip [.clo kf []]] (.lit (.int .i64 (cmpZ (key x) (key y))))) (D : List Int) (F : List Fal) (a m b : Nat) (ham : a < m) (hmb : m < b) (hb : b ≤ D.length) (hD : D.length ≤ 1000000) :
  RCalls cx 126 [.row 21, Nv a, Nv m, Nv b, .clo 96 [.ip [.clo kf []]]] [2, 3, 21] [v2v, r0v F, v3v, r1v D] (.tup []) [v2v, r0v F, v3v, r1v (rotF (m - a + (b - m)) D m (m - a) (b - m))] := by
 refine rcalls_of_x (X := [(2, false), (3, false), (21, true)]) (scalls_of_awpB 9009 Tryz.func126 (c := _) rfl (Nat.le_of_ble_eq_true rfl) rfl rfl rfl (fun us => ?_)) rfl
 refine awp_late ?_
 show awp cx 58 _ (lateQ cx 58 (postS cx Tryz.f126 (.tup []) [v2v, r0v F, v3v, r1v (rotF (m - a + (b - m)) D m (m - a) (b - m))] 9009 [.ref 2 0, .ref 3 0, .row 21] us)) ⟨[(0, .row 21), (1, Nv a), (2, Nv m), (3, Nv b), (4, .clo 96 [.ip [.clo kf []]])], [p1v us, v2v, r0v F, v3v, r1v D]⟩
 refine awp_seq fun K0 hK0 => awp_region rfl (o_mv (Nv m) rfl (o_mv (Nv a) rfl ?_))
 refine n_sub m a gn rfl rfl (by omega) (by simp only [topOf]; omega) ?_
 refine o_as (Nv (m - a)) rfl (aops_end (hK0 _ (awp_seq fun K1 hK1 => awp_region rfl (o_mv (Nv b) rfl (o_mv (Nv m) rfl ?_)))))
 refine n_sub b m gn rfl rfl (by omega) (by simp only [topOf]; omega) ?_
 refine o_as (Nv (b - m)) rfl (aops_end (hK1 _ (awp_seq fun K2 hK2 => ?_)))
 refine awp_block ?_
 refine awp_loopR (fun κ σ => ∃ (f : Nat), ∃ (i : Nat), ∃ (j : Nat), ∃ (X : List Int), (rotF f X m i j = rotF (m - a + (b - m)) D m (m - a) (b - m)) ∧ (X.length = D.length) ∧ (i + j ≤ f) ∧ (0 < i ∧ i ≤ m - a) ∧ (0 < j ∧ j ≤ b - m) ∧ (i + j) = κ ∧ σ = ⟨[(0, .row 21), (2, Nv m), (4, .clo 96 [.ip [.clo kf []]]), (10, Nv i), (11, Nv j)], [p1v us, v2v, r0v F, v3v, r1v X]⟩) ⟨_, _, ⟨m - a + (b - m), m - a, b - m, D, rfl, rfl, (by omega), (by omega), (by omega), rfl, rfl⟩, ?wk0⟩ ?rd0
 case wk0 =>
  exact Wk.sub ⟨rfl, rfl, rfl, (by rfl), (by rfl), trivial⟩ ⟨rfl, rfl, rfl, rfl, (by rfl), trivial⟩
 rintro κ _ ⟨f, i, j, X, hR, hl, hf, hi, hj, rfl, rfl⟩
 refine awp_seq fun K3 hK3 => awp_seq fun K4 hK4 => awp_region rfl (o_mv (Nv i) rfl (o_mv (Nv j) rfl ?_))
 refine n_neq i j gn rfl rfl ?_
 refine aops_end (hK4 _ ?_)
 refine awp_condQ (q := i ≠ j) rfl (fun h1 => ?_) (fun h1 => ?_)
 ·refine awp_skip (hK3 _ ?_)
  refine awp_block ?_
  refine awp_seq fun K5 hK5 => awp_region rfl (o_mv (Nv i) rfl (o_mv (Nv j) rfl ?_))
  refine n_gtr i j gn rfl rfl ?_
  refine aops_end (hK5 _ ?_)
  refine awp_condQ (q := j < i) rfl (fun h2 => ?_) (fun h2 => ?_)
  ·refine awp_seq fun K6 hK6 => ?_
   refine awp_regionSW 7 31 _ 135 [] _ _ _ _ _ [.row 21, Nv (m - i), Nv m, Nv j, .clo 96 [.ip [.clo kf []]]] (.tup []) [v2v, r0v F, v3v, r1v (swr X (m - i) m j), p1v us] rfl rfl rfl f117_ ?_
   refine o_mv (.row 21) rfl (o_mv (Nv m) rfl (o_mv (Nv i) rfl ?_))
   refine n_sub m i gn rfl rfl (by omega) (by simp only [topOf]; omega) ?_
   refine o_mv (Nv m) rfl (o_mv (Nv j) rfl (o_mv (.clo 96 [.ip [.clo kf []]]) rfl ?_))
   refine aops_end ⟨_, Wk.sub (σ' := ⟨[(0, .row 21), (2, Nv m), (4, .clo 96 [.ip [.clo kf []]]), (10, Nv i), (11, Nv j), (18, Nv i), (19, Nv j), (20, bp (i ≠ j)), (21, Nv i), (22, Nv j), (23, bp (j < i)), (24, .row 21), (27, Nv (m - i)), (28, Nv m), (29, Nv j), (30, .clo 96 [.ip [.clo kf []]])], [v2v, r0v F, v3v, r1v X, p1v us]⟩) ⟨rfl, rfl, rfl, rfl, rfl, rfl, rfl, rfl, rfl, rfl, rfl, rfl, rfl, rfl, rfl, rfl, trivial⟩ ⟨rfl, rfl, rfl, rfl, rfl, trivial⟩, rfl, rfl, scalls_of_r (K := [2, 3, 21]) (m := [v2v, r0v F, v3v, r1v X]) (m' := [v2v, r0v F, v3v, r1v (swr X (m - i) m j)]) (e := [p1v us]) (c_swpi kf key hkey X F (m - i) m j (by omega) (by omega) (by omega)) rfl rfl, ?_⟩
   refine hK6 _ (awp_region rfl (o_mv (Nv i) rfl (o_mv (Nv j) rfl ?_)))
   refine n_sub i j gn rfl rfl (by omega) (by simp only [topOf]; omega) ?_
   refine o_as (Nv (i - j)) rfl (aops_end ?_)
   refine ⟨_, _, ?lt, ⟨f - 1, i - j, j, swr X (m - i) m j, ((rotF_gt (by omega) (by omega)).trans hR), (swr_len _ _ _ _).trans hl, (by omega), (by omega), (by omega), rfl, rfl⟩, ?wk⟩
   case lt => omega
   case wk => exact Wk.sub ⟨rfl, rfl, rfl, (by rfl), rfl, trivial⟩ ⟨rfl, rfl, rfl, rfl, (by rfl), trivial⟩
  ·refine awp_seq fun K7 hK7 => ?_
   refine awp_regionSW 11 46 _ 135 [] _ _ _ _ _ [.row 21, Nv (m - i), Nv ((m + j) - i), Nv i, .clo 96 [.ip [.clo kf []]]] (.tup []) [v2v, r0v F, v3v, r1v (swr X (m - i) (m + j - i) i), p1v us] rfl rfl rfl f117_ ?_
   refine o_mv (.row 21) rfl (o_mv (Nv m) rfl (o_mv (Nv i) rfl ?_))
   refine n_sub m i gn rfl rfl (by omega) (by simp only [topOf]; omega) ?_
   refine o_mv (Nv m) rfl (o_mv (Nv j) rfl ?_)
   refine n_add m j gn rfl rfl (by simp only [topOf]; omega) ?_
   refine o_mv (Nv i) rfl ?_
   refine n_sub (m + j) i gn rfl rfl (by omega) (by simp only [topOf]; omega) ?_
   refine o_mv (Nv i) rfl (o_mv (.clo 96 [.ip [.clo kf []]]) rfl ?_)
   refine aops_end ⟨_, Wk.sub (σ' := ⟨[(0, .row 21), (2, Nv m), (4, .clo 96 [.ip [.clo kf []]]), (10, Nv i), (11, Nv j), (18, Nv i), (19, Nv j), (20, bp (i ≠ j)), (21, Nv i), (22, Nv j), (23, bp (j < i)), (35, .row 21), (38, Nv (m - i)), (43, Nv ((m + j) - i)), (44, Nv i), (45, .clo 96 [.ip [.clo kf []]])], [v2v, r0v F, v3v, r1v X, p1v us]⟩) ⟨rfl, rfl, rfl, rfl, rfl, rfl, rfl, rfl, rfl, rfl, rfl, rfl, rfl, rfl, rfl, rfl, trivial⟩ ⟨rfl, rfl, rfl, rfl, rfl, trivial⟩, rfl, rfl, scalls_of_r (K := [2, 3, 21]) (m := [v2v, r0v F, v3v, r1v X]) (m' := [v2v, r0v F, v3v, r1v (swr X (m - i) (m + j - i) i)]) (e := [p1v us]) (c_swpi kf key hkey X F (m - i) (m + j - i) i (by omega) (by omega) (by omega)) rfl rfl, ?_⟩
   refine hK7 _ (awp_region rfl (o_mv (Nv j) rfl (o_mv (Nv i) rfl ?_)))
   refine n_sub j i gn rfl rfl (by omega) (by simp only [topOf]; omega) ?_
   refine o_as (Nv (j - i)) rfl (aops_end ?_)
   refine ⟨_, _, ?lt, ⟨f - 1, i, j - i, swr X (m - i) (m + j - i) i, ((rotF_lt (by omega) (by omega)).trans hR), (swr_len _ _ _ _).trans hl, (by omega), (by omega), (by omega), rfl, rfl⟩, ?wk⟩
   case lt => omega
   case wk => exact Wk.sub ⟨rfl, rfl, rfl, rfl, (by rfl), trivial⟩ ⟨rfl, rfl, rfl, rfl, (by rfl), trivial⟩
 ·refine awp_exit ?_
  refine hK2 _ ?_
  refine awp_regionSW 7 57 _ 135 [] _ _ _ _ _ [.row 21, Nv (m - i), Nv m, Nv i, .clo 96 [.ip [.clo kf []]]] (.tup []) [v2v, r0v F, v3v, r1v (swr X (m - i) m i), p1v us] rfl rfl rfl f117_ ?_
  refine o_mv (.row 21) rfl (o_mv (Nv m) rfl (o_mv (Nv i) rfl ?_))
  refine n_sub m i gn rfl rfl (by omega) (by simp only [topOf]; omega) ?_
  refine o_mv (Nv m) rfl (o_mv (Nv i) rfl (o_mv (.clo 96 [.ip [.clo kf []]]) rfl ?_))
  refine aops_end ⟨_, Wk.sub (σ' := ⟨[(0, .row 21), (2, Nv m), (4, .clo 96 [.ip [.clo kf []]]), (10, Nv i), (11, Nv j), (18, Nv i), (19, Nv j), (20, bp (i ≠ j)), (50, .row 21), (53, Nv (m - i)), (54, Nv m), (55, Nv i), (56, .clo 96 [.ip [.clo kf []]])], [v2v, r0v F, v3v, r1v X, p1v us]⟩) ⟨rfl, rfl, rfl, rfl, rfl, rfl, rfl, rfl, rfl, rfl, rfl, rfl, rfl, trivial⟩ ⟨rfl, rfl, rfl, rfl, rfl, trivial⟩, rfl, rfl, scalls_of_r (K := [2, 3, 21]) (m := [v2v, r0v F, v3v, r1v X]) (m' := [v2v, r0v F, v3v, r1v (swr X (m - i) m i)]) (e := [p1v us]) (c_swpi kf key hkey X F (m - i) m i (by omega) (by omega) (by omega)) rfl rfl, ?_⟩
  exact ⟨⟨[], [p1v us, v2v, r0v F, v3v, r1v (rotF (m - a + (b - m)) D m (m - a) (b - m))]⟩, Wk.sub trivial ⟨rfl, rfl, rfl, rfl, (by (exact row_is ((rotF_eq (by omega) (by omega)).trans hR))), trivial⟩, ⟨[], trivial, rfl, fun id ob h => keep_pin h rfl, rfl⟩⟩

theorem c_symi (kf : Nat) (key : Int → Int) (hkey : ∀ x y : Int, ECalls cx 96 [.lit (.int .i64 x), .lit (.int .i64 y), .ip [.clo kf []]] (.lit (.int .i64 (cmpZ (key x) (key y))))) (F : List Fal) : ∀ (f : Nat) (D : List Int) (a m b : Nat), b - a ≤ f → a < m → m < b → b ≤ D.length → D.length ≤ 1000000 →
  RCalls cx 116 [.row 21, Nv a, Nv m, Nv b, .clo 96 [.ip [.clo kf []]]] [2, 3, 21] [v2v, r0v F, v3v, r1v D] (.tup []) [v2v, r0v F, v3v, r1v (symF key f D a m b)] := by
 intro f
 induction f using Nat.strongRecOn
 rename_i f ih
 intro D a m b hf ham hmb hb hD
 obtain ⟨e, hfe⟩ : ∃ e, f = e + 1 := ⟨f - 1, by omega⟩
 refine rcalls_of_x (X := [(2, false), (3, false), (21, true)]) (scalls_of_awpB 9009 Tryz.func116 (c := _) rfl (Nat.le_of_ble_eq_true rfl) rfl rfl rfl (fun us => ?_)) rfl
 refine awp_late ?_
 show awp cx 220 _ (lateQ cx 220 (postS cx Tryz.f116 (.tup []) [v2v, r0v F, v3v, r1v (symF key f D a m b)] 9009 [.ref 2 0, .ref 3 0, .row 21] us)) ⟨[(0, .row 21), (1, Nv a), (2, Nv m), (3, Nv b), (4, .clo 96 [.ip [.clo kf []]])], [p1v us, v2v, r0v F, v3v, r1v D]⟩
 refine awp_seq fun K0 hK0 => awp_seq fun K1 hK1 => awp_region rfl (o_mv (Nv m) rfl (o_mv (Nv a) rfl ?_))
 refine n_sub m a gn rfl rfl (by omega) (by simp only [topOf]; omega) ?_
 refine n_eql (m - a) 1 gn rfl rfl ?_
 refine aops_end (hK1 _ ?_)
 refine awp_condQ (q := (m - a) = 1) rfl (fun h1 => ?_) (fun h1 => ?_)
 ·refine awp_seq fun K2 hK2 => awp_region rfl (o_mv (Nv m) rfl (o_as (Nv m) rfl (aops_end (hK2 _ (awp_seq fun K3 hK3 => awp_region rfl (o_mv (Nv b) rfl (o_as (Nv b) rfl (aops_end (hK3 _ ?_)))))))))
  refine awp_seq fun K4 hK4 => ?_
  refine awp_block ?_
  refine awp_loopR (fun κ σ => ∃ (i : Nat), ∃ (j : Nat), (bsr (pA key D a) i j = bsr (pA key D a) m b) ∧ (m ≤ i ∧ i ≤ j ∧ j ≤ b) ∧ (j - i) = κ ∧ σ = ⟨[(0, .row 21), (1, Nv a), (2, Nv m), (3, Nv b), (4, .clo 96 [.ip [.clo kf []]]), (10, Nv i), (11, Nv j)], [p1v us, v2v, r0v F, v3v, r1v D]⟩) ⟨_, _, ⟨m, b, rfl, (by omega), rfl, rfl⟩, ?wk0⟩ ?rd0
  case wk0 =>
   exact Wk.sub ⟨rfl, rfl, rfl, rfl, rfl, (by rfl), (by rfl), trivial⟩ ⟨rfl, rfl, rfl, rfl, rfl, trivial⟩
  rintro κ _ ⟨i, j, hbs, hi, rfl, rfl⟩
  refine awp_seq fun K5 hK5 => awp_seq fun K6 hK6 => awp_region rfl (o_mv (Nv i) rfl (o_mv (Nv j) rfl ?_))
  refine n_lss i j gn rfl rfl ?_
  refine aops_end (hK6 _ ?_)
  refine awp_condQ (q := i < j) rfl (fun h2 => ?_) (fun h2 => ?_)
  ·refine awp_skip (hK5 _ ?_)
   refine awp_block ?_
   refine awp_seq fun K7 hK7 => awp_region rfl (o_mv (Nv i) rfl (o_mv (Nv j) rfl ?_))
   refine n_add i j gn rfl rfl (by simp only [topOf]; omega) ?_
   refine n_conv (i + j) gn rfl f41_ f114_ (by simp only [topOf]; omega) ?_
   refine n_shr1 (i + j) gn rfl rfl ?_
   refine n_conv ((i + j) / 2) gn rfl f114_ f41_ (by simp only [topOf]; omega) ?_
   refine o_as (Nv ((i + j) / 2)) rfl (aops_end (hK7 _ (awp_seq fun K8 hK8 => awp_regionD rfl (o_mv (.clo 96 [.ip [.clo kf []]]) rfl (o_mv (.row 21) rfl (o_mv (Nv ((i + j) / 2)) rfl ?_))))))
   refine i_indexRow D ((i + j) / 2) gn f10_ rfl rfl rfl (by omega) ?_
   refine i_loadRow D ((i + j) / 2) gn f11_ rfl rfl (by omega) ?_
   refine o_mv (.row 21) rfl (o_mv (Nv a) rfl ?_)
   refine i_indexRow D a gn f10_ rfl rfl rfl (by omega) ?_
   refine i_loadRow D a gn f11_ rfl rfl (by omega) ?_
   refine o_callG [] [Iv (D.getD ((i + j) / 2) 0), Iv (D.getD a 0), .ip [.clo kf []]] _ (Iv (cmpZ (key (D.getD ((i + j) / 2) 0)) (key (D.getD a 0)))) [p1v us, v2v, r0v F, v3v, r1v D] gn f112_ rfl trivial rfl rfl (LeL.cons (AV.le_refl _) (LeL.cons (AV.le_refl _) (LeL.cons (AV.le_refl _) LeL.nil))) (hkey (D.getD ((i + j) / 2) 0) (D.getD a 0)) rfl ?_
   refine o_lss (a := (cmpZ (key (D.getD ((i + j) / 2) 0)) (key (D.getD a 0)))) (c := ((0 : Nat) : Int)) gn rfl rfl ?_
   refine aops_end ⟨by kernel_rfl, ?_⟩
   refine hK8 _ ?_
   refine awp_condQ (q := (cmpZ (key (D.getD ((i + j) / 2) 0)) (key (D.getD a 0))) < ((0 : Nat) : Int)) rfl (fun h3 => ?_) (fun h3 => ?_)
   ·refine awp_region rfl (o_mv (Nv ((i + j) / 2)) rfl ?_)
    refine n_add ((i + j) / 2) 1 gn rfl rfl (by simp only [topOf]; omega) ?_
    refine o_as (Nv (((i + j) / 2) + 1)) rfl (aops_end ?_)
    refine ⟨_, _, ?lt, ⟨(i + j) / 2 + 1, j, (bs_up hbs (by assumption) (pA_y (by assumption))), (by omega), rfl, rfl⟩, ?wk⟩
    case lt => omega
    case wk => exact Wk.sub ⟨rfl, rfl, rfl, rfl, rfl, (by rfl), rfl, trivial⟩ ⟨rfl, rfl, rfl, rfl, rfl, trivial⟩
   ·refine awp_region rfl (o_mv (Nv ((i + j) / 2)) rfl (o_as (Nv ((i + j) / 2)) rfl (aops_end ?_)))
    refine ⟨_, _, ?lt, ⟨i, (i + j) / 2, (bs_dn hbs (by assumption) (pA_n (by assumption))), (by omega), rfl, rfl⟩, ?wk⟩
    case lt => omega
    case wk => exact Wk.sub ⟨rfl, rfl, rfl, rfl, rfl, rfl, (by rfl), trivial⟩ ⟨rfl, rfl, rfl, rfl, rfl, trivial⟩
  ·refine awp_exit ?_
   refine hK4 _ (awp_seq fun K9 hK9 => awp_seq fun K10 hK10 => ?_)
   have hie := bs_end hbs (by assumption)
   refine awp_region rfl (o_mv (Nv a) rfl (o_as (Nv a) rfl (aops_end (hK10 _ ?_))))
   refine awp_block ?_
   refine awp_loopR (fun κ σ => ∃ (q : Nat), (a + q ≤ i - 1) ∧ (i - (a + q)) = κ ∧ σ = ⟨[(0, .row 21), (1, Nv a), (2, Nv m), (3, Nv b), (4, .clo 96 [.ip [.clo kf []]]), (10, Nv i), (13, Nv (a + q))], [p1v us, v2v, r0v F, v3v, r1v (mvR D a q)]⟩) ⟨_, _, ⟨0, (by omega), rfl, rfl⟩, ?wk1⟩ ?rd1
   case wk1 =>
    exact Wk.sub ⟨rfl, rfl, rfl, rfl, rfl, rfl, (by rfl), trivial⟩ ⟨rfl, rfl, rfl, rfl, (by rfl), trivial⟩
   rintro κ _ ⟨q, hq, rfl, rfl⟩
   have hXl := mvR_len D a q
   refine awp_seq fun K11 hK11 => awp_seq fun K12 hK12 => awp_region rfl (o_mv (Nv (a + q)) rfl (o_mv (Nv i) rfl ?_))
   refine n_sub i 1 gn rfl rfl (by omega) (by simp only [topOf]; omega) ?_
   refine n_lss (a + q) (i - 1) gn rfl rfl ?_
   refine aops_end (hK12 _ ?_)
   refine awp_condQ (q := (a + q) < (i - 1)) rfl (fun h4 => ?_) (fun h4 => ?_)
   ·refine awp_skip (hK11 _ (awp_seq fun K13 hK13 => ?_))
    refine awp_block ?_
    refine awp_regionT rfl ?_
    refine o_mv (.row 21) rfl (o_mv (Nv (a + q)) rfl (o_mv (.row 21) rfl (o_mv (Nv (a + q)) rfl ?_)))
    refine n_add (a + q) 1 gn rfl rfl (by simp only [topOf]; omega) ?_
    refine o_mv (.row 21) rfl (o_mv (Nv (a + q)) rfl ?_)
    refine n_add (a + q) 1 gn rfl rfl (by simp only [topOf]; omega) ?_
    refine i_indexRow (mvR D a q) ((a + q) + 1) gn f10_ rfl rfl rfl (by omega) ?_
    refine i_loadRow (mvR D a q) ((a + q) + 1) gn f11_ rfl rfl (by omega) ?_
    refine o_mv (.row 21) rfl (o_mv (Nv (a + q)) rfl ?_)
    refine i_indexRow (mvR D a q) (a + q) gn f10_ rfl rfl rfl (by omega) ?_
    refine i_loadRow (mvR D a q) (a + q) gn f11_ rfl rfl (by omega) ?_
    refine i_indexRow (mvR D a q) (a + q) gn f10_ rfl rfl rfl (by omega) ?_
    refine i_storeRow (mvR D a q) (a + q) ((mvR D a q).getD ((a + q) + 1) 0) [p1v us, v2v, r0v F, v3v, r1v ((mvR D a q).set (a + q) ((mvR D a q).getD ((a + q) + 1) 0))] gn f43_ rfl rfl rfl (by omega) rfl ?_
    refine i_indexRow ((mvR D a q).set (a + q) ((mvR D a q).getD ((a + q) + 1) 0)) ((a + q) + 1) gn f10_ rfl rfl rfl (by simp only [List.length_set]; omega) ?_
    refine i_storeRow ((mvR D a q).set (a + q) ((mvR D a q).getD ((a + q) + 1) 0)) ((a + q) + 1) ((mvR D a q).getD (a + q) 0) [p1v us, v2v, r0v F, v3v, r1v (((mvR D a q).set (a + q) ((mvR D a q).getD ((a + q) + 1) 0)).set ((a + q) + 1) ((mvR D a q).getD (a + q) 0))] gn f43_ rfl rfl rfl (by (simp only [List.length_set]; omega)) rfl ?_
    refine aops_end ⟨by kernel_rfl, ?_⟩
    refine hK13 _ (awp_region rfl (o_mv (Nv (a + q)) rfl ?_))
    refine n_add (a + q) 1 gn rfl rfl (by simp only [topOf]; omega) ?_
    refine o_as (Nv ((a + q) + 1)) rfl (aops_end ?_)
    refine ⟨_, _, ?lt, ⟨q + 1, (by omega), rfl, rfl⟩, ?wk⟩
    case lt => omega
    case wk => exact Wk.sub ⟨rfl, rfl, rfl, rfl, rfl, rfl, (by rfl), trivial⟩ ⟨rfl, rfl, rfl, rfl, (by rfl), trivial⟩
   ·refine awp_exit ?_
    refine hK9 _ ?_
    refine awp_ret ?_
    exact ⟨⟨[], [p1v us, v2v, r0v F, v3v, r1v (symF key f D a m b)]⟩, Wk.sub trivial ⟨rfl, rfl, rfl, rfl, (by (exact row_is (by rw [← sym_1 hfe (by assumption) hie, show q = i - 1 - a by omega]))), trivial⟩, ⟨[], trivial, rfl, fun id ob h => keep_pin h rfl, rfl⟩⟩
 ·refine awp_skip (hK0 _ (awp_seq fun K14 hK14 => awp_seq fun K15 hK15 => awp_region rfl (o_mv (Nv b) rfl (o_mv (Nv m) rfl ?_))))
  refine n_sub b m gn rfl rfl (by omega) (by simp only [topOf]; omega) ?_
  refine n_eql (b - m) 1 gn rfl rfl ?_
  refine aops_end (hK15 _ ?_)
  refine awp_condQ (q := (b - m) = 1) rfl (fun h5 => ?_) (fun h5 => ?_)
  ·refine awp_seq fun K16 hK16 => awp_region rfl (o_mv (Nv a) rfl (o_as (Nv a) rfl (aops_end (hK16 _ (awp_seq fun K17 hK17 => awp_region rfl (o_mv (Nv m) rfl (o_as (Nv m) rfl (aops_end (hK17 _ ?_)))))))))
   refine awp_seq fun K18 hK18 => ?_
   refine awp_block ?_
   refine awp_loopR (fun κ σ => ∃ (i : Nat), ∃ (j : Nat), (bsr (pB key D m) i j = bsr (pB key D m) a m) ∧ (a ≤ i ∧ i ≤ j ∧ j ≤ m) ∧ (j - i) = κ ∧ σ = ⟨[(0, .row 21), (1, Nv a), (2, Nv m), (3, Nv b), (4, .clo 96 [.ip [.clo kf []]]), (14, Nv i), (15, Nv j)], [p1v us, v2v, r0v F, v3v, r1v D]⟩) ⟨_, _, ⟨a, m, rfl, (by omega), rfl, rfl⟩, ?wk2⟩ ?rd2
   case wk2 =>
    exact Wk.sub ⟨rfl, rfl, rfl, rfl, rfl, (by rfl), (by rfl), trivial⟩ ⟨rfl, rfl, rfl, rfl, rfl, trivial⟩
   rintro κ _ ⟨i, j, hbs, hi, rfl, rfl⟩
   refine awp_seq fun K19 hK19 => awp_seq fun K20 hK20 => awp_region rfl (o_mv (Nv i) rfl (o_mv (Nv j) rfl ?_))
   refine n_lss i j gn rfl rfl ?_
   refine aops_end (hK20 _ ?_)
   refine awp_condQ (q := i < j) rfl (fun h6 => ?_) (fun h6 => ?_)
   ·refine awp_skip (hK19 _ ?_)
    refine awp_block ?_
    refine awp_seq fun K21 hK21 => awp_region rfl (o_mv (Nv i) rfl (o_mv (Nv j) rfl ?_))
    refine n_add i j gn rfl rfl (by simp only [topOf]; omega) ?_
    refine n_conv (i + j) gn rfl f41_ f114_ (by simp only [topOf]; omega) ?_
    refine n_shr1 (i + j) gn rfl rfl ?_
    refine n_conv ((i + j) / 2) gn rfl f114_ f41_ (by simp only [topOf]; omega) ?_
    refine o_as (Nv ((i + j) / 2)) rfl (aops_end (hK21 _ (awp_seq fun K22 hK22 => awp_regionD rfl (o_mv (.clo 96 [.ip [.clo kf []]]) rfl (o_mv (.row 21) rfl (o_mv (Nv m) rfl ?_))))))
    refine i_indexRow D m gn f10_ rfl rfl rfl (by omega) ?_
    refine i_loadRow D m gn f11_ rfl rfl (by omega) ?_
    refine o_mv (.row 21) rfl (o_mv (Nv ((i + j) / 2)) rfl ?_)
    refine i_indexRow D ((i + j) / 2) gn f10_ rfl rfl rfl (by omega) ?_
    refine i_loadRow D ((i + j) / 2) gn f11_ rfl rfl (by omega) ?_
    refine o_callG [] [Iv (D.getD m 0), Iv (D.getD ((i + j) / 2) 0), .ip [.clo kf []]] _ (Iv (cmpZ (key (D.getD m 0)) (key (D.getD ((i + j) / 2) 0)))) [p1v us, v2v, r0v F, v3v, r1v D] gn f112_ rfl trivial rfl rfl (LeL.cons (AV.le_refl _) (LeL.cons (AV.le_refl _) (LeL.cons (AV.le_refl _) LeL.nil))) (hkey (D.getD m 0) (D.getD ((i + j) / 2) 0)) rfl ?_
    refine o_lss (a := (cmpZ (key (D.getD m 0)) (key (D.getD ((i + j) / 2) 0)))) (c := ((0 : Nat) : Int)) gn rfl rfl ?_
    refine o_notP (q := (cmpZ (key (D.getD m 0)) (key (D.getD ((i + j) / 2) 0))) < ((0 : Nat) : Int)) gn rfl ?_
    refine aops_end ⟨by kernel_rfl, ?_⟩
    refine hK22 _ ?_
    refine awp_condQ (q := ¬ ((cmpZ (key (D.getD m 0)) (key (D.getD ((i + j) / 2) 0))) < ((0 : Nat) : Int))) rfl (fun h7 => ?_) (fun h7 => ?_)
    ·refine awp_region rfl (o_mv (Nv ((i + j) / 2)) rfl ?_)
     refine n_add ((i + j) / 2) 1 gn rfl rfl (by simp only [topOf]; omega) ?_
     refine o_as (Nv (((i + j) / 2) + 1)) rfl (aops_end ?_)
     refine ⟨_, _, ?lt, ⟨(i + j) / 2 + 1, j, (bs_up hbs (by assumption) (pB_y (by assumption))), (by omega), rfl, rfl⟩, ?wk⟩
     case lt => omega
     case wk => exact Wk.sub ⟨rfl, rfl, rfl, rfl, rfl, (by rfl), rfl, trivial⟩ ⟨rfl, rfl, rfl, rfl, rfl, trivial⟩
    ·refine awp_region rfl (o_mv (Nv ((i + j) / 2)) rfl (o_as (Nv ((i + j) / 2)) rfl (aops_end ?_)))
     refine ⟨_, _, ?lt, ⟨i, (i + j) / 2, (bs_dn hbs (by assumption) (pB_n (Decidable.not_not.1 (by assumption)))), (by omega), rfl, rfl⟩, ?wk⟩
     case lt => omega
     case wk => exact Wk.sub ⟨rfl, rfl, rfl, rfl, rfl, rfl, (by rfl), trivial⟩ ⟨rfl, rfl, rfl, rfl, rfl, trivial⟩
   ·refine awp_exit ?_
    refine hK18 _ (awp_seq fun K23 hK23 => awp_seq fun K24 hK24 => ?_)
    have hie := bs_end hbs (by assumption)
    refine awp_region rfl (o_mv (Nv m) rfl (o_as (Nv m) rfl (aops_end (hK24 _ ?_))))
    refine awp_block ?_
    refine awp_loopR (fun κ σ => ∃ (q : Nat), (q + i ≤ m) ∧ (m - q) = κ ∧ σ = ⟨[(0, .row 21), (1, Nv a), (2, Nv m), (3, Nv b), (4, .clo 96 [.ip [.clo kf []]]), (14, Nv i), (17, Nv (m - q))], [p1v us, v2v, r0v F, v3v, r1v (mvL D m q)]⟩) ⟨_, _, ⟨0, (by omega), rfl, rfl⟩, ?wk3⟩ ?rd3
    case wk3 =>
     exact Wk.sub ⟨rfl, rfl, rfl, rfl, rfl, rfl, (by rfl), trivial⟩ ⟨rfl, rfl, rfl, rfl, (by rfl), trivial⟩
    rintro κ _ ⟨q, hq, rfl, rfl⟩
    have hXl := mvL_len D m q
    refine awp_seq fun K25 hK25 => awp_seq fun K26 hK26 => awp_region rfl (o_mv (Nv (m - q)) rfl (o_mv (Nv i) rfl ?_))
    refine n_gtr (m - q) i gn rfl rfl ?_
    refine aops_end (hK26 _ ?_)
    refine awp_condQ (q := i < (m - q)) rfl (fun h8 => ?_) (fun h8 => ?_)
    ·refine awp_skip (hK25 _ (awp_seq fun K27 hK27 => ?_))
     refine awp_block ?_
     refine awp_regionT rfl ?_
     refine o_mv (.row 21) rfl (o_mv (Nv (m - q)) rfl (o_mv (.row 21) rfl (o_mv (Nv (m - q)) rfl ?_)))
     refine n_sub (m - q) 1 gn rfl rfl (by omega) (by simp only [topOf]; omega) ?_
     refine o_mv (.row 21) rfl (o_mv (Nv (m - q)) rfl ?_)
     refine n_sub (m - q) 1 gn rfl rfl (by omega) (by simp only [topOf]; omega) ?_
     refine i_indexRow (mvL D m q) ((m - q) - 1) gn f10_ rfl rfl rfl (by omega) ?_
     refine i_loadRow (mvL D m q) ((m - q) - 1) gn f11_ rfl rfl (by omega) ?_
     refine o_mv (.row 21) rfl (o_mv (Nv (m - q)) rfl ?_)
     refine i_indexRow (mvL D m q) (m - q) gn f10_ rfl rfl rfl (by omega) ?_
     refine i_loadRow (mvL D m q) (m - q) gn f11_ rfl rfl (by omega) ?_
     refine i_indexRow (mvL D m q) (m - q) gn f10_ rfl rfl rfl (by omega) ?_
     refine i_storeRow (mvL D m q) (m - q) ((mvL D m q).getD ((m - q) - 1) 0) [p1v us, v2v, r0v F, v3v, r1v ((mvL D m q).set (m - q) ((mvL D m q).getD ((m - q) - 1) 0))] gn f43_ rfl rfl rfl (by omega) rfl ?_
     refine i_indexRow ((mvL D m q).set (m - q) ((mvL D m q).getD ((m - q) - 1) 0)) ((m - q) - 1) gn f10_ rfl rfl rfl (by simp only [List.length_set]; omega) ?_
     refine i_storeRow ((mvL D m q).set (m - q) ((mvL D m q).getD ((m - q) - 1) 0)) ((m - q) - 1) ((mvL D m q).getD (m - q) 0) [p1v us, v2v, r0v F, v3v, r1v (((mvL D m q).set (m - q) ((mvL D m q).getD ((m - q) - 1) 0)).set ((m - q) - 1) ((mvL D m q).getD (m - q) 0))] gn f43_ rfl rfl rfl (by (simp only [List.length_set]; omega)) rfl ?_
     refine aops_end ⟨by kernel_rfl, ?_⟩
     refine hK27 _ (awp_region rfl (o_mv (Nv (m - q)) rfl ?_))
     refine n_sub (m - q) 1 gn rfl rfl (by omega) (by simp only [topOf]; omega) ?_
     refine o_as (Nv ((m - q) - 1)) rfl (aops_end ?_)
     refine ⟨_, _, ?lt, ⟨q + 1, (by omega), rfl, rfl⟩, ?wk⟩
     case lt => omega
     case wk => exact Wk.sub ⟨rfl, rfl, rfl, rfl, rfl, rfl, (by rfl), trivial⟩ ⟨rfl, rfl, rfl, rfl, (by rfl), trivial⟩
    ·refine awp_exit ?_
     refine hK23 _ ?_
     refine awp_ret ?_
     exact ⟨⟨[], [p1v us, v2v, r0v F, v3v, r1v (symF key f D a m b)]⟩, Wk.sub trivial ⟨rfl, rfl, rfl, rfl, (by (exact row_is (by rw [← sym_2 hfe (by assumption) (by assumption) hie, show q = m - i by omega]))), trivial⟩, ⟨[], trivial, rfl, fun id ob h => keep_pin h rfl, rfl⟩⟩
  ·refine awp_skip (hK14 _ (awp_seq fun K28 hK28 => awp_region rfl (o_mv (Nv a) rfl (o_mv (Nv b) rfl ?_))))
   refine n_add a b gn rfl rfl (by simp only [topOf]; omega) ?_
   refine n_conv (a + b) gn rfl f41_ f114_ (by simp only [topOf]; omega) ?_
   refine n_shr1 (a + b) gn rfl rfl ?_
   refine n_conv ((a + b) / 2) gn rfl f114_ f41_ (by simp only [topOf]; omega) ?_
   refine o_as (Nv ((a + b) / 2)) rfl (aops_end (hK28 _ (awp_seq fun K29 hK29 => awp_region rfl (o_mv (Nv ((a + b) / 2)) rfl (o_mv (Nv m) rfl ?_)))))
   refine n_add ((a + b) / 2) m gn rfl rfl (by simp only [topOf]; omega) ?_
   refine o_as (Nv (((a + b) / 2) + m)) rfl (aops_end (hK29 _ (awp_seq fun K30 hK30 => awp_region rfl (o_as (Nv 0) rfl (o_as (Nv 0) rfl (aops_end (hK30 _ ?_)))))))
   refine awp_seqJ (J := fun σ => ∃ (p : Nat), ∃ (q : Nat), (bsr (pC key D ((((a + b) / 2) + m) - 1)) p q = symS key D a m b) ∧ (a ≤ p ∧ (((a + b) / 2) + m) ≤ p + b ∧ p ≤ q ∧ q ≤ m ∧ q ≤ ((a + b) / 2)) ∧ True ∧ σ = ⟨[(0, .row 21), (1, Nv a), (2, Nv m), (3, Nv b), (4, .clo 96 [.ip [.clo kf []]]), (18, Nv ((a + b) / 2)), (19, Nv (((a + b) / 2) + m)), (20, Nv p), (21, Nv q)], [p1v us, v2v, r0v F, v3v, r1v D]⟩) ?ja4 ?jb4
   case ja4 =>
    refine awp_seq fun K31 hK31 => awp_region rfl (o_mv (Nv m) rfl (o_mv (Nv ((a + b) / 2)) rfl ?_))
    refine n_gtr m ((a + b) / 2) gn rfl rfl ?_
    refine aops_end (hK31 _ ?_)
    refine awp_condQ (q := ((a + b) / 2) < m) rfl (fun h9 => ?_) (fun h9 => ?_)
    ·refine awp_seq fun K32 hK32 => awp_region rfl (o_mv (Nv (((a + b) / 2) + m)) rfl (o_mv (Nv b) rfl ?_))
     refine n_sub (((a + b) / 2) + m) b gn rfl rfl (by omega) (by simp only [topOf]; omega) ?_
     refine o_as (Nv ((((a + b) / 2) + m) - b)) rfl (aops_end (hK32 _ (awp_region rfl (o_mv (Nv ((a + b) / 2)) rfl (o_as (Nv ((a + b) / 2)) rfl (aops_end ?_))))))
     exact ⟨_, ⟨(((a + b) / 2) + m) - b, (a + b) / 2, (symS_lo (by assumption) rfl), (by omega), trivial, rfl⟩, Wk.sub ⟨rfl, rfl, rfl, rfl, rfl, (by rfl), (by rfl), (by rfl), (by rfl), trivial⟩ ⟨rfl, rfl, rfl, rfl, rfl, trivial⟩⟩
    ·refine awp_seq fun K33 hK33 => awp_region rfl (o_mv (Nv a) rfl (o_as (Nv a) rfl (aops_end (hK33 _ (awp_region rfl (o_mv (Nv m) rfl (o_as (Nv m) rfl (aops_end ?_))))))))
     exact ⟨_, ⟨a, m, (symS_hi (by assumption)), (by omega), trivial, rfl⟩, Wk.sub ⟨rfl, rfl, rfl, rfl, rfl, (by rfl), (by rfl), (by rfl), (by rfl), trivial⟩ ⟨rfl, rfl, rfl, rfl, rfl, trivial⟩⟩
   rintro _ ⟨p, q, hbs, hpq, -, rfl⟩
   refine awp_seq fun K34 hK34 => awp_region rfl (o_mv (Nv (((a + b) / 2) + m)) rfl ?_)
   refine n_sub (((a + b) / 2) + m) 1 gn rfl rfl (by omega) (by simp only [topOf]; omega) ?_
   refine o_as (Nv ((((a + b) / 2) + m) - 1)) rfl (aops_end (hK34 _ (awp_seq fun K35 hK35 => ?_)))
   refine awp_block ?_
   refine awp_loopR (fun κ σ => ∃ (p : Nat), ∃ (q : Nat), (bsr (pC key D ((((a + b) / 2) + m) - 1)) p q = symS key D a m b) ∧ (a ≤ p ∧ (((a + b) / 2) + m) ≤ p + b ∧ p ≤ q ∧ q ≤ m ∧ q ≤ ((a + b) / 2)) ∧ (q - p) = κ ∧ σ = ⟨[(0, .row 21), (1, Nv a), (2, Nv m), (3, Nv b), (4, .clo 96 [.ip [.clo kf []]]), (18, Nv ((a + b) / 2)), (19, Nv (((a + b) / 2) + m)), (22, Nv ((((a + b) / 2) + m) - 1)), (20, Nv p), (21, Nv q)], [p1v us, v2v, r0v F, v3v, r1v D]⟩) ⟨_, _, ⟨p, q, hbs, hpq, rfl, rfl⟩, ?wk5⟩ ?rd5
   case wk5 =>
    exact Wk.sub ⟨rfl, rfl, rfl, rfl, rfl, rfl, rfl, (by rfl), rfl, rfl, trivial⟩ ⟨rfl, rfl, rfl, rfl, rfl, trivial⟩
   rintro κ _ ⟨p, q, hbs, hpq, rfl, rfl⟩
   refine awp_seq fun K36 hK36 => awp_seq fun K37 hK37 => awp_region rfl (o_mv (Nv p) rfl (o_mv (Nv q) rfl ?_))
   refine n_lss p q gn rfl rfl ?_
   refine aops_end (hK37 _ ?_)
   refine awp_condQ (q := p < q) rfl (fun h10 => ?_) (fun h10 => ?_)
   ·refine awp_skip (hK36 _ ?_)
    refine awp_block ?_
    refine awp_seq fun K38 hK38 => awp_region rfl (o_mv (Nv p) rfl (o_mv (Nv q) rfl ?_))
    refine n_add p q gn rfl rfl (by simp only [topOf]; omega) ?_
    refine n_conv (p + q) gn rfl f41_ f114_ (by simp only [topOf]; omega) ?_
    refine n_shr1 (p + q) gn rfl rfl ?_
    refine n_conv ((p + q) / 2) gn rfl f114_ f41_ (by simp only [topOf]; omega) ?_
    refine o_as (Nv ((p + q) / 2)) rfl (aops_end (hK38 _ (awp_seq fun K39 hK39 => awp_regionD rfl (o_mv (.clo 96 [.ip [.clo kf []]]) rfl (o_mv (.row 21) rfl (o_mv (Nv ((((a + b) / 2) + m) - 1)) rfl (o_mv (Nv ((p + q) / 2)) rfl ?_)))))))
    refine n_sub ((((a + b) / 2) + m) - 1) ((p + q) / 2) gn rfl rfl (by omega) (by simp only [topOf]; omega) ?_
    refine i_indexRow D (((((a + b) / 2) + m) - 1) - ((p + q) / 2)) gn f10_ rfl rfl rfl (by omega) ?_
    refine i_loadRow D (((((a + b) / 2) + m) - 1) - ((p + q) / 2)) gn f11_ rfl rfl (by omega) ?_
    refine o_mv (.row 21) rfl (o_mv (Nv ((p + q) / 2)) rfl ?_)
    refine i_indexRow D ((p + q) / 2) gn f10_ rfl rfl rfl (by omega) ?_
    refine i_loadRow D ((p + q) / 2) gn f11_ rfl rfl (by omega) ?_
    refine o_callG [] [Iv (D.getD (((((a + b) / 2) + m) - 1) - ((p + q) / 2)) 0), Iv (D.getD ((p + q) / 2) 0), .ip [.clo kf []]] _ (Iv (cmpZ (key (D.getD (((((a + b) / 2) + m) - 1) - ((p + q) / 2)) 0)) (key (D.getD ((p + q) / 2) 0)))) [p1v us, v2v, r0v F, v3v, r1v D] gn f112_ rfl trivial rfl rfl (LeL.cons (AV.le_refl _) (LeL.cons (AV.le_refl _) (LeL.cons (AV.le_refl _) LeL.nil))) (hkey (D.getD (((((a + b) / 2) + m) - 1) - ((p + q) / 2)) 0) (D.getD ((p + q) / 2) 0)) rfl ?_
    refine o_lss (a := (cmpZ (key (D.getD (((((a + b) / 2) + m) - 1) - ((p + q) / 2)) 0)) (key (D.getD ((p + q) / 2) 0)))) (c := ((0 : Nat) : Int)) gn rfl rfl ?_
    refine o_notP (q := (cmpZ (key (D.getD (((((a + b) / 2) + m) - 1) - ((p + q) / 2)) 0)) (key (D.getD ((p + q) / 2) 0))) < ((0 : Nat) : Int)) gn rfl ?_
    refine aops_end ⟨by kernel_rfl, ?_⟩
    refine hK39 _ ?_
    refine awp_condQ (q := ¬ ((cmpZ (key (D.getD (((((a + b) / 2) + m) - 1) - ((p + q) / 2)) 0)) (key (D.getD ((p + q) / 2) 0))) < ((0 : Nat) : Int))) rfl (fun h11 => ?_) (fun h11 => ?_)
    ·refine awp_region rfl (o_mv (Nv ((p + q) / 2)) rfl ?_)
     refine n_add ((p + q) / 2) 1 gn rfl rfl (by simp only [topOf]; omega) ?_
     refine o_as (Nv (((p + q) / 2) + 1)) rfl (aops_end ?_)
     refine ⟨_, _, ?lt, ⟨(p + q) / 2 + 1, q, (bs_up hbs (by assumption) (pC_y (by assumption))), (by omega), rfl, rfl⟩, ?wk⟩
     case lt => omega
     case wk => exact Wk.sub ⟨rfl, rfl, rfl, rfl, rfl, rfl, rfl, rfl, (by rfl), rfl, trivial⟩ ⟨rfl, rfl, rfl, rfl, rfl, trivial⟩
    ·refine awp_region rfl (o_mv (Nv ((p + q) / 2)) rfl (o_as (Nv ((p + q) / 2)) rfl (aops_end ?_)))
     refine ⟨_, _, ?lt, ⟨p, (p + q) / 2, (bs_dn hbs (by assumption) (pC_n (Decidable.not_not.1 (by assumption)))), (by omega), rfl, rfl⟩, ?wk⟩
     case lt => omega
     case wk => exact Wk.sub ⟨rfl, rfl, rfl, rfl, rfl, rfl, rfl, rfl, rfl, (by rfl), trivial⟩ ⟨rfl, rfl, rfl, rfl, rfl, trivial⟩
   ·refine awp_exit ?_
    refine hK35 _ (awp_seq fun K40 hK40 => ?_)
    have hps := (bs_end hbs (by assumption)).symm
    refine awp_region rfl (o_mv (Nv (((a + b) / 2) + m)) rfl (o_mv (Nv p) rfl ?_))
    refine n_sub (((a + b) / 2) + m) p gn rfl rfl (by omega) (by simp only [topOf]; omega) ?_
    refine o_as (Nv ((((a + b) / 2) + m) - p)) rfl (aops_end (hK40 _ ?_))
    refine awp_seqJ (J := fun σ => ∃ (X1 : List Int), (X1 = if p < m ∧ m < (((a + b) / 2) + m - p) then rotF (m - p + ((((a + b) / 2) + m - p) - m)) D m (m - p) ((((a + b) / 2) + m - p) - m) else D) ∧ (X1.length = D.length) ∧ True ∧ σ = ⟨[(0, .row 21), (1, Nv a), (2, Nv m), (3, Nv b), (4, .clo 96 [.ip [.clo kf []]]), (18, Nv ((a + b) / 2)), (20, Nv p), (24, Nv (((a + b) / 2) + m - p))], [p1v us, v2v, r0v F, v3v, r1v X1]⟩) ?ja6 ?jb6
    case ja6 =>
     refine awp_seq fun K41 hK41 => awp_region rfl (o_mv (Nv p) rfl (o_mv (Nv m) rfl ?_))
     refine n_lss p m gn rfl rfl ?_
     refine o_mv (bp (p < m)) rfl ?_
     refine o_splitP (q := p < m) 181 rfl (fun h12 => ?_) (fun h12 => ?_)
     ·refine o_move (Nv m) (Gd.yes rfl rfl (decide_eq_true h12)) rfl (o_move (Nv ((((a + b) / 2) + m) - p)) (Gd.yes rfl rfl (decide_eq_true h12)) rfl ?_)
      refine n_lss m ((((a + b) / 2) + m) - p) (Gd.yes rfl rfl (decide_eq_true h12)) rfl rfl ?_
      refine o_pickT (bp (m < ((((a + b) / 2) + m) - p))) gn rfl (decide_eq_true h12) rfl ?_
      refine aops_end (hK41 _ ?_)
      refine awp_condQ (q := m < ((((a + b) / 2) + m) - p)) rfl (fun h13 => ?_) (fun h13 => ?_)
      ·refine awp_regionSW 5 191 _ 126 [] _ _ _ _ _ [.row 21, Nv p, Nv m, Nv ((((a + b) / 2) + m) - p), .clo 96 [.ip [.clo kf []]]] (.tup []) [v2v, r0v F, v3v, r1v (rotF (m - p + ((((a + b) / 2) + m - p) - m)) D m (m - p) ((((a + b) / 2) + m - p) - m)), p1v us] rfl rfl rfl f118_ ?_
       refine o_mv (.row 21) rfl (o_mv (Nv p) rfl (o_mv (Nv m) rfl (o_mv (Nv ((((a + b) / 2) + m) - p)) rfl (o_mv (.clo 96 [.ip [.clo kf []]]) rfl ?_))))
       refine aops_end ⟨_, Wk.sub (σ' := ⟨[(0, .row 21), (1, Nv a), (2, Nv m), (3, Nv b), (4, .clo 96 [.ip [.clo kf []]]), (18, Nv ((a + b) / 2)), (19, Nv (((a + b) / 2) + m)), (22, Nv ((((a + b) / 2) + m) - 1)), (20, Nv p), (21, Nv q), (149, Nv p), (150, Nv q), (151, bp (p < q)), (175, Nv (((a + b) / 2) + m)), (176, Nv p), (177, Nv ((((a + b) / 2) + m) - p)), (24, Nv ((((a + b) / 2) + m) - p)), (178, Nv p), (179, Nv m), (180, bp (p < m)), (181, bp (p < m)), (182, Nv m), (183, Nv ((((a + b) / 2) + m) - p)), (184, bp (m < ((((a + b) / 2) + m) - p))), (185, bp (m < ((((a + b) / 2) + m) - p))), (186, .row 21), (187, Nv p), (188, Nv m), (189, Nv ((((a + b) / 2) + m) - p)), (190, .clo 96 [.ip [.clo kf []]])], [v2v, r0v F, v3v, r1v D, p1v us]⟩) ⟨rfl, rfl, rfl, rfl, rfl, rfl, rfl, rfl, rfl, rfl, rfl, rfl, rfl, rfl, rfl, rfl, rfl, rfl, rfl, rfl, rfl, rfl, rfl, rfl, rfl, rfl, rfl, rfl, rfl, rfl, trivial⟩ ⟨rfl, rfl, rfl, rfl, rfl, trivial⟩, rfl, rfl, scalls_of_r (K := [2, 3, 21]) (m := [v2v, r0v F, v3v, r1v D]) (m' := [v2v, r0v F, v3v, r1v (rotF (m - p + ((((a + b) / 2) + m - p) - m)) D m (m - p) ((((a + b) / 2) + m - p) - m))]) (e := [p1v us]) (c_roti kf key hkey D F p m (((a + b) / 2) + m - p) (by omega) (by omega) (by omega) hD) rfl rfl, ?_⟩
       exact ⟨_, ⟨rotF (m - p + ((((a + b) / 2) + m - p) - m)) D m (m - p) ((((a + b) / 2) + m - p) - m), (if_pos (by omega)).symm, rot_len _ _ _ _ _, trivial, rfl⟩, Wk.sub ⟨rfl, rfl, rfl, rfl, rfl, rfl, rfl, (by rfl), trivial⟩ ⟨rfl, rfl, rfl, rfl, (by rfl), trivial⟩⟩
      ·refine awp_skip ?_
       exact ⟨_, ⟨D, (if_neg (by omega)).symm, rfl, trivial, rfl⟩, Wk.sub ⟨rfl, rfl, rfl, rfl, rfl, rfl, rfl, (by rfl), trivial⟩ ⟨rfl, rfl, rfl, rfl, (by rfl), trivial⟩⟩
     ·refine o_skip rfl rfl (decide_eq_false h12) (o_skip rfl rfl (decide_eq_false h12) (o_skip rfl rfl (decide_eq_false h12) ?_))
      refine o_pickF Fv gn rfl (decide_eq_false h12) rfl ?_
      refine aops_end (hK41 _ ?_)
      refine awp_condB (b := false) rfl (fun hh => absurd (hh.symm.trans rfl) (by decide)) (fun _ => ?_)
      refine awp_skip ?_
      exact ⟨_, ⟨D, (if_neg (by omega)).symm, rfl, trivial, rfl⟩, Wk.sub ⟨rfl, rfl, rfl, rfl, rfl, rfl, rfl, (by rfl), trivial⟩ ⟨rfl, rfl, rfl, rfl, (by rfl), trivial⟩⟩
    rintro _ ⟨X1, hX1, hl1, -, rfl⟩
    refine awp_seqJ (J := fun σ => ∃ (X2 : List Int), (X2 = if a < p ∧ p < ((a + b) / 2) then symF key e X1 a p ((a + b) / 2) else X1) ∧ (X2.length = D.length) ∧ True ∧ σ = ⟨[(0, .row 21), (1, Nv a), (2, Nv m), (3, Nv b), (4, .clo 96 [.ip [.clo kf []]]), (18, Nv ((a + b) / 2)), (20, Nv p), (24, Nv (((a + b) / 2) + m - p))], [p1v us, v2v, r0v F, v3v, r1v X2]⟩) ?ja7 ?jb7
    case ja7 =>
     refine awp_seq fun K42 hK42 => awp_region rfl (o_mv (Nv a) rfl (o_mv (Nv p) rfl ?_))
     refine n_lss a p gn rfl rfl ?_
     refine o_mv (bp (a < p)) rfl ?_
     refine o_splitP (q := a < p) 195 rfl (fun h14 => ?_) (fun h14 => ?_)
     ·refine o_move (Nv p) (Gd.yes rfl rfl (decide_eq_true h14)) rfl (o_move (Nv ((a + b) / 2)) (Gd.yes rfl rfl (decide_eq_true h14)) rfl ?_)
      refine n_lss p ((a + b) / 2) (Gd.yes rfl rfl (decide_eq_true h14)) rfl rfl ?_
      refine o_pickT (bp (p < ((a + b) / 2))) gn rfl (decide_eq_true h14) rfl ?_
      refine aops_end (hK42 _ ?_)
      refine awp_condQ (q := p < ((a + b) / 2)) rfl (fun h15 => ?_) (fun h15 => ?_)
      ·refine awp_regionSW 5 205 _ 116 [] _ _ _ _ _ [.row 21, Nv a, Nv p, Nv ((a + b) / 2), .clo 96 [.ip [.clo kf []]]] (.tup []) [v2v, r0v F, v3v, r1v (symF key e X1 a p ((a + b) / 2)), p1v us] rfl rfl rfl f119_ ?_
       refine o_mv (.row 21) rfl (o_mv (Nv a) rfl (o_mv (Nv p) rfl (o_mv (Nv ((a + b) / 2)) rfl (o_mv (.clo 96 [.ip [.clo kf []]]) rfl ?_))))
       refine aops_end ⟨_, Wk.sub (σ' := ⟨[(0, .row 21), (1, Nv a), (2, Nv m), (3, Nv b), (4, .clo 96 [.ip [.clo kf []]]), (18, Nv ((a + b) / 2)), (20, Nv p), (24, Nv (((a + b) / 2) + m - p)), (192, Nv a), (193, Nv p), (194, bp (a < p)), (195, bp (a < p)), (196, Nv p), (197, Nv ((a + b) / 2)), (198, bp (p < ((a + b) / 2))), (199, bp (p < ((a + b) / 2))), (200, .row 21), (201, Nv a), (202, Nv p), (203, Nv ((a + b) / 2)), (204, .clo 96 [.ip [.clo kf []]])], [v2v, r0v F, v3v, r1v X1, p1v us]⟩) ⟨rfl, rfl, rfl, rfl, rfl, rfl, rfl, rfl, rfl, rfl, rfl, rfl, rfl, rfl, rfl, rfl, rfl, rfl, rfl, rfl, rfl, trivial⟩ ⟨rfl, rfl, rfl, rfl, rfl, trivial⟩, rfl, rfl, scalls_of_r (K := [2, 3, 21]) (m := [v2v, r0v F, v3v, r1v X1]) (m' := [v2v, r0v F, v3v, r1v (symF key e X1 a p ((a + b) / 2))]) (e := [p1v us]) (ih e (by omega) X1 a p ((a + b) / 2) (by omega) (by omega) (by omega) (by omega) (by omega)) rfl rfl, ?_⟩
       exact ⟨_, ⟨symF key e X1 a p ((a + b) / 2), (if_pos (by omega)).symm, (sym_len key _ _ _ _ _).trans hl1, trivial, rfl⟩, Wk.sub ⟨rfl, rfl, rfl, rfl, rfl, rfl, rfl, rfl, trivial⟩ ⟨rfl, rfl, rfl, rfl, (by rfl), trivial⟩⟩
      ·refine awp_skip ?_
       exact ⟨_, ⟨X1, (if_neg (by omega)).symm, hl1, trivial, rfl⟩, Wk.sub ⟨rfl, rfl, rfl, rfl, rfl, rfl, rfl, rfl, trivial⟩ ⟨rfl, rfl, rfl, rfl, (by rfl), trivial⟩⟩
     ·refine o_skip rfl rfl (decide_eq_false h14) (o_skip rfl rfl (decide_eq_false h14) (o_skip rfl rfl (decide_eq_false h14) ?_))
      refine o_pickF Fv gn rfl (decide_eq_false h14) rfl ?_
      refine aops_end (hK42 _ ?_)
      refine awp_condB (b := false) rfl (fun hh => absurd (hh.symm.trans rfl) (by decide)) (fun _ => ?_)
      refine awp_skip ?_
      exact ⟨_, ⟨X1, (if_neg (by omega)).symm, hl1, trivial, rfl⟩, Wk.sub ⟨rfl, rfl, rfl, rfl, rfl, rfl, rfl, rfl, trivial⟩ ⟨rfl, rfl, rfl, rfl, (by rfl), trivial⟩⟩
    rintro _ ⟨X2, hX2, hl2, -, rfl⟩
    refine awp_seq fun K43 hK43 => awp_region rfl (o_mv (Nv ((a + b) / 2)) rfl (o_mv (Nv (((a + b) / 2) + m - p)) rfl ?_))
    refine n_lss ((a + b) / 2) (((a + b) / 2) + m - p) gn rfl rfl ?_
    refine o_mv (bp (((a + b) / 2) < (((a + b) / 2) + m - p))) rfl ?_
    refine o_splitP (q := ((a + b) / 2) < (((a + b) / 2) + m - p)) 209 rfl (fun h16 => ?_) (fun h16 => ?_)
    ·refine o_move (Nv (((a + b) / 2) + m - p)) (Gd.yes rfl rfl (decide_eq_true h16)) rfl (o_move (Nv b) (Gd.yes rfl rfl (decide_eq_true h16)) rfl ?_)
     refine n_lss (((a + b) / 2) + m - p) b (Gd.yes rfl rfl (decide_eq_true h16)) rfl rfl ?_
     refine o_pickT (bp ((((a + b) / 2) + m - p) < b)) gn rfl (decide_eq_true h16) rfl ?_
     refine aops_end (hK43 _ ?_)
     refine awp_condQ (q := (((a + b) / 2) + m - p) < b) rfl (fun h17 => ?_) (fun h17 => ?_)
     ·refine awp_regionSW 5 219 _ 116 [] _ _ _ _ _ [.row 21, Nv ((a + b) / 2), Nv (((a + b) / 2) + m - p), Nv b, .clo 96 [.ip [.clo kf []]]] (.tup []) [v2v, r0v F, v3v, r1v (symF key e X2 ((a + b) / 2) (((a + b) / 2) + m - p) b), p1v us] rfl rfl rfl f119_ ?_
      refine o_mv (.row 21) rfl (o_mv (Nv ((a + b) / 2)) rfl (o_mv (Nv (((a + b) / 2) + m - p)) rfl (o_mv (Nv b) rfl (o_mv (.clo 96 [.ip [.clo kf []]]) rfl ?_))))
      refine aops_end ⟨_, Wk.sub (σ' := ⟨[(0, .row 21), (1, Nv a), (2, Nv m), (3, Nv b), (4, .clo 96 [.ip [.clo kf []]]), (18, Nv ((a + b) / 2)), (20, Nv p), (24, Nv (((a + b) / 2) + m - p)), (206, Nv ((a + b) / 2)), (207, Nv (((a + b) / 2) + m - p)), (208, bp (((a + b) / 2) < (((a + b) / 2) + m - p))), (209, bp (((a + b) / 2) < (((a + b) / 2) + m - p))), (210, Nv (((a + b) / 2) + m - p)), (211, Nv b), (212, bp ((((a + b) / 2) + m - p) < b)), (213, bp ((((a + b) / 2) + m - p) < b)), (214, .row 21), (215, Nv ((a + b) / 2)), (216, Nv (((a + b) / 2) + m - p)), (217, Nv b), (218, .clo 96 [.ip [.clo kf []]])], [v2v, r0v F, v3v, r1v X2, p1v us]⟩) ⟨rfl, rfl, rfl, rfl, rfl, rfl, rfl, rfl, rfl, rfl, rfl, rfl, rfl, rfl, rfl, rfl, rfl, rfl, rfl, rfl, rfl, trivial⟩ ⟨rfl, rfl, rfl, rfl, rfl, trivial⟩, rfl, rfl, scalls_of_r (K := [2, 3, 21]) (m := [v2v, r0v F, v3v, r1v X2]) (m' := [v2v, r0v F, v3v, r1v (symF key e X2 ((a + b) / 2) (((a + b) / 2) + m - p) b)]) (e := [p1v us]) (ih e (by omega) X2 ((a + b) / 2) (((a + b) / 2) + m - p) b (by omega) (by omega) (by omega) (by omega) (by omega)) rfl rfl, ?_⟩
      exact ⟨⟨[], [p1v us, v2v, r0v F, v3v, r1v (symF key f D a m b)]⟩, Wk.sub trivial ⟨rfl, rfl, rfl, rfl, (by (exact row_is (sym_3 hfe (by assumption) (by assumption) hps hX1 hX2 (if_pos (by omega)).symm))), trivial⟩, ⟨[], trivial, rfl, fun id ob h => keep_pin h rfl, rfl⟩⟩
     ·refine awp_skip ?_
      exact ⟨⟨[], [p1v us, v2v, r0v F, v3v, r1v (symF key f D a m b)]⟩, Wk.sub trivial ⟨rfl, rfl, rfl, rfl, (by (exact row_is (sym_3 hfe (by assumption) (by assumption) hps hX1 hX2 (if_neg (by omega)).symm))), trivial⟩, ⟨[], trivial, rfl, fun id ob h => keep_pin h rfl, rfl⟩⟩
    ·refine o_skip rfl rfl (decide_eq_false h16) (o_skip rfl rfl (decide_eq_false h16) (o_skip rfl rfl (decide_eq_false h16) ?_))
     refine o_pickF Fv gn rfl (decide_eq_false h16) rfl ?_
     refine aops_end (hK43 _ ?_)
     refine awp_condB (b := false) rfl (fun hh => absurd (hh.symm.trans rfl) (by decide)) (fun _ => ?_)
     refine awp_skip ?_
     exact ⟨⟨[], [p1v us, v2v, r0v F, v3v, r1v (symF key f D a m b)]⟩, Wk.sub trivial ⟨rfl, rfl, rfl, rfl, (by (exact row_is (sym_3 hfe (by assumption) (by assumption) hps hX1 hX2 (if_neg (by omega)).symm))), trivial⟩, ⟨[], trivial, rfl, fun id ob h => keep_pin h rfl, rfl⟩⟩

end Go.Proofs.YtjbaamfahkjhgaaGreatDoor

namespace Go.Proofs.YtjbaamfahkjhgaaGreatDoor
open Go Go.Ab Go.Mth
theorem f120_ : callable cx.P 106 = true := by kernel_rfl
theorem f121_ : tySc cx.P 93 = true := by kernel_rfl
theorem f122_ : callable cx.P 94 = true := by kernel_rfl
theorem f123_ : tySc cx.P 95 = true := by kernel_rfl
theorem f124_ : tyField cx.P 40 1 = some (1, 3) := by kernel_rfl
theorem f125_ : tyField cx.P 40 0 = some (0, 3) := by kernel_rfl
theorem c_isNaN (x : Int) : ECalls cx 106 [Iv x] Fv := by
 refine ecalls_of_awp Tryz.func106 (c := _) rfl (Nat.le_of_ble_eq_true rfl) ?_
 show awp cx 6 _ (postF cx Tryz.f106 _) ⟨[(0, Iv x)], []⟩
 refine awp_seq fun K0 hK0 => awp_region rfl (o_as Fv rfl (aops_end (hK0 _ (awp_seq fun K1 hK1 => awp_region rfl (o_mv (Iv x) rfl (o_mv (Iv x) rfl ?_))))))
 refine o_neq (a := x) (c := x) gn rfl rfl ?_
 refine n_as (v' := Fv) (by exact bpn (fun h => h rfl)) ?_
 refine o_as Fv rfl (aops_end (hK1 _ ?_))
 refine awp_ret ?_
 refine post_ret ⟨[Fv], ⟨AV.le_refl _, trivial⟩, rfl, ?_⟩
 rfl

theorem c_cmpInt (x y : Int) : ECalls cx 94 [Iv x, Iv y] (.lit (.int .i64 (cmpZ x y))) := by
 refine ecalls_of_awp Tryz.func94 (c := _) rfl (Nat.le_of_ble_eq_true rfl) ?_
 show awp cx 20 _ (postF cx Tryz.f94 _) ⟨[(0, Iv x), (1, Iv y)], []⟩
 refine awp_seq fun K0 hK0 => awp_region rfl (o_as (Nv 0) rfl (aops_end (hK0 _ (awp_seq fun K1 hK1 => awp_region rfl (o_mv (Iv x) rfl ?_)))))
 refine o_ct (c_isNaN _) gn f120_ rfl ?_
 refine o_as Fv rfl (aops_end (hK1 _ (awp_seq fun K2 hK2 => awp_region rfl (o_mv (Iv y) rfl ?_))))
 refine o_ct (c_isNaN _) gn f120_ rfl ?_
 refine o_as Fv rfl (aops_end (hK2 _ (awp_seq fun K3 hK3 => awp_seq fun K4 hK4 => awp_region rfl (o_mv Fv rfl (aops_end (hK4 _ ?_))))))
 refine awp_condB (b := false) rfl (fun hh => absurd (hh.symm.trans rfl) (by decide)) (fun _ => ?_)
 refine awp_skip (hK3 _ (awp_seq fun K5 hK5 => awp_seq fun K6 hK6 => awp_region rfl (o_mv Fv rfl (aops_end (hK6 _ ?_)))))
 refine awp_condB (b := false) rfl (fun hh => absurd (hh.symm.trans rfl) (by decide)) (fun _ => ?_)
 refine awp_skip (hK5 _ (awp_seq fun K7 hK7 => awp_seq fun K8 hK8 => awp_region rfl (o_mv (Iv x) rfl (o_mv (Iv y) rfl ?_))))
 refine o_lss (a := x) (c := y) gn rfl rfl ?_
 refine aops_end (hK8 _ ?_)
 refine awp_condQ (q := x < y) rfl (fun h1 => ?_) (fun h1 => ?_)
 ·refine awp_seq fun K9 hK9 => awp_region rfl (o_as (Iv (-1)) rfl (aops_end (hK9 _ ?_)))
  refine awp_ret ?_
  refine post_ret ⟨[Iv (-1)], ⟨AV.le_refl _, trivial⟩, rfl, ?_⟩
  exact congrArg (fun z => AV.lit (.int .i64 z)) (by unfold cmpZ; rw [if_pos (by assumption)]; all_goals rfl)
 ·refine awp_skip (hK7 _ (awp_seq fun K10 hK10 => awp_seq fun K11 hK11 => awp_region rfl (o_mv (Iv x) rfl (o_mv (Iv y) rfl ?_))))
  refine o_gtr (a := x) (c := y) gn rfl rfl ?_
  refine aops_end (hK11 _ ?_)
  refine awp_condQ (q := y < x) rfl (fun h2 => ?_) (fun h2 => ?_)
  ·refine awp_seq fun K12 hK12 => awp_region rfl (o_as (Nv 1) rfl (aops_end (hK12 _ ?_)))
   refine awp_ret ?_
   refine post_ret ⟨[Nv 1], ⟨AV.le_refl _, trivial⟩, rfl, ?_⟩
   exact congrArg (fun z => AV.lit (.int .i64 z)) (by unfold cmpZ; rw [if_neg (by assumption), if_pos (by assumption)]; all_goals rfl)
  ·refine awp_skip (hK10 _ (awp_seq fun K13 hK13 => awp_region rfl (o_as (Nv 0) rfl (aops_end (hK13 _ ?_)))))
   refine awp_ret ?_
   refine post_ret ⟨[Nv 0], ⟨AV.le_refl _, trivial⟩, rfl, ?_⟩
   exact congrArg (fun z => AV.lit (.int .i64 z)) (by unfold cmpZ; rw [if_neg (by assumption), if_neg (by assumption)]; all_goals rfl)

theorem c_cmpf (kf : Nat) (key : Fal → Int) (hkc : callable cx.P kf = true) (hkf : ∀ x : Fal, ECalls cx kf [falV x] (.lit (.int .i64 (key x)))) (x y : Fal) : ECalls cx 93 [falV x, falV y, .ip [.clo kf []]] (.lit (.int .i64 (cmpZ (key x) (key y)))) := by
 refine ecalls_of_awp Tryz.func93 (c := _) rfl (Nat.le_of_ble_eq_true rfl) ?_
 show awp cx 13 _ (postF cx Tryz.f93 _) ⟨[(0, falV x), (1, falV y), (2, .ip [.clo kf []])], []⟩
 refine awp_seq fun K0 hK0 => awp_region rfl ?_
 refine o_box 2 [Iv (x.steps), Iv (x.rest), Sv (x.lmul), Sv (x.ladd), Sv (x.ldiv), Sv (x.bound)] gn rfl rfl ?_
 refine o_box 3 [Iv (y.steps), Iv (y.rest), Sv (y.lmul), Sv (y.ladd), Sv (y.ldiv), Sv (y.bound)] gn rfl rfl ?_
 refine o_as (Nv 0) rfl (aops_end (hK0 _ (awp_seq fun K1 hK1 => awp_regionD rfl ?_)))
 refine o_loadIS (.clo kf []) gn f121_ rfl rfl ?_
 refine o_loadA [Iv (x.steps), Iv (x.rest), Sv (x.lmul), Sv (x.ladd), Sv (x.ldiv), Sv (x.bound)] gn f109_ rfl rfl rfl rfl rfl ?_
 refine o_callG [] [.agg [Iv (x.steps), Iv (x.rest), Sv (x.lmul), Sv (x.ladd), Sv (x.ldiv), Sv (x.bound)]] _ (Iv (key x)) [(3, .var 40 [Iv (y.steps), Iv (y.rest), Sv (y.lmul), Sv (y.ladd), Sv (y.ldiv), Sv (y.bound)]), (2, .var 40 [Iv (x.steps), Iv (x.rest), Sv (x.lmul), Sv (x.ladd), Sv (x.ldiv), Sv (x.bound)])] gn hkc rfl trivial rfl rfl (LeL.cons (AV.le_refl _) LeL.nil) (hkf x) rfl ?_
 refine o_loadIS (.clo kf []) gn f121_ rfl rfl ?_
 refine o_loadA [Iv (y.steps), Iv (y.rest), Sv (y.lmul), Sv (y.ladd), Sv (y.ldiv), Sv (y.bound)] gn f109_ rfl rfl rfl rfl rfl ?_
 refine o_callG [] [.agg [Iv (y.steps), Iv (y.rest), Sv (y.lmul), Sv (y.ladd), Sv (y.ldiv), Sv (y.bound)]] _ (Iv (key y)) [(3, .var 40 [Iv (y.steps), Iv (y.rest), Sv (y.lmul), Sv (y.ladd), Sv (y.ldiv), Sv (y.bound)]), (2, .var 40 [Iv (x.steps), Iv (x.rest), Sv (x.lmul), Sv (x.ladd), Sv (x.ldiv), Sv (x.bound)])] gn hkc rfl trivial rfl rfl (LeL.cons (AV.le_refl _) LeL.nil) (hkf y) rfl ?_
 refine o_ct (c_cmpInt (key x) (key y)) gn f122_ rfl ?_
 refine o_as (Iv (cmpZ (key x) (key y))) rfl ?_
 refine aops_end ⟨by kernel_rfl, ?_⟩
 refine hK1 _ ?_
 refine awp_ret ?_
 refine post_ret ⟨[Iv (cmpZ (key x) (key y))], ⟨AV.le_refl _, trivial⟩, rfl, ?_⟩
 rfl

theorem c_cmpi (kf : Nat) (key : Int → Int) (hkc : callable cx.P kf = true) (hkf : ∀ x : Int, ECalls cx kf [.lit (.int .i64 x)] (.lit (.int .i64 (key x)))) (x y : Int) : ECalls cx 96 [Iv x, Iv y, .ip [.clo kf []]] (.lit (.int .i64 (cmpZ (key x) (key y)))) := by
 refine ecalls_of_awp Tryz.func96 (c := _) rfl (Nat.le_of_ble_eq_true rfl) ?_
 show awp cx 13 _ (postF cx Tryz.f96 _) ⟨[(0, Iv x), (1, Iv y), (2, .ip [.clo kf []])], []⟩
 refine awp_seq fun K0 hK0 => awp_region rfl (o_as (Nv 0) rfl (aops_end (hK0 _ (awp_seq fun K1 hK1 => awp_regionD rfl ?_))))
 refine o_loadIS (.clo kf []) gn f123_ rfl rfl ?_
 refine o_mv (Iv x) rfl ?_
 refine o_callG [] [Iv x] _ (Iv (key x)) [] gn hkc rfl trivial rfl rfl (LeL.cons (AV.le_refl _) LeL.nil) (hkf x) rfl ?_
 refine o_loadIS (.clo kf []) gn f123_ rfl rfl ?_
 refine o_mv (Iv y) rfl ?_
 refine o_callG [] [Iv y] _ (Iv (key y)) [] gn hkc rfl trivial rfl rfl (LeL.cons (AV.le_refl _) LeL.nil) (hkf y) rfl ?_
 refine o_ct (c_cmpInt (key x) (key y)) gn f122_ rfl ?_
 refine o_as (Iv (cmpZ (key x) (key y))) rfl ?_
 refine aops_end ⟨by kernel_rfl, ?_⟩
 refine hK1 _ ?_
 refine awp_ret ?_
 refine post_ret ⟨[Iv (cmpZ (key x) (key y))], ⟨AV.le_refl _, trivial⟩, rfl, ?_⟩
 rfl

theorem c_key2 (x : Fal) : ECalls cx 57 [falV x] (.lit (.int .i64 x.rest)) := by
 refine ecalls_of_awp Tryz.func57 (c := _) rfl (Nat.le_of_ble_eq_true rfl) ?_
 show awp cx 5 _ (postF cx Tryz.f57 _) ⟨[(0, falV x)], []⟩
 refine awp_seq fun K0 hK0 => awp_region rfl ?_
 refine o_box 2 [Iv (x.steps), Iv (x.rest), Sv (x.lmul), Sv (x.ladd), Sv (x.ldiv), Sv (x.bound)] gn rfl rfl ?_
 refine o_as (Nv 0) rfl (aops_end (hK0 _ (awp_seq fun K1 hK1 => awp_region rfl ?_)))
 refine o_fieldRef 1 gn f124_ rfl rfl ?_
 refine o_loadS (Iv (x.rest)) gn f11_ rfl rfl rfl ?_
 refine o_as (Iv (x.rest)) rfl (aops_end (hK1 _ ?_))
 refine awp_ret ?_
 refine post_ret ⟨[Iv (x.rest)], ⟨AV.le_refl _, trivial⟩, rfl, ?_⟩
 rfl

theorem c_key3 (x : Fal) : ECalls cx 58 [falV x] (.lit (.int .i64 x.steps)) := by
 refine ecalls_of_awp Tryz.func58 (c := _) rfl (Nat.le_of_ble_eq_true rfl) ?_
 show awp cx 5 _ (postF cx Tryz.f58 _) ⟨[(0, falV x)], []⟩
 refine awp_seq fun K0 hK0 => awp_region rfl ?_
 refine o_box 2 [Iv (x.steps), Iv (x.rest), Sv (x.lmul), Sv (x.ladd), Sv (x.ldiv), Sv (x.bound)] gn rfl rfl ?_
 refine o_as (Nv 0) rfl (aops_end (hK0 _ (awp_seq fun K1 hK1 => awp_region rfl ?_)))
 refine o_fieldRef 0 gn f125_ rfl rfl ?_
 refine o_loadS (Iv (x.steps)) gn f11_ rfl rfl rfl ?_
 refine o_as (Iv (x.steps)) rfl (aops_end (hK1 _ ?_))
 refine awp_ret ?_
 refine post_ret ⟨[Iv (x.steps)], ⟨AV.le_refl _, trivial⟩, rfl, ?_⟩
 rfl

theorem c_key4 (x : Int) : ECalls cx 60 [Iv x] (.lit (.int .i64 x)) := by
 refine ecalls_of_awp Tryz.func60 (c := _) rfl (Nat.le_of_ble_eq_true rfl) ?_
 show awp cx 4 _ (postF cx Tryz.f60 _) ⟨[(0, Iv x)], []⟩
 refine awp_seq fun K0 hK0 => awp_region rfl (o_as (Nv 0) rfl (aops_end (hK0 _ (awp_seq fun K1 hK1 => awp_region rfl (o_mv (Iv x) rfl (o_as (Iv x) rfl (aops_end (hK1 _ ?_))))))))
 refine awp_ret ?_
 refine post_ret ⟨[Iv x], ⟨AV.le_refl _, trivial⟩, rfl, ?_⟩
 rfl

end Go.Proofs.YtjbaamfahkjhgaaGreatDoor

namespace Go.Mth
section
variable {α : Type} [Inhabited α]
def bl (key : α → Int) (s : Nat) (D : List α) : Nat → List α
 | 0 => []
 | c + 1 => bl key s D c ++ srt key ((D.drop (c * s)).take s)
def fu (key : α → Int) (s : Nat) : Nat → List α → List α
 | 0, l => srt key l
 | r + 1, l => srt key (l.take s) ++ fu key s r (l.drop s)
variable {key : α → Int}
theorem bl_len {s : Nat} {D : List α} : ∀ c, c * s ≤ D.length → (bl key s D c).length = c * s
 | 0, _ => by simp [bl]
 | c + 1, h => by
  have e : (c + 1) * s = c * s + s := Nat.succ_mul c s
  rw [bl, List.length_append, bl_len c (by omega), srt_len, List.length_take, List.length_drop]
  omega
theorem fu_len {s : Nat} : ∀ (r : Nat) (l : List α), (fu key s r l).length = l.length
 | 0, l => srt_len
 | r + 1, l => by
  rw [fu, List.length_append, srt_len, fu_len r, List.length_take, List.length_drop]
  omega
theorem bl_fu {s : Nat} {D : List α} : ∀ (c r : Nat), bl key s D c ++ fu key s r (D.drop (c * s)) = fu key s (c + r) D
 | 0, r => by simp [bl]
 | c + 1, r => by
  rw [bl, List.append_assoc, show c + 1 + r = c + (r + 1) by omega, ← bl_fu c (r + 1), fu, List.drop_drop, Nat.succ_mul]
theorem bl_X {s a c : Nat} {D : List α} (ha : a = c * s) (h : a ≤ D.length) : (bl key s D c ++ D.drop a).length = D.length := by
 rw [List.length_append, bl_len c (by omega), List.length_drop]; omega
theorem inx_step {a c : Nat} {D : List α} (ha : a = c * 20) (h : a + 20 ≤ D.length) : blk key (bl key 20 D c ++ D.drop a) a (a + 20) = bl key 20 D (c + 1) ++ D.drop (a + 20) := by
 have hl : (bl key 20 D c).length = a := (bl_len c (by omega)).trans ha.symm
 have hd : (bl key 20 D c ++ D.drop a).drop (a + 20) = D.drop (a + 20) := by
  rw [List.drop_append, List.drop_of_length_le (show (bl key 20 D c).length ≤ a + 20 by omega), List.nil_append, hl, show a + 20 - a = 20 by omega, List.drop_drop]
 unfold blk
 rw [hd, List.take_left' hl, List.drop_left' hl, bl, ← ha, show a + 20 - a = 20 by omega, List.append_assoc]
theorem inx_end {a c : Nat} {D : List α} (ha : a = c * 20) (h : a ≤ D.length) : blk key (bl key 20 D c ++ D.drop a) a D.length = fu key 20 c D := by
 have hl : (bl key 20 D c).length = a := (bl_len c (by omega)).trans ha.symm
 have hX := bl_X (key := key) ha h
 have hd : (bl key 20 D c ++ D.drop a).drop D.length = [] := List.drop_of_length_le (by omega)
 have ht : (D.drop a).take (D.length - a) = D.drop a := List.take_of_length_le (by rw [List.length_drop]; omega)
 have hb := bl_fu (key := key) (s := 20) (D := D) c 0
 rw [Nat.add_zero, ← ha] at hb
 unfold blk
 rw [hd, List.take_left' hl, List.drop_left' hl, ht, List.append_nil]
 exact hb
theorem lt_mul {x y s : Nat} (h : x * s < y * s) : x < y := Nat.lt_of_mul_lt_mul_right h
theorem st_c {s d a c n : Nat} (ha : a = d * (2 * s)) (h : a + 2 * s ≤ n) (hc : n < c * s + s) : 2 * d + 2 ≤ c := by
 have e : (2 * d + 2) * s = a + 2 * s := by rw [ha, Nat.add_mul, Nat.mul_comm 2 d, Nat.mul_assoc]
 have e2 : (c + 1) * s = c * s + s := Nat.succ_mul c s
 have := lt_mul (x := 2 * d + 2) (y := c + 1) (s := s) (by omega)
 omega
theorem st_step {s d a c f : Nat} {D Y : List α} (hs : 0 < s) (ha : a = d * (2 * s)) (hY : Y = bl key (2 * s) D d ++ fu key s (c - 2 * d) (D.drop a)) (h : a + 2 * s ≤ D.length) (hc : D.length < c * s + s) (hf : 2 * s ≤ f) :
  symF key f Y a (a + s) (a + 2 * s) = bl key (2 * s) D (d + 1) ++ fu key s (c - 2 * (d + 1)) (D.drop (a + 2 * s)) := by
 have h2 := st_c ha h hc
 have hl : (bl key (2 * s) D d).length = a := (bl_len d (by omega)).trans ha.symm
 have hL : (D.drop a).length = D.length - a := List.length_drop
 have u1 : (srt key ((D.drop a).take s)).length = s := by rw [srt_len, List.length_take]; omega
 have u2 : (srt key (((D.drop a).drop s).take s)).length = s := by rw [srt_len, List.length_take, List.length_drop]; omega
 rw [hY, show c - 2 * d = (c - 2 * (d + 1)) + 1 + 1 by omega, fu, fu]
 have q := sym_ok (key := key) f (bl key (2 * s) D d) (srt key ((D.drop a).take s)) (srt key (((D.drop a).drop s).take s)) (fu key s (c - 2 * (d + 1)) (((D.drop a).drop s).drop s)) a (a + s) (a + 2 * s) (by omega) srt_srt srt_srt (by omega) (by omega) hl.symm (by omega) (by omega)
 rw [q, ← srt_app, bl, ← ha, List.append_assoc]
 congr 1
 rw [List.drop_drop, List.drop_drop, show 2 * s = s + s by omega, List.take_add, ← Nat.add_assoc, List.drop_drop]
theorem st_end1 {s d a c f : Nat} {D Y : List α} (hs : 0 < s) (ha : a = d * (2 * s)) (hY : Y = bl key (2 * s) D d ++ fu key s (c - 2 * d) (D.drop a)) (h : a + s < D.length) (h' : ¬ a + 2 * s ≤ D.length) (hc : D.length < c * s + s) (hc2 : c * s ≤ D.length) (hf : D.length - a ≤ f) :
  symF key f Y a (a + s) D.length = fu key (2 * s) d D := by
 have e0 : (2 * d + 1) * s = a + s := by rw [ha, Nat.add_mul, Nat.mul_comm 2 d, Nat.mul_assoc]; omega
 have e1 : (2 * d + 2) * s = a + 2 * s := by rw [ha, Nat.add_mul, Nat.mul_comm 2 d, Nat.mul_assoc]
 have e2 : (c + 1) * s = c * s + s := Nat.succ_mul c s
 have c1 := lt_mul (x := 2 * d + 1) (y := c + 1) (s := s) (by omega)
 have c2 := lt_mul (x := c) (y := 2 * d + 2) (s := s) (by omega)
 have hl : (bl key (2 * s) D d).length = a := (bl_len d (by omega)).trans ha.symm
 have hL : (D.drop a).length = D.length - a := List.length_drop
 have u1 : (srt key ((D.drop a).take s)).length = s := by rw [srt_len, List.length_take]; omega
 have u2 : (srt key ((D.drop a).drop s)).length = D.length - a - s := by rw [srt_len, List.length_drop]; omega
 rw [hY, show c - 2 * d = 0 + 1 by omega, fu, fu]
 have q := sym_ok (key := key) f (bl key (2 * s) D d) (srt key ((D.drop a).take s)) (srt key ((D.drop a).drop s)) [] a (a + s) D.length (by omega) srt_srt srt_srt (by omega) (by omega) hl.symm (by omega) (by omega)
 rw [List.append_nil] at q
 rw [q, ← srt_app, List.take_append_drop, List.append_nil, ← Nat.add_zero d, ← bl_fu d 0, fu, Nat.add_zero, ← ha]
theorem st_end0 {s d a c : Nat} {D Y : List α} (hs : 0 < s) (ha : a = d * (2 * s)) (hY : Y = bl key (2 * s) D d ++ fu key s (c - 2 * d) (D.drop a)) (h : ¬ a + s < D.length) (hle : a ≤ D.length) (hc : D.length < c * s + s) (hc2 : c * s ≤ D.length) :
  Y = fu key (2 * s) d D := by
 have e1 : (2 * d + 2) * s = a + 2 * s := by rw [ha, Nat.add_mul, Nat.mul_comm 2 d, Nat.mul_assoc]
 have e0 : (2 * d) * s = a := by rw [ha, Nat.mul_comm 2 d, Nat.mul_assoc]
 have c2 := lt_mul (x := c) (y := 2 * d + 2) (s := s) (by omega)
 have e2 : (c + 1) * s = c * s + s := Nat.succ_mul c s
 have c1 := lt_mul (x := 2 * d) (y := c + 1) (s := s) (by omega)
 have hL : (D.drop a).length = D.length - a := List.length_drop
 rw [hY, ← Nat.add_zero d, ← bl_fu d 0, Nat.add_zero, ← ha]
 congr 1
 rcases (show c - 2 * d = 0 ∨ c - 2 * d = 1 by omega) with e | e
 ·rw [e]; rfl
 ·rw [e]
  show srt key ((D.drop a).take s) ++ srt key ((D.drop a).drop s) = srt key (D.drop a)
  rw [show (D.drop a).drop s = [] from List.drop_of_length_le (by omega), show (D.drop a).take s = D.drop a from List.take_of_length_le (by omega)]
  simp [srt]
theorem st_fin {s c : Nat} {D : List α} (hs : 0 < s) (h : ¬ s < D.length) (hc : D.length < c * s + s) (hc2 : c * s ≤ D.length) : fu key s c D = srt key D := by
 have c2 := lt_mul (x := c) (y := 2) (s := s) (by omega)
 rcases (show c = 0 ∨ c = 1 by omega) with rfl | rfl
 ·rfl
 ·rw [fu, fu, List.drop_of_length_le (by omega), List.take_of_length_le (by omega)]
  simp [srt]
end
end Go.Mth

namespace Go.Proofs.YtjbaamfahkjhgaaGreatDoor
open Go Go.Ab Go.Mth
theorem f126_ : callable cx.P 113 = true := by kernel_rfl
theorem f127_ : cx.P.underlying 26 = some (.slice 40) := by kernel_rfl
theorem f128_ : callable cx.P 105 = true := by kernel_rfl
theorem f129_ : callable cx.P 92 = true := by kernel_rfl
theorem f130_ : callable cx.P 115 = true := by kernel_rfl
theorem f131_ : callable cx.P 107 = true := by kernel_rfl
theorem f132_ : callable cx.P 95 = true := by kernel_rfl
theorem c_staf (kf : Nat) (key : Fal → Int) (hkey : ∀ x y : Fal, ECalls cx 93 [falV x, falV y, .ip [.clo kf []]] (.lit (.int .i64 (cmpZ (key x) (key y))))) (D : List Fal) (L : List Int) (hD : D.length ≤ 1000000) :
  RCalls cx 105 [.row 20, Nv D.length, .clo 93 [.ip [.clo kf []]]] [2, 3, 20] [v2v, r0v D, v3v, r1v L] (.tup []) [v2v, r0v (srt key D), v3v, r1v L] := by
 refine rcalls_of_x (X := [(2, false), (3, false), (20, true)]) (scalls_of_awpB 9009 Tryz.func105 (c := _) rfl (Nat.le_of_ble_eq_true rfl) rfl rfl rfl (fun us => ?_)) rfl
 refine awp_late ?_
 show awp cx 63 _ (lateQ cx 63 (postS cx Tryz.f105 (.tup []) [v2v, r0v (srt key D), v3v, r1v L] 9009 [.ref 2 0, .ref 3 0, .row 20] us)) ⟨[(0, .row 20), (1, Nv D.length), (2, .clo 93 [.ip [.clo kf []]])], [p0v us, v2v, r0v D, v3v, r1v L]⟩
 refine awp_seq fun K0 hK0 => awp_region rfl (o_as (Nv 20) rfl (aops_end (hK0 _ (awp_seq fun K1 hK1 => awp_region rfl (o_mv (Nv 20) rfl (o_as (Nv 0) rfl (o_as (Nv 20) rfl (aops_end (hK1 _ ?_)))))))))
 refine awp_seq fun K2 hK2 => ?_
 refine awp_block ?_
 refine awp_loopR (fun κ σ => ∃ (c0 : Nat), ∃ (a0 : Nat), (a0 = c0 * 20) ∧ (a0 ≤ D.length) ∧ (D.length - a0) = κ ∧ σ = ⟨[(0, .row 20), (1, Nv D.length), (2, .clo 93 [.ip [.clo kf []]]), (6, Nv 20), (7, Nv a0), (8, Nv (a0 + 20))], [p0v us, v2v, r0v (bl key 20 D c0 ++ D.drop a0), v3v, r1v L]⟩) ⟨_, _, ⟨0, 0, rfl, Nat.zero_le _, rfl, rfl⟩, ?wk0⟩ ?rd0
 case wk0 =>
  exact Wk.sub ⟨rfl, rfl, rfl, rfl, (by rfl), (by rfl), trivial⟩ ⟨rfl, rfl, (by rfl), rfl, rfl, trivial⟩
 rintro κ _ ⟨c0, a0, ha, hle, rfl, rfl⟩
 have hXl := bl_X (key := key) ha hle
 refine awp_seq fun K3 hK3 => awp_seq fun K4 hK4 => awp_region rfl (o_mv (Nv (a0 + 20)) rfl (o_mv (Nv D.length) rfl ?_))
 refine n_leq (a0 + 20) D.length gn rfl rfl ?_
 refine aops_end (hK4 _ ?_)
 refine awp_condQ (q := (a0 + 20) ≤ D.length) rfl (fun h1 => ?_) (fun h1 => ?_)
 ·refine awp_skip (hK3 _ ?_)
  refine awp_block ?_
  refine awp_seq fun K5 hK5 => ?_
  refine awp_regionSW 4 18 _ 113 [] _ _ _ _ _ [.row 20, Nv a0, Nv (a0 + 20), .clo 93 [.ip [.clo kf []]]] (.tup []) [v2v, r0v (blk key (bl key 20 D c0 ++ D.drop a0) a0 (a0 + 20)), v3v, r1v L, p0v us] rfl rfl rfl f126_ ?_
  refine o_mv (.row 20) rfl (o_mv (Nv a0) rfl (o_mv (Nv (a0 + 20)) rfl (o_mv (.clo 93 [.ip [.clo kf []]]) rfl ?_)))
  refine aops_end ⟨_, Wk.sub (σ' := ⟨[(0, .row 20), (1, Nv D.length), (2, .clo 93 [.ip [.clo kf []]]), (6, Nv 20), (7, Nv a0), (8, Nv (a0 + 20)), (11, Nv (a0 + 20)), (12, Nv D.length), (13, bp ((a0 + 20) ≤ D.length)), (14, .row 20), (15, Nv a0), (16, Nv (a0 + 20)), (17, .clo 93 [.ip [.clo kf []]])], [v2v, r0v (bl key 20 D c0 ++ D.drop a0), v3v, r1v L, p0v us]⟩) ⟨rfl, rfl, rfl, rfl, rfl, rfl, rfl, rfl, rfl, rfl, rfl, rfl, rfl, trivial⟩ ⟨rfl, rfl, rfl, rfl, rfl, trivial⟩, rfl, rfl, scalls_of_r (K := [2, 3, 20]) (m := [v2v, r0v (bl key 20 D c0 ++ D.drop a0), v3v, r1v L]) (m' := [v2v, r0v (blk key (bl key 20 D c0 ++ D.drop a0) a0 (a0 + 20)), v3v, r1v L]) (e := [p0v us]) (c_insf kf key hkey (bl key 20 D c0 ++ D.drop a0) L a0 (a0 + 20) (by omega) (by omega) (by omega)) rfl rfl, ?_⟩
  refine hK5 _ (awp_seq fun K6 hK6 => awp_region rfl (o_mv (Nv (a0 + 20)) rfl (o_as (Nv (a0 + 20)) rfl (aops_end (hK6 _ (awp_region rfl (o_mv (Nv (a0 + 20)) rfl (o_mv (Nv 20) rfl ?_))))))))
  refine n_add (a0 + 20) 20 gn rfl rfl (by simp only [topOf]; omega) ?_
  refine o_as (Nv ((a0 + 20) + 20)) rfl (aops_end ?_)
  refine ⟨_, _, ?lt, ⟨c0 + 1, a0 + 20, (by omega), (by omega), rfl, rfl⟩, ?wk⟩
  case lt => omega
  case wk => exact Wk.sub ⟨rfl, rfl, rfl, rfl, (by rfl), (by rfl), trivial⟩ ⟨rfl, rfl, (by (exact row_gs' (inx_step ha (by omega)))), rfl, rfl, trivial⟩
 ·refine awp_exit ?_
  refine hK2 _ (awp_seq fun K7 hK7 => ?_)
  refine awp_regionSW 4 27 _ 113 [] _ _ _ _ _ [.row 20, Nv a0, Nv D.length, .clo 93 [.ip [.clo kf []]]] (.tup []) [v2v, r0v (blk key (bl key 20 D c0 ++ D.drop a0) a0 D.length), v3v, r1v L, p0v us] rfl rfl rfl f126_ ?_
  refine o_mv (.row 20) rfl (o_mv (Nv a0) rfl (o_mv (Nv D.length) rfl (o_mv (.clo 93 [.ip [.clo kf []]]) rfl ?_)))
  refine aops_end ⟨_, Wk.sub (σ' := ⟨[(0, .row 20), (1, Nv D.length), (2, .clo 93 [.ip [.clo kf []]]), (6, Nv 20), (7, Nv a0), (8, Nv (a0 + 20)), (11, Nv (a0 + 20)), (12, Nv D.length), (13, bp ((a0 + 20) ≤ D.length)), (23, .row 20), (24, Nv a0), (25, Nv D.length), (26, .clo 93 [.ip [.clo kf []]])], [v2v, r0v (bl key 20 D c0 ++ D.drop a0), v3v, r1v L, p0v us]⟩) ⟨rfl, rfl, rfl, rfl, rfl, rfl, rfl, rfl, rfl, rfl, rfl, rfl, rfl, trivial⟩ ⟨rfl, rfl, rfl, rfl, rfl, trivial⟩, rfl, rfl, scalls_of_r (K := [2, 3, 20]) (m := [v2v, r0v (bl key 20 D c0 ++ D.drop a0), v3v, r1v L]) (m' := [v2v, r0v (blk key (bl key 20 D c0 ++ D.drop a0) a0 D.length), v3v, r1v L]) (e := [p0v us]) (c_insf kf key hkey (bl key 20 D c0 ++ D.drop a0) L a0 D.length (by omega) (by omega) (by omega)) rfl rfl, ?_⟩
  refine hK7 _ ?_
  refine awp_block ?_
  refine awp_loopR (fun κ σ => ∃ (s : Nat), ∃ (c : Nat), ∃ (X : List Fal), (X = fu key s c D) ∧ (D.length < c * s + s) ∧ (c * s ≤ D.length) ∧ (20 ≤ s ∧ s ≤ 2000000) ∧ (D.length - s) = κ ∧ σ = ⟨[(0, .row 20), (1, Nv D.length), (2, .clo 93 [.ip [.clo kf []]]), (6, Nv s)], [p0v us, v2v, r0v X, v3v, r1v L]⟩) ⟨_, _, ⟨20, c0, blk key (bl key 20 D c0 ++ D.drop a0) a0 D.length, inx_end ha hle, (by omega), (by omega), (by omega), rfl, rfl⟩, ?wk1⟩ ?rd1
  case wk1 =>
   exact Wk.sub ⟨rfl, rfl, rfl, (by rfl), trivial⟩ ⟨rfl, rfl, (by rfl), rfl, rfl, trivial⟩
  rintro κ _ ⟨s, c, X, hX, hc, hc2, hs, rfl, rfl⟩
  refine awp_seq fun K8 hK8 => awp_seq fun K9 hK9 => awp_region rfl (o_mv (Nv s) rfl (o_mv (Nv D.length) rfl ?_))
  refine n_lss s D.length gn rfl rfl ?_
  refine aops_end (hK9 _ ?_)
  refine awp_condQ (q := s < D.length) rfl (fun h2 => ?_) (fun h2 => ?_)
  ·refine awp_skip (hK8 _ ?_)
   refine awp_block ?_
   refine awp_seq fun K10 hK10 => awp_region rfl (o_mv (Nv s) rfl ?_)
   refine n_mul 2 s gn rfl rfl (by simp only [topOf]; omega) ?_
   refine o_as (Nv 0) rfl (o_as (Nv (2 * s)) rfl (aops_end (hK10 _ (awp_seq fun K11 hK11 => ?_))))
   refine awp_block ?_
   refine awp_loopR (fun κ σ => ∃ (d : Nat), ∃ (a : Nat), ∃ (Y : List Fal), (a = d * (2 * s)) ∧ (a ≤ D.length) ∧ (Y = bl key (2 * s) D d ++ fu key s (c - 2 * d) (D.drop a)) ∧ (Y.length = D.length) ∧ (D.length - a) = κ ∧ σ = ⟨[(0, .row 20), (1, Nv D.length), (2, .clo 93 [.ip [.clo kf []]]), (6, Nv s), (7, Nv a), (8, Nv (a + 2 * s))], [p0v us, v2v, r0v Y, v3v, r1v L]⟩) ⟨_, _, ⟨0, 0, X, (Nat.zero_mul _).symm, Nat.zero_le _, hX, (by rw [hX]; exact fu_len _ _), rfl, rfl⟩, ?wk2⟩ ?rd2
   case wk2 =>
    exact Wk.sub ⟨rfl, rfl, rfl, rfl, (by rfl), (by exact congrArg (nm _) (by omega)), trivial⟩ ⟨rfl, rfl, (by rfl), rfl, rfl, trivial⟩
   rintro κ _ ⟨d, a, Y, ha, hle, hY, hl, rfl, rfl⟩
   refine awp_seq fun K12 hK12 => awp_seq fun K13 hK13 => awp_region rfl (o_mv (Nv (a + 2 * s)) rfl (o_mv (Nv D.length) rfl ?_))
   refine n_leq (a + 2 * s) D.length gn rfl rfl ?_
   refine aops_end (hK13 _ ?_)
   refine awp_condQ (q := (a + 2 * s) ≤ D.length) rfl (fun h3 => ?_) (fun h3 => ?_)
   ·refine awp_skip (hK12 _ ?_)
    refine awp_block ?_
    refine awp_seq fun K14 hK14 => ?_
    refine awp_regionSW 7 43 _ 114 [] _ _ _ _ _ [.row 20, Nv a, Nv (a + s), Nv (a + 2 * s), .clo 93 [.ip [.clo kf []]]] (.tup []) [v2v, r0v (symF key (2 * s) Y a (a + s) (a + 2 * s)), v3v, r1v L, p0v us] rfl rfl rfl f116_ ?_
    refine o_mv (.row 20) rfl (o_mv (Nv a) rfl (o_mv (Nv a) rfl (o_mv (Nv s) rfl ?_)))
    refine n_add a s gn rfl rfl (by simp only [topOf]; omega) ?_
    refine o_mv (Nv (a + 2 * s)) rfl (o_mv (.clo 93 [.ip [.clo kf []]]) rfl ?_)
    refine aops_end ⟨_, Wk.sub (σ' := ⟨[(0, .row 20), (1, Nv D.length), (2, .clo 93 [.ip [.clo kf []]]), (6, Nv s), (7, Nv a), (8, Nv (a + 2 * s)), (33, Nv (a + 2 * s)), (34, Nv D.length), (35, bp ((a + 2 * s) ≤ D.length)), (36, .row 20), (37, Nv a), (40, Nv (a + s)), (41, Nv (a + 2 * s)), (42, .clo 93 [.ip [.clo kf []]])], [v2v, r0v Y, v3v, r1v L, p0v us]⟩) ⟨rfl, rfl, rfl, rfl, rfl, rfl, rfl, rfl, rfl, rfl, rfl, rfl, rfl, rfl, trivial⟩ ⟨rfl, rfl, rfl, rfl, rfl, trivial⟩, rfl, rfl, scalls_of_r (K := [2, 3, 20]) (m := [v2v, r0v Y, v3v, r1v L]) (m' := [v2v, r0v (symF key (2 * s) Y a (a + s) (a + 2 * s)), v3v, r1v L]) (e := [p0v us]) (c_symf kf key hkey L (2 * s) Y a (a + s) (a + 2 * s) (by omega) (by omega) (by omega) (by omega) (by omega)) rfl rfl, ?_⟩
    refine hK14 _ (awp_seq fun K15 hK15 => awp_region rfl (o_mv (Nv (a + 2 * s)) rfl (o_as (Nv (a + 2 * s)) rfl (aops_end (hK15 _ (awp_region rfl (o_mv (Nv (a + 2 * s)) rfl (o_mv (Nv s) rfl ?_))))))))
    refine n_mul 2 s gn rfl rfl (by simp only [topOf]; omega) ?_
    refine n_add (a + 2 * s) (2 * s) gn rfl rfl (by simp only [topOf]; omega) ?_
    refine o_as (Nv ((a + 2 * s) + (2 * s))) rfl (aops_end ?_)
    refine ⟨_, _, ?lt, ⟨d + 1, a + 2 * s, symF key (2 * s) Y a (a + s) (a + 2 * s), (by have := Nat.add_mul d 1 (2 * s); omega), (by omega), (st_step (by omega) ha hY (by omega) hc (Nat.le_refl _)), (sym_len key _ _ _ _ _).trans hl, rfl, rfl⟩, ?wk⟩
    case lt => omega
    case wk => exact Wk.sub ⟨rfl, rfl, rfl, rfl, (by rfl), (by rfl), trivial⟩ ⟨rfl, rfl, (by rfl), rfl, rfl, trivial⟩
   ·refine awp_exit ?_
    refine hK11 _ (awp_seq fun K16 hK16 => awp_seq fun K17 hK17 => awp_region rfl (o_mv (Nv a) rfl (o_mv (Nv s) rfl ?_)))
    refine n_add a s gn rfl rfl (by simp only [topOf]; omega) ?_
    refine o_as (Nv (a + s)) rfl (aops_end (hK17 _ (awp_seq fun K18 hK18 => awp_region rfl (o_mv (Nv (a + s)) rfl (o_mv (Nv D.length) rfl ?_)))))
    refine n_lss (a + s) D.length gn rfl rfl ?_
    refine aops_end (hK18 _ ?_)
    refine awp_condQ (q := (a + s) < D.length) rfl (fun h4 => ?_) (fun h4 => ?_)
    ·refine awp_regionSW 5 60 _ 114 [] _ _ _ _ _ [.row 20, Nv a, Nv (a + s), Nv D.length, .clo 93 [.ip [.clo kf []]]] (.tup []) [v2v, r0v (symF key (D.length - a) Y a (a + s) D.length), v3v, r1v L, p0v us] rfl rfl rfl f116_ ?_
     refine o_mv (.row 20) rfl (o_mv (Nv a) rfl (o_mv (Nv (a + s)) rfl (o_mv (Nv D.length) rfl (o_mv (.clo 93 [.ip [.clo kf []]]) rfl ?_))))
     refine aops_end ⟨_, Wk.sub (σ' := ⟨[(0, .row 20), (1, Nv D.length), (2, .clo 93 [.ip [.clo kf []]]), (6, Nv s), (7, Nv a), (8, Nv (a + 2 * s)), (33, Nv (a + 2 * s)), (34, Nv D.length), (35, bp ((a + 2 * s) ≤ D.length)), (49, Nv a), (50, Nv s), (51, Nv (a + s)), (9, Nv (a + s)), (52, Nv (a + s)), (53, Nv D.length), (54, bp ((a + s) < D.length)), (55, .row 20), (56, Nv a), (57, Nv (a + s)), (58, Nv D.length), (59, .clo 93 [.ip [.clo kf []]])], [v2v, r0v Y, v3v, r1v L, p0v us]⟩) ⟨rfl, rfl, rfl, rfl, rfl, rfl, rfl, rfl, rfl, rfl, rfl, rfl, rfl, rfl, rfl, rfl, rfl, rfl, rfl, rfl, rfl, trivial⟩ ⟨rfl, rfl, rfl, rfl, rfl, trivial⟩, rfl, rfl, scalls_of_r (K := [2, 3, 20]) (m := [v2v, r0v Y, v3v, r1v L]) (m' := [v2v, r0v (symF key (D.length - a) Y a (a + s) D.length), v3v, r1v L]) (e := [p0v us]) (c_symf kf key hkey L (D.length - a) Y a (a + s) D.length (by omega) (by omega) (by omega) (by omega) (by omega)) rfl rfl, ?_⟩
     refine hK16 _ (awp_region rfl (o_mv (Nv s) rfl ?_))
     refine n_mul s 2 gn rfl rfl (by simp only [topOf]; omega) ?_
     refine o_as (Nv (s * 2)) rfl (aops_end ?_)
     refine ⟨_, _, ?lt, ⟨2 * s, d, symF key (D.length - a) Y a (a + s) D.length, (st_end1 (by omega) ha hY (by omega) (by omega) hc hc2 (Nat.le_refl _)), (by omega), (by omega), (by omega), rfl, rfl⟩, ?wk⟩
     case lt => omega
     case wk => exact Wk.sub ⟨rfl, rfl, rfl, (by exact congrArg (nm _) (by omega)), trivial⟩ ⟨rfl, rfl, (by rfl), rfl, rfl, trivial⟩
    ·refine awp_skip (hK16 _ (awp_region rfl (o_mv (Nv s) rfl ?_)))
     refine n_mul s 2 gn rfl rfl (by simp only [topOf]; omega) ?_
     refine o_as (Nv (s * 2)) rfl (aops_end ?_)
     refine ⟨_, _, ?lt, ⟨2 * s, d, Y, (st_end0 (by omega) ha hY (by omega) hle hc hc2), (by omega), (by omega), (by omega), rfl, rfl⟩, ?wk⟩
     case lt => omega
     case wk => exact Wk.sub ⟨rfl, rfl, rfl, (by exact congrArg (nm _) (by omega)), trivial⟩ ⟨rfl, rfl, (by rfl), rfl, rfl, trivial⟩
  ·refine awp_exit ?_
   exact ⟨⟨[], [p0v us, v2v, r0v (srt key D), v3v, r1v L]⟩, Wk.sub trivial ⟨rfl, rfl, (by (exact row_gs' (hX.trans (st_fin (by omega) (by omega) hc hc2)))), rfl, rfl, trivial⟩, ⟨[], trivial, rfl, fun id ob h => keep_pin h rfl, rfl⟩⟩

theorem c_ssof (kf : Nat) (key : Fal → Int) (hkey : ∀ x y : Fal, ECalls cx 93 [falV x, falV y, .ip [.clo kf []]] (.lit (.int .i64 (cmpZ (key x) (key y))))) (D : List Fal) (L : List Int) (hD : D.length ≤ 1000000) :
  RCalls cx 92 [.row 20, .clo 93 [.ip [.clo kf []]]] [2, 3, 20] [v2v, r0v D, v3v, r1v L] (.tup []) [v2v, r0v (srt key D), v3v, r1v L] := by
 refine rcalls_of_x (X := [(2, false), (3, false), (20, true)]) (scalls_of_awpB 9009 Tryz.func92 (c := _) rfl (Nat.le_of_ble_eq_true rfl) rfl rfl rfl (fun us => ?_)) rfl
 refine awp_late ?_
 show awp cx 9 _ (lateQ cx 9 (postS cx Tryz.f92 (.tup []) [v2v, r0v (srt key D), v3v, r1v L] 9009 [.ref 2 0, .ref 3 0, .row 20] us)) ⟨[(0, .row 20), (1, .clo 93 [.ip [.clo kf []]])], [p0v us, v2v, r0v D, v3v, r1v L]⟩
 refine awp_regionSW 4 8 _ 105 [] _ _ _ _ _ [.row 20, Nv (D.length), .clo 93 [.ip [.clo kf []]]] (.tup []) [v2v, r0v (srt key D), v3v, r1v L, p0v us] rfl rfl rfl f128_ ?_
 refine o_mv (.row 20) rfl (o_mv (.row 20) rfl ?_)
 refine g_lenRow cL D cL_len gn f127_ rfl rfl ?_
 refine o_mv (.clo 93 [.ip [.clo kf []]]) rfl ?_
 refine aops_end ⟨_, Wk.sub (σ' := ⟨[(0, .row 20), (1, .clo 93 [.ip [.clo kf []]]), (4, .row 20), (6, Nv (D.length)), (7, .clo 93 [.ip [.clo kf []]])], [v2v, r0v D, v3v, r1v L, p0v us]⟩) ⟨rfl, rfl, rfl, rfl, rfl, trivial⟩ ⟨rfl, rfl, rfl, rfl, rfl, trivial⟩, rfl, rfl, scalls_of_r (K := [2, 3, 20]) (m := [v2v, r0v D, v3v, r1v L]) (m' := [v2v, r0v (srt key D), v3v, r1v L]) (e := [p0v us]) (c_staf kf key hkey D L hD) rfl rfl, ?_⟩
 exact ⟨⟨[], [p0v us, v2v, r0v (srt key D), v3v, r1v L]⟩, Wk.sub trivial ⟨rfl, rfl, rfl, rfl, rfl, trivial⟩, ⟨[], trivial, rfl, fun id ob h => keep_pin h rfl, rfl⟩⟩

theorem c_orlf (kf : Nat) (key : Fal → Int) (hkc : callable cx.P kf = true) (hkf : ∀ x : Fal, ECalls cx kf [falV x] (.lit (.int .i64 (key x)))) (D : List Fal) (L : List Int) (hD : D.length ≤ 1000000) :
  RCalls cx 56 [.row 20, .clo kf []] [2, 3, 20] [v2v, r0v D, v3v, r1v L] (.tup []) [v2v, r0v (srt key D), v3v, r1v L] := by
 refine rcalls_of_x (X := [(2, false), (3, false), (20, true)]) (scalls_of_awpB 9009 Tryz.func56 (c := _) rfl (Nat.le_of_ble_eq_true rfl) rfl rfl rfl (fun us => ?_)) rfl
 refine awp_late ?_
 show awp cx 7 _ (lateQ cx 7 (postS cx Tryz.f56 (.tup []) [v2v, r0v (srt key D), v3v, r1v L] 9009 [.ref 2 0, .ref 3 0, .row 20] us)) ⟨[(0, .row 20), (1, .clo kf [])], [p0v us, v2v, r0v D, v3v, r1v L]⟩
 refine awp_seq fun K0 hK0 => awp_region rfl ?_
 refine o_box 1001 [.clo kf []] gn rfl rfl ?_
 refine aops_end (hK0 _ ?_)
 refine awp_wk (σ' := ⟨[(0, .row 20), (1, .clo kf []), (3, .ref 1001 0)], [p0v us, v2v, r0v D, v3v, r1v L, (1001, .var 93 [.clo kf []])]⟩) (Wk.sub ⟨rfl, rfl, rfl, trivial⟩ ⟨rfl, rfl, rfl, rfl, rfl, rfl, trivial⟩) ?_
 refine awp_wk (σ' := ⟨[(0, .row 20), (1, .clo kf []), (3, .ip [.clo kf []])], [p0v us, v2v, r0v D, v3v, r1v L]⟩) (Wk.see (id := 1001) (t := 93) (cs := [.clo kf []]) rfl rfl) ?_
 refine awp_regionSW 2 6 _ 92 [] _ _ _ _ _ [.row 20, .clo 93 [.ip [.clo kf []]]] (.tup []) [v2v, r0v (srt key D), v3v, r1v L, p0v us] rfl rfl rfl f129_ ?_
 refine o_mv (.row 20) rfl ?_
 refine o_makeFunc [.ip [.clo kf []]] gn rfl ?_
 refine aops_end ⟨_, Wk.sub (σ' := ⟨[(0, .row 20), (1, .clo kf []), (3, .ip [.clo kf []]), (4, .row 20), (5, .clo 93 [.ip [.clo kf []]])], [v2v, r0v D, v3v, r1v L, p0v us]⟩) ⟨rfl, rfl, rfl, rfl, rfl, trivial⟩ ⟨rfl, rfl, rfl, rfl, rfl, trivial⟩, rfl, rfl, scalls_of_r (K := [2, 3, 20]) (m := [v2v, r0v D, v3v, r1v L]) (m' := [v2v, r0v (srt key D), v3v, r1v L]) (e := [p0v us]) (c_ssof kf key (c_cmpf kf key hkc hkf) D L hD) rfl rfl, ?_⟩
 exact ⟨⟨[], [p0v us, v2v, r0v (srt key D), v3v, r1v L]⟩, Wk.sub trivial ⟨rfl, rfl, rfl, rfl, rfl, trivial⟩, ⟨[], trivial, rfl, fun id ob h => keep_pin h rfl, rfl⟩⟩

theorem c_stai (kf : Nat) (key : Int → Int) (hkey : ∀ x y : Int, ECalls cx 96 [.lit (.int .i64 x), .lit (.int .i64 y), .ip [.clo kf []]] (.lit (.int .i64 (cmpZ (key x) (key y))))) (D : List Int) (F : List Fal) (hD : D.length ≤ 1000000) :
  RCalls cx 107 [.row 21, Nv D.length, .clo 96 [.ip [.clo kf []]]] [2, 3, 21] [v2v, r0v F, v3v, r1v D] (.tup []) [v2v, r0v F, v3v, r1v (srt key D)] := by
 refine rcalls_of_x (X := [(2, false), (3, false), (21, true)]) (scalls_of_awpB 9009 Tryz.func107 (c := _) rfl (Nat.le_of_ble_eq_true rfl) rfl rfl rfl (fun us => ?_)) rfl
 refine awp_late ?_
 show awp cx 63 _ (lateQ cx 63 (postS cx Tryz.f107 (.tup []) [v2v, r0v F, v3v, r1v (srt key D)] 9009 [.ref 2 0, .ref 3 0, .row 21] us)) ⟨[(0, .row 21), (1, Nv D.length), (2, .clo 96 [.ip [.clo kf []]])], [p1v us, v2v, r0v F, v3v, r1v D]⟩
 refine awp_seq fun K0 hK0 => awp_region rfl (o_as (Nv 20) rfl (aops_end (hK0 _ (awp_seq fun K1 hK1 => awp_region rfl (o_mv (Nv 20) rfl (o_as (Nv 0) rfl (o_as (Nv 20) rfl (aops_end (hK1 _ ?_)))))))))
 refine awp_seq fun K2 hK2 => ?_
 refine awp_block ?_
 refine awp_loopR (fun κ σ => ∃ (c0 : Nat), ∃ (a0 : Nat), (a0 = c0 * 20) ∧ (a0 ≤ D.length) ∧ (D.length - a0) = κ ∧ σ = ⟨[(0, .row 21), (1, Nv D.length), (2, .clo 96 [.ip [.clo kf []]]), (6, Nv 20), (7, Nv a0), (8, Nv (a0 + 20))], [p1v us, v2v, r0v F, v3v, r1v (bl key 20 D c0 ++ D.drop a0)]⟩) ⟨_, _, ⟨0, 0, rfl, Nat.zero_le _, rfl, rfl⟩, ?wk0⟩ ?rd0
 case wk0 =>
  exact Wk.sub ⟨rfl, rfl, rfl, rfl, (by rfl), (by rfl), trivial⟩ ⟨rfl, rfl, rfl, rfl, (by rfl), trivial⟩
 rintro κ _ ⟨c0, a0, ha, hle, rfl, rfl⟩
 have hXl := bl_X (key := key) ha hle
 refine awp_seq fun K3 hK3 => awp_seq fun K4 hK4 => awp_region rfl (o_mv (Nv (a0 + 20)) rfl (o_mv (Nv D.length) rfl ?_))
 refine n_leq (a0 + 20) D.length gn rfl rfl ?_
 refine aops_end (hK4 _ ?_)
 refine awp_condQ (q := (a0 + 20) ≤ D.length) rfl (fun h1 => ?_) (fun h1 => ?_)
 ·refine awp_skip (hK3 _ ?_)
  refine awp_block ?_
  refine awp_seq fun K5 hK5 => ?_
  refine awp_regionSW 4 18 _ 115 [] _ _ _ _ _ [.row 21, Nv a0, Nv (a0 + 20), .clo 96 [.ip [.clo kf []]]] (.tup []) [v2v, r0v F, v3v, r1v (blk key (bl key 20 D c0 ++ D.drop a0) a0 (a0 + 20)), p1v us] rfl rfl rfl f130_ ?_
  refine o_mv (.row 21) rfl (o_mv (Nv a0) rfl (o_mv (Nv (a0 + 20)) rfl (o_mv (.clo 96 [.ip [.clo kf []]]) rfl ?_)))
  refine aops_end ⟨_, Wk.sub (σ' := ⟨[(0, .row 21), (1, Nv D.length), (2, .clo 96 [.ip [.clo kf []]]), (6, Nv 20), (7, Nv a0), (8, Nv (a0 + 20)), (11, Nv (a0 + 20)), (12, Nv D.length), (13, bp ((a0 + 20) ≤ D.length)), (14, .row 21), (15, Nv a0), (16, Nv (a0 + 20)), (17, .clo 96 [.ip [.clo kf []]])], [v2v, r0v F, v3v, r1v (bl key 20 D c0 ++ D.drop a0), p1v us]⟩) ⟨rfl, rfl, rfl, rfl, rfl, rfl, rfl, rfl, rfl, rfl, rfl, rfl, rfl, trivial⟩ ⟨rfl, rfl, rfl, rfl, rfl, trivial⟩, rfl, rfl, scalls_of_r (K := [2, 3, 21]) (m := [v2v, r0v F, v3v, r1v (bl key 20 D c0 ++ D.drop a0)]) (m' := [v2v, r0v F, v3v, r1v (blk key (bl key 20 D c0 ++ D.drop a0) a0 (a0 + 20))]) (e := [p1v us]) (c_insi kf key hkey (bl key 20 D c0 ++ D.drop a0) F a0 (a0 + 20) (by omega) (by omega) (by omega)) rfl rfl, ?_⟩
  refine hK5 _ (awp_seq fun K6 hK6 => awp_region rfl (o_mv (Nv (a0 + 20)) rfl (o_as (Nv (a0 + 20)) rfl (aops_end (hK6 _ (awp_region rfl (o_mv (Nv (a0 + 20)) rfl (o_mv (Nv 20) rfl ?_))))))))
  refine n_add (a0 + 20) 20 gn rfl rfl (by simp only [topOf]; omega) ?_
  refine o_as (Nv ((a0 + 20) + 20)) rfl (aops_end ?_)
  refine ⟨_, _, ?lt, ⟨c0 + 1, a0 + 20, (by omega), (by omega), rfl, rfl⟩, ?wk⟩
  case lt => omega
  case wk => exact Wk.sub ⟨rfl, rfl, rfl, rfl, (by rfl), (by rfl), trivial⟩ ⟨rfl, rfl, rfl, rfl, (by (exact row_is (inx_step ha (by omega)))), trivial⟩
 ·refine awp_exit ?_
  refine hK2 _ (awp_seq fun K7 hK7 => ?_)
  refine awp_regionSW 4 27 _ 115 [] _ _ _ _ _ [.row 21, Nv a0, Nv D.length, .clo 96 [.ip [.clo kf []]]] (.tup []) [v2v, r0v F, v3v, r1v (blk key (bl key 20 D c0 ++ D.drop a0) a0 D.length), p1v us] rfl rfl rfl f130_ ?_
  refine o_mv (.row 21) rfl (o_mv (Nv a0) rfl (o_mv (Nv D.length) rfl (o_mv (.clo 96 [.ip [.clo kf []]]) rfl ?_)))
  refine aops_end ⟨_, Wk.sub (σ' := ⟨[(0, .row 21), (1, Nv D.length), (2, .clo 96 [.ip [.clo kf []]]), (6, Nv 20), (7, Nv a0), (8, Nv (a0 + 20)), (11, Nv (a0 + 20)), (12, Nv D.length), (13, bp ((a0 + 20) ≤ D.length)), (23, .row 21), (24, Nv a0), (25, Nv D.length), (26, .clo 96 [.ip [.clo kf []]])], [v2v, r0v F, v3v, r1v (bl key 20 D c0 ++ D.drop a0), p1v us]⟩) ⟨rfl, rfl, rfl, rfl, rfl, rfl, rfl, rfl, rfl, rfl, rfl, rfl, rfl, trivial⟩ ⟨rfl, rfl, rfl, rfl, rfl, trivial⟩, rfl, rfl, scalls_of_r (K := [2, 3, 21]) (m := [v2v, r0v F, v3v, r1v (bl key 20 D c0 ++ D.drop a0)]) (m' := [v2v, r0v F, v3v, r1v (blk key (bl key 20 D c0 ++ D.drop a0) a0 D.length)]) (e := [p1v us]) (c_insi kf key hkey (bl key 20 D c0 ++ D.drop a0) F a0 D.length (by omega) (by omega) (by omega)) rfl rfl, ?_⟩
  refine hK7 _ ?_
  refine awp_block ?_
  refine awp_loopR (fun κ σ => ∃ (s : Nat), ∃ (c : Nat), ∃ (X : List Int), (X = fu key s c D) ∧ (D.length < c * s + s) ∧ (c * s ≤ D.length) ∧ (20 ≤ s ∧ s ≤ 2000000) ∧ (D.length - s) = κ ∧ σ = ⟨[(0, .row 21), (1, Nv D.length), (2, .clo 96 [.ip [.clo kf []]]), (6, Nv s)], [p1v us, v2v, r0v F, v3v, r1v X]⟩) ⟨_, _, ⟨20, c0, blk key (bl key 20 D c0 ++ D.drop a0) a0 D.length, inx_end ha hle, (by omega), (by omega), (by omega), rfl, rfl⟩, ?wk1⟩ ?rd1
  case wk1 =>
   exact Wk.sub ⟨rfl, rfl, rfl, (by rfl), trivial⟩ ⟨rfl, rfl, rfl, rfl, (by rfl), trivial⟩
  rintro κ _ ⟨s, c, X, hX, hc, hc2, hs, rfl, rfl⟩
  refine awp_seq fun K8 hK8 => awp_seq fun K9 hK9 => awp_region rfl (o_mv (Nv s) rfl (o_mv (Nv D.length) rfl ?_))
  refine n_lss s D.length gn rfl rfl ?_
  refine aops_end (hK9 _ ?_)
  refine awp_condQ (q := s < D.length) rfl (fun h2 => ?_) (fun h2 => ?_)
  ·refine awp_skip (hK8 _ ?_)
   refine awp_block ?_
   refine awp_seq fun K10 hK10 => awp_region rfl (o_mv (Nv s) rfl ?_)
   refine n_mul 2 s gn rfl rfl (by simp only [topOf]; omega) ?_
   refine o_as (Nv 0) rfl (o_as (Nv (2 * s)) rfl (aops_end (hK10 _ (awp_seq fun K11 hK11 => ?_))))
   refine awp_block ?_
   refine awp_loopR (fun κ σ => ∃ (d : Nat), ∃ (a : Nat), ∃ (Y : List Int), (a = d * (2 * s)) ∧ (a ≤ D.length) ∧ (Y = bl key (2 * s) D d ++ fu key s (c - 2 * d) (D.drop a)) ∧ (Y.length = D.length) ∧ (D.length - a) = κ ∧ σ = ⟨[(0, .row 21), (1, Nv D.length), (2, .clo 96 [.ip [.clo kf []]]), (6, Nv s), (7, Nv a), (8, Nv (a + 2 * s))], [p1v us, v2v, r0v F, v3v, r1v Y]⟩) ⟨_, _, ⟨0, 0, X, (Nat.zero_mul _).symm, Nat.zero_le _, hX, (by rw [hX]; exact fu_len _ _), rfl, rfl⟩, ?wk2⟩ ?rd2
   case wk2 =>
    exact Wk.sub ⟨rfl, rfl, rfl, rfl, (by rfl), (by exact congrArg (nm _) (by omega)), trivial⟩ ⟨rfl, rfl, rfl, rfl, (by rfl), trivial⟩
   rintro κ _ ⟨d, a, Y, ha, hle, hY, hl, rfl, rfl⟩
   refine awp_seq fun K12 hK12 => awp_seq fun K13 hK13 => awp_region rfl (o_mv (Nv (a + 2 * s)) rfl (o_mv (Nv D.length) rfl ?_))
   refine n_leq (a + 2 * s) D.length gn rfl rfl ?_
   refine aops_end (hK13 _ ?_)
   refine awp_condQ (q := (a + 2 * s) ≤ D.length) rfl (fun h3 => ?_) (fun h3 => ?_)
   ·refine awp_skip (hK12 _ ?_)
    refine awp_block ?_
    refine awp_seq fun K14 hK14 => ?_
    refine awp_regionSW 7 43 _ 116 [] _ _ _ _ _ [.row 21, Nv a, Nv (a + s), Nv (a + 2 * s), .clo 96 [.ip [.clo kf []]]] (.tup []) [v2v, r0v F, v3v, r1v (symF key (2 * s) Y a (a + s) (a + 2 * s)), p1v us] rfl rfl rfl f119_ ?_
    refine o_mv (.row 21) rfl (o_mv (Nv a) rfl (o_mv (Nv a) rfl (o_mv (Nv s) rfl ?_)))
    refine n_add a s gn rfl rfl (by simp only [topOf]; omega) ?_
    refine o_mv (Nv (a + 2 * s)) rfl (o_mv (.clo 96 [.ip [.clo kf []]]) rfl ?_)
    refine aops_end ⟨_, Wk.sub (σ' := ⟨[(0, .row 21), (1, Nv D.length), (2, .clo 96 [.ip [.clo kf []]]), (6, Nv s), (7, Nv a), (8, Nv (a + 2 * s)), (33, Nv (a + 2 * s)), (34, Nv D.length), (35, bp ((a + 2 * s) ≤ D.length)), (36, .row 21), (37, Nv a), (40, Nv (a + s)), (41, Nv (a + 2 * s)), (42, .clo 96 [.ip [.clo kf []]])], [v2v, r0v F, v3v, r1v Y, p1v us]⟩) ⟨rfl, rfl, rfl, rfl, rfl, rfl, rfl, rfl, rfl, rfl, rfl, rfl, rfl, rfl, trivial⟩ ⟨rfl, rfl, rfl, rfl, rfl, trivial⟩, rfl, rfl, scalls_of_r (K := [2, 3, 21]) (m := [v2v, r0v F, v3v, r1v Y]) (m' := [v2v, r0v F, v3v, r1v (symF key (2 * s) Y a (a + s) (a + 2 * s))]) (e := [p1v us]) (c_symi kf key hkey F (2 * s) Y a (a + s) (a + 2 * s) (by omega) (by omega) (by omega) (by omega) (by omega)) rfl rfl, ?_⟩
    refine hK14 _ (awp_seq fun K15 hK15 => awp_region rfl (o_mv (Nv (a + 2 * s)) rfl (o_as (Nv (a + 2 * s)) rfl (aops_end (hK15 _ (awp_region rfl (o_mv (Nv (a + 2 * s)) rfl (o_mv (Nv s) rfl ?_))))))))
    refine n_mul 2 s gn rfl rfl (by simp only [topOf]; omega) ?_
    refine n_add (a + 2 * s) (2 * s) gn rfl rfl (by simp only [topOf]; omega) ?_
    refine o_as (Nv ((a + 2 * s) + (2 * s))) rfl (aops_end ?_)
    refine ⟨_, _, ?lt, ⟨d + 1, a + 2 * s, symF key (2 * s) Y a (a + s) (a + 2 * s), (by have := Nat.add_mul d 1 (2 * s); omega), (by omega), (st_step (by omega) ha hY (by omega) hc (Nat.le_refl _)), (sym_len key _ _ _ _ _).trans hl, rfl, rfl⟩, ?wk⟩
    case lt => omega
    case wk => exact Wk.sub ⟨rfl, rfl, rfl, rfl, (by rfl), (by rfl), trivial⟩ ⟨rfl, rfl, rfl, rfl, (by rfl), trivial⟩
   ·refine awp_exit ?_
    refine hK11 _ (awp_seq fun K16 hK16 => awp_seq fun K17 hK17 => awp_region rfl (o_mv (Nv a) rfl (o_mv (Nv s) rfl ?_)))
    refine n_add a s gn rfl rfl (by simp only [topOf]; omega) ?_
    refine o_as (Nv (a + s)) rfl (aops_end (hK17 _ (awp_seq fun K18 hK18 => awp_region rfl (o_mv (Nv (a + s)) rfl (o_mv (Nv D.length) rfl ?_)))))
    refine n_lss (a + s) D.length gn rfl rfl ?_
    refine aops_end (hK18 _ ?_)
    refine awp_condQ (q := (a + s) < D.length) rfl (fun h4 => ?_) (fun h4 => ?_)
    ·refine awp_regionSW 5 60 _ 116 [] _ _ _ _ _ [.row 21, Nv a, Nv (a + s), Nv D.length, .clo 96 [.ip [.clo kf []]]] (.tup []) [v2v, r0v F, v3v, r1v (symF key (D.length - a) Y a (a + s) D.length), p1v us] rfl rfl rfl f119_ ?_
     refine o_mv (.row 21) rfl (o_mv (Nv a) rfl (o_mv (Nv (a + s)) rfl (o_mv (Nv D.length) rfl (o_mv (.clo 96 [.ip [.clo kf []]]) rfl ?_))))
     refine aops_end ⟨_, Wk.sub (σ' := ⟨[(0, .row 21), (1, Nv D.length), (2, .clo 96 [.ip [.clo kf []]]), (6, Nv s), (7, Nv a), (8, Nv (a + 2 * s)), (33, Nv (a + 2 * s)), (34, Nv D.length), (35, bp ((a + 2 * s) ≤ D.length)), (49, Nv a), (50, Nv s), (51, Nv (a + s)), (9, Nv (a + s)), (52, Nv (a + s)), (53, Nv D.length), (54, bp ((a + s) < D.length)), (55, .row 21), (56, Nv a), (57, Nv (a + s)), (58, Nv D.length), (59, .clo 96 [.ip [.clo kf []]])], [v2v, r0v F, v3v, r1v Y, p1v us]⟩) ⟨rfl, rfl, rfl, rfl, rfl, rfl, rfl, rfl, rfl, rfl, rfl, rfl, rfl, rfl, rfl, rfl, rfl, rfl, rfl, rfl, rfl, trivial⟩ ⟨rfl, rfl, rfl, rfl, rfl, trivial⟩, rfl, rfl, scalls_of_r (K := [2, 3, 21]) (m := [v2v, r0v F, v3v, r1v Y]) (m' := [v2v, r0v F, v3v, r1v (symF key (D.length - a) Y a (a + s) D.length)]) (e := [p1v us]) (c_symi kf key hkey F (D.length - a) Y a (a + s) D.length (by omega) (by omega) (by omega) (by omega) (by omega)) rfl rfl, ?_⟩
     refine hK16 _ (awp_region rfl (o_mv (Nv s) rfl ?_))
     refine n_mul s 2 gn rfl rfl (by simp only [topOf]; omega) ?_
     refine o_as (Nv (s * 2)) rfl (aops_end ?_)
     refine ⟨_, _, ?lt, ⟨2 * s, d, symF key (D.length - a) Y a (a + s) D.length, (st_end1 (by omega) ha hY (by omega) (by omega) hc hc2 (Nat.le_refl _)), (by omega), (by omega), (by omega), rfl, rfl⟩, ?wk⟩
     case lt => omega
     case wk => exact Wk.sub ⟨rfl, rfl, rfl, (by exact congrArg (nm _) (by omega)), trivial⟩ ⟨rfl, rfl, rfl, rfl, (by rfl), trivial⟩
    ·refine awp_skip (hK16 _ (awp_region rfl (o_mv (Nv s) rfl ?_)))
     refine n_mul s 2 gn rfl rfl (by simp only [topOf]; omega) ?_
     refine o_as (Nv (s * 2)) rfl (aops_end ?_)
     refine ⟨_, _, ?lt, ⟨2 * s, d, Y, (st_end0 (by omega) ha hY (by omega) hle hc hc2), (by omega), (by omega), (by omega), rfl, rfl⟩, ?wk⟩
     case lt => omega
     case wk => exact Wk.sub ⟨rfl, rfl, rfl, (by exact congrArg (nm _) (by omega)), trivial⟩ ⟨rfl, rfl, rfl, rfl, (by rfl), trivial⟩
  ·refine awp_exit ?_
   exact ⟨⟨[], [p1v us, v2v, r0v F, v3v, r1v (srt key D)]⟩, Wk.sub trivial ⟨rfl, rfl, rfl, rfl, (by (exact row_is (hX.trans (st_fin (by omega) (by omega) hc hc2)))), trivial⟩, ⟨[], trivial, rfl, fun id ob h => keep_pin h rfl, rfl⟩⟩

theorem c_ssoi (kf : Nat) (key : Int → Int) (hkey : ∀ x y : Int, ECalls cx 96 [.lit (.int .i64 x), .lit (.int .i64 y), .ip [.clo kf []]] (.lit (.int .i64 (cmpZ (key x) (key y))))) (D : List Int) (F : List Fal) (hD : D.length ≤ 1000000) :
  RCalls cx 95 [.row 21, .clo 96 [.ip [.clo kf []]]] [2, 3, 21] [v2v, r0v F, v3v, r1v D] (.tup []) [v2v, r0v F, v3v, r1v (srt key D)] := by
 refine rcalls_of_x (X := [(2, false), (3, false), (21, true)]) (scalls_of_awpB 9009 Tryz.func95 (c := _) rfl (Nat.le_of_ble_eq_true rfl) rfl rfl rfl (fun us => ?_)) rfl
 refine awp_late ?_
 show awp cx 9 _ (lateQ cx 9 (postS cx Tryz.f95 (.tup []) [v2v, r0v F, v3v, r1v (srt key D)] 9009 [.ref 2 0, .ref 3 0, .row 21] us)) ⟨[(0, .row 21), (1, .clo 96 [.ip [.clo kf []]])], [p1v us, v2v, r0v F, v3v, r1v D]⟩
 refine awp_regionSW 4 8 _ 107 [] _ _ _ _ _ [.row 21, Nv (D.length), .clo 96 [.ip [.clo kf []]]] (.tup []) [v2v, r0v F, v3v, r1v (srt key D), p1v us] rfl rfl rfl f131_ ?_
 refine o_mv (.row 21) rfl (o_mv (.row 21) rfl ?_)
 refine o_lenRow (D.length) gn f2_ rfl rfl (by simp [is]) ?_
 refine o_mv (.clo 96 [.ip [.clo kf []]]) rfl ?_
 refine aops_end ⟨_, Wk.sub (σ' := ⟨[(0, .row 21), (1, .clo 96 [.ip [.clo kf []]]), (4, .row 21), (6, Nv (D.length)), (7, .clo 96 [.ip [.clo kf []]])], [v2v, r0v F, v3v, r1v D, p1v us]⟩) ⟨rfl, rfl, rfl, rfl, rfl, trivial⟩ ⟨rfl, rfl, rfl, rfl, rfl, trivial⟩, rfl, rfl, scalls_of_r (K := [2, 3, 21]) (m := [v2v, r0v F, v3v, r1v D]) (m' := [v2v, r0v F, v3v, r1v (srt key D)]) (e := [p1v us]) (c_stai kf key hkey D F hD) rfl rfl, ?_⟩
 exact ⟨⟨[], [p1v us, v2v, r0v F, v3v, r1v (srt key D)]⟩, Wk.sub trivial ⟨rfl, rfl, rfl, rfl, rfl, trivial⟩, ⟨[], trivial, rfl, fun id ob h => keep_pin h rfl, rfl⟩⟩

theorem c_orli (kf : Nat) (key : Int → Int) (hkc : callable cx.P kf = true) (hkf : ∀ x : Int, ECalls cx kf [.lit (.int .i64 x)] (.lit (.int .i64 (key x)))) (D : List Int) (F : List Fal) (hD : D.length ≤ 1000000) :
  RCalls cx 59 [.row 21, .clo kf []] [2, 3, 21] [v2v, r0v F, v3v, r1v D] (.tup []) [v2v, r0v F, v3v, r1v (srt key D)] := by
 refine rcalls_of_x (X := [(2, false), (3, false), (21, true)]) (scalls_of_awpB 9009 Tryz.func59 (c := _) rfl (Nat.le_of_ble_eq_true rfl) rfl rfl rfl (fun us => ?_)) rfl
 refine awp_late ?_
 show awp cx 7 _ (lateQ cx 7 (postS cx Tryz.f59 (.tup []) [v2v, r0v F, v3v, r1v (srt key D)] 9009 [.ref 2 0, .ref 3 0, .row 21] us)) ⟨[(0, .row 21), (1, .clo kf [])], [p1v us, v2v, r0v F, v3v, r1v D]⟩
 refine awp_seq fun K0 hK0 => awp_region rfl ?_
 refine o_box 1001 [.clo kf []] gn rfl rfl ?_
 refine aops_end (hK0 _ ?_)
 refine awp_wk (σ' := ⟨[(0, .row 21), (1, .clo kf []), (3, .ref 1001 0)], [p1v us, v2v, r0v F, v3v, r1v D, (1001, .var 95 [.clo kf []])]⟩) (Wk.sub ⟨rfl, rfl, rfl, trivial⟩ ⟨rfl, rfl, rfl, rfl, rfl, rfl, trivial⟩) ?_
 refine awp_wk (σ' := ⟨[(0, .row 21), (1, .clo kf []), (3, .ip [.clo kf []])], [p1v us, v2v, r0v F, v3v, r1v D]⟩) (Wk.see (id := 1001) (t := 95) (cs := [.clo kf []]) rfl rfl) ?_
 refine awp_regionSW 2 6 _ 95 [] _ _ _ _ _ [.row 21, .clo 96 [.ip [.clo kf []]]] (.tup []) [v2v, r0v F, v3v, r1v (srt key D), p1v us] rfl rfl rfl f132_ ?_
 refine o_mv (.row 21) rfl ?_
 refine o_makeFunc [.ip [.clo kf []]] gn rfl ?_
 refine aops_end ⟨_, Wk.sub (σ' := ⟨[(0, .row 21), (1, .clo kf []), (3, .ip [.clo kf []]), (4, .row 21), (5, .clo 96 [.ip [.clo kf []]])], [v2v, r0v F, v3v, r1v D, p1v us]⟩) ⟨rfl, rfl, rfl, rfl, rfl, trivial⟩ ⟨rfl, rfl, rfl, rfl, rfl, trivial⟩, rfl, rfl, scalls_of_r (K := [2, 3, 21]) (m := [v2v, r0v F, v3v, r1v D]) (m' := [v2v, r0v F, v3v, r1v (srt key D)]) (e := [p1v us]) (c_ssoi kf key (c_cmpi kf key hkc hkf) D F hD) rfl rfl, ?_⟩
 exact ⟨⟨[], [p1v us, v2v, r0v F, v3v, r1v (srt key D)]⟩, Wk.sub trivial ⟨rfl, rfl, rfl, rfl, rfl, trivial⟩, ⟨[], trivial, rfl, fun id ob h => keep_pin h rfl, rfl⟩⟩

end Go.Proofs.YtjbaamfahkjhgaaGreatDoor

namespace Go.Proofs.YtjbaamfahkjhgaaGreatDoor
open Go Go.Ab Go.Mth
theorem f133_ : callable cx.P 47 = true := by kernel_rfl
theorem f134_ : callable cx.P 48 = true := by kernel_rfl
theorem f135_ : tySc cx.P 26 = true := by kernel_rfl
theorem f136_ : callable cx.P 49 = true := by kernel_rfl
theorem f137_ : tySize cx.P 26 = some 1 := by kernel_rfl
theorem f138_ : tySize cx.P 22 = some 1 := by kernel_rfl
theorem f139_ : tySc cx.P 76 = true := by kernel_rfl
theorem f140_ : callable cx.P 55 = true := by kernel_rfl
theorem f141_ : callable cx.P 46 = true := by kernel_rfl
theorem c_clone (l : List Int) (hl : 0 < l.length) (hb : l.length ≤ 1000) : ECallsM cx 55 [Lv l] (.row 701) 701 3 1 (is .i64 l) := by
 refine ecallsM_of_awp Tryz.func55 (c := _) rfl (Nat.le_of_ble_eq_true rfl) ?_
 show awp cx 8 _ (postM cx Tryz.f55 _ 701 3 1 (is .i64 l)) ⟨[(0, Lv l)], []⟩
 refine awp_seq fun K0 hK0 => awp_region rfl (o_as Zv rfl (aops_end (hK0 _ (awp_seq fun K1 hK1 => awp_seq fun K2 hK2 => awp_region rfl (o_mv (Lv l) rfl ?_)))))
 refine o_eqlNilSl gn f2_ rfl rfl (by simp [is, ns]; omega) ?_
 refine aops_end (hK2 _ ?_)
 refine awp_condB (b := false) rfl (fun hh => absurd (hh.symm.trans rfl) (by decide)) (fun _ => ?_)
 refine awp_skip (hK1 _ (awp_seq fun K3 hK3 => awp_region rfl ?_))
 refine o_buildSlice 2 (is .i64 ([])) [] gn f10_ rfl f26_ rfl rfl rfl rfl rfl rfl rfl ?_
 refine o_mv (Lv l) rfl ?_
 refine i_appendSl 3 ([]) l [] gn f10_ f26_ rfl rfl rfl rfl (by simp only [List.length_append, List.length_cons, List.length_nil]; omega) (by decide) rfl rfl ?_
 refine o_as (.row 3) rfl (aops_end (hK3 _ ?_))
 refine awp_wk (σ' := ⟨[(2, .row 3)], [(3, .row 3 1 (is .i64 l))]⟩) (Wk.sub ⟨rfl, trivial⟩ ⟨rfl, trivial⟩) ?_
 refine awp_wk (σ' := ⟨[(2, .row 701)], [(701, .row 3 1 (is .i64 l))]⟩) (Wk.ren (id := 3) (id' := 701) rfl) ?_
 refine awp_ret ?_
 refine postM_ret ⟨[.row 701], ⟨AV.le_refl _, trivial⟩, rfl, rfl, ?_⟩
 rfl

theorem c_clone0  : ECalls cx 55 [Zv] Zv := by
 refine ecalls_of_awp Tryz.func55 (c := _) rfl (Nat.le_of_ble_eq_true rfl) ?_
 show awp cx 8 _ (postF cx Tryz.f55 _) ⟨[(0, Zv)], []⟩
 refine awp_seq fun K0 hK0 => awp_region rfl (o_as Zv rfl (aops_end (hK0 _ (awp_seq fun K1 hK1 => awp_seq fun K2 hK2 => awp_region rfl (o_mv Zv rfl ?_)))))
 refine o_eqlNN gn f2_ rfl rfl ?_
 refine aops_end (hK2 _ ?_)
 refine awp_condB (b := true) rfl (fun _ => ?_) (fun hh => absurd (hh.symm.trans rfl) (by decide))
 refine awp_seq fun K3 hK3 => awp_region rfl (o_as Zv rfl (aops_end (hK3 _ ?_)))
 refine awp_ret ?_
 refine post_ret ⟨[Zv], ⟨AV.le_refl _, trivial⟩, rfl, ?_⟩
 rfl

theorem c_visit (m : MapM) (k : Nat) (hM : OkM m) (hk : k ≤ 16) (hpk : m.mod ^ k ≤ 65536) : ∀ (d n : Nat) (r : Int) (F : List Fal) (L : List Int), n + d = k → 1 ≤ n → 0 ≤ r → r < m.mod ^ n → F.length + m.mod.toNat ^ d ≤ 1000000 → L.length + m.mod.toNat ^ d ≤ 1000000 →
  RCalls cx 46 [Iv r, Iv (m.mod ^ n), Lv (wordZ m r n), mIv m, .ref 2 0, .ip [Nv k], .ref 3 0, .ref 4 0] [2, 3, 4] [v2v, r0v F, v3v, r1v L, c4v m k] (.tup []) [v2v, r0v (F ++ ((visA m d n r).1)), v3v, r1v (L ++ ((visA m d n r).2)), c4v m k] := by
 intro d
 induction d using Nat.strongRecOn
 rename_i d ih
 intro n r F L hnd hn1 hr0 hr1 hFl hLl
 refine rcalls_of_s (scalls_of_awpB 9009 Tryz.func46 (c := _) rfl (Nat.le_of_ble_eq_true rfl) rfl rfl rfl (fun us => ?_)) rfl
 refine awp_late ?_
 show awp cx 98 _ (lateQ cx 98 (postS cx Tryz.f46 (.tup []) [v2v, r0v (F ++ ((visA m d n r).1)), v3v, r1v (L ++ ((visA m d n r).2)), c4v m k] 9009 [.ref 2 0, .ref 3 0, .ref 4 0] us)) ⟨[(0, Iv r), (1, Iv (m.mod ^ n)), (2, Lv (wordZ m r n)), (3, mIv m), (4, .ref 2 0), (5, .ip [Nv k]), (6, .ref 3 0), (7, .ref 4 0)], [(9009, .pin [.ref 2 0, .ref 3 0, .ref 4 0] us), v2v, r0v F, v3v, r1v L, c4v m k]⟩
 have hM2 := hM
 obtain ⟨o1, o2, o3, o4, o5⟩ := hM2
 have hpp : 0 < m.mod ^ n := Int.pow_pos (by omega)
 have hpn := pow_le_of hM (j := n) (k := k) (by omega)
 have hW := wordZ_is hM r n
 have hWl := wordZ_len m r n
 obtain ⟨L1, L2, L3⟩ := line_len hM _ hW
 have hpd : 0 < m.mod.toNat ^ d := Nat.pow_pos (by omega)
 have hrl := small_len (z := r) (by omega)
 have hil := iter_len hM r n
 have hdv : 0 < (lineZ m (wordZ m r n)).div := by rw [lineZ_div]; exact Int.pow_pos (by omega)
 have hm0 := len_mulZ (lineZ m (wordZ m r n)).mul r
 have ha0 := len_addZ ((lineZ m (wordZ m r n)).mul * r) (lineZ m (wordZ m r n)).add
 refine awp_seq fun K0 hK0 => awp_region rfl ?_
 refine o_loadIA [Iv m.mod, Lv m.mul, Lv m.add] gn f64_ rfl (Nat.le_of_ble_eq_true rfl) rfl ?_
 refine o_mv (Lv (wordZ m r n)) rfl ?_
 refine o_ct (c_oOf m (wordZ m r n) (by assumption) (by assumption) (by omega)) gn f133_ rfl ?_
 refine o_alloc 1001 [Fv, Zv, Fv, Zv, Fv, Zv] gn f78_ rfl rfl rfl ?_
 refine o_store [(1001, .var 81 [Bv ((lineZ m (wordZ m r n)).mul), Dv ((lineZ m (wordZ m r n)).mul), Bv ((lineZ m (wordZ m r n)).add), Dv ((lineZ m (wordZ m r n)).add), Bv ((lineZ m (wordZ m r n)).div), Dv ((lineZ m (wordZ m r n)).div)]), (9009, .pin [.ref 2 0, .ref 3 0, .ref 4 0] us), v2v, r0v F, v3v, r1v L, c4v m k] gn f80_ rfl rfl rfl rfl rfl rfl ?_
 refine aops_end (hK0 _ (awp_seq fun K1 hK1 => ?_))
 refine awp_block ?_
 refine awp_seq fun K2 hK2 => awp_region rfl (o_mv (Lv (wordZ m r n)) rfl ?_)
 refine i_len (wordZ m r n) gn f2_ rfl ?_
 refine n_as (v' := (Nv n)) (congrArg (nm _) (by exact wordZ_len m r n)) ?_
 refine n_gtr n 0 gn rfl rfl ?_
 refine n_as (v' := Tv) (by exact bpy hn1) ?_
 refine o_mv Tv rfl ?_
 refine o_fieldRef 0 (Gd.yes rfl rfl rfl) f82_ rfl rfl ?_
 refine o_loadA [Bv ((lineZ m (wordZ m r n)).mul), Dv ((lineZ m (wordZ m r n)).mul)] (Gd.yes rfl rfl rfl) f20_ rfl rfl rfl rfl rfl ?_
 refine o_fieldRef 4 (Gd.yes rfl rfl rfl) f84_ rfl rfl ?_
 refine o_loadA [Bv ((lineZ m (wordZ m r n)).div), Dv ((lineZ m (wordZ m r n)).div)] (Gd.yes rfl rfl rfl) f20_ rfl rfl rfl rfl rfl ?_
 refine o_ct (c_wCmp ((lineZ m (wordZ m r n)).mul) ((lineZ m (wordZ m r n)).div)) (Gd.yes rfl rfl rfl) f134_ rfl ?_
 refine o_lss (a := (cmpZ ((lineZ m (wordZ m r n)).mul) ((lineZ m (wordZ m r n)).div))) (c := ((0 : Nat) : Int)) (Gd.yes rfl rfl rfl) rfl rfl ?_
 refine o_pickT (bp ((cmpZ ((lineZ m (wordZ m r n)).mul) ((lineZ m (wordZ m r n)).div)) < ((0 : Nat) : Int))) gn rfl rfl rfl ?_
 refine o_as (bp ((cmpZ ((lineZ m (wordZ m r n)).mul) ((lineZ m (wordZ m r n)).div)) < ((0 : Nat) : Int))) rfl (aops_end (hK2 _ ?_))
 refine awp_condQ (q := (cmpZ ((lineZ m (wordZ m r n)).mul) ((lineZ m (wordZ m r n)).div)) < ((0 : Nat) : Int)) rfl (fun h1 => ?_) (fun h1 => ?_)
 ·have hf : fallN m r n := ⟨hn1, lcmp.1 h1⟩
  have hdm : 0 < (lineZ m (wordZ m r n)).div - (lineZ m (wordZ m r n)).mul := by have := hf.2; unfold fallsW at this; omega
  refine awp_seq fun K3 hK3 => awp_regionD rfl ?_
  refine o_loadS (.row 20) gn f135_ rfl rfl rfl ?_
  refine o_mv (Lv (wordZ m r n)) rfl ?_
  refine i_len (wordZ m r n) gn f2_ rfl ?_
  refine n_as (v' := (Nv n)) (congrArg (nm _) (by exact wordZ_len m r n)) ?_
  refine o_mv (Iv r) rfl ?_
  refine o_loadA [Bv ((lineZ m (wordZ m r n)).mul), Dv ((lineZ m (wordZ m r n)).mul), Bv ((lineZ m (wordZ m r n)).add), Dv ((lineZ m (wordZ m r n)).add), Bv ((lineZ m (wordZ m r n)).div), Dv ((lineZ m (wordZ m r n)).div)] gn f85_ rfl rfl rfl rfl rfl ?_
  refine o_ct (c_sfall ((n : Nat) : Int) r (lineZ m (wordZ m r n)) (by omega) (by omega) (by omega) (by omega)) gn f136_ rfl ?_
  refine o_buildSlice 1002 (gcells cL ([(falO ((n : Nat) : Int) r (lineZ m (wordZ m r n)))])) [(0, [(Iv ((falO ((n : Nat) : Int) r (lineZ m (wordZ m r n))).steps)), (Iv ((falO ((n : Nat) : Int) r (lineZ m (wordZ m r n))).rest)), (Sv ((falO ((n : Nat) : Int) r (lineZ m (wordZ m r n))).lmul)), (Sv ((falO ((n : Nat) : Int) r (lineZ m (wordZ m r n))).ladd)), (Sv ((falO ((n : Nat) : Int) r (lineZ m (wordZ m r n))).ldiv)), (Sv ((falO ((n : Nat) : Int) r (lineZ m (wordZ m r n))).bound))])] gn f110_ rfl f104_ rfl rfl rfl rfl rfl rfl rfl ?_
  refine g_append cL 1003 F ([(falO ((n : Nat) : Int) r (lineZ m (wordZ m r n)))]) [(1002, (.row 40 6 (gcells cL ([(falO ((n : Nat) : Int) r (lineZ m (wordZ m r n)))])))), (1001, .var 81 [Bv ((lineZ m (wordZ m r n)).mul), Dv ((lineZ m (wordZ m r n)).mul), Bv ((lineZ m (wordZ m r n)).add), Dv ((lineZ m (wordZ m r n)).add), Bv ((lineZ m (wordZ m r n)).div), Dv ((lineZ m (wordZ m r n)).div)]), (9009, .pin [.ref 2 0, .ref 3 0, .ref 4 0] us), v2v, v3v, r1v L, c4v m k] cL_len rfl gn f110_ f104_ rfl rfl rfl rfl rfl (by simp only [List.length_append, List.length_cons, List.length_nil]; omega) (by simp only [List.length_append, List.length_cons, List.length_nil]; omega) rfl rfl ?_
  refine o_store [(1003, (.row 40 6 (gcells cL (F ++ ([(falO ((n : Nat) : Int) r (lineZ m (wordZ m r n)))]))))), (1002, (.row 40 6 (gcells cL ([(falO ((n : Nat) : Int) r (lineZ m (wordZ m r n)))])))), (1001, .var 81 [Bv ((lineZ m (wordZ m r n)).mul), Dv ((lineZ m (wordZ m r n)).mul), Bv ((lineZ m (wordZ m r n)).add), Dv ((lineZ m (wordZ m r n)).add), Bv ((lineZ m (wordZ m r n)).div), Dv ((lineZ m (wordZ m r n)).div)]), (9009, .pin [.ref 2 0, .ref 3 0, .ref 4 0] us), (2, .var 26 [.row 1003]), v3v, r1v L, c4v m k] gn f137_ rfl rfl rfl rfl rfl rfl ?_
  refine aops_end ⟨by kernel_rfl, ?_⟩
  refine hK3 _ ?_
  refine awp_ret ?_
  exact ⟨⟨[], [(9009, .pin [.ref 2 0, .ref 3 0, .ref 4 0] us), v2v, r0v (F ++ ((visA m d n r).1)), v3v, r1v (L ++ ((visA m d n r).2)), c4v m k]⟩, Wk.trans (Wk.sub (σ' := ⟨[], [(9009, .pin [.ref 2 0, .ref 3 0, .ref 4 0] us), (2, .var 26 [.row 1003]), (1003, (.row 40 6 (gcells cL (F ++ ([(falO ((n : Nat) : Int) r (lineZ m (wordZ m r n)))]))))), v3v, r1v L, c4v m k]⟩) trivial ⟨rfl, rfl, rfl, rfl, rfl, rfl, trivial⟩) (Wk.trans (Wk.ren (id := 1003) (id' := 20) rfl) (Wk.sub trivial ⟨(by rfl), (by rfl), (by (exact row_gs' (by rw [vis_fall hf]))), (by rfl), (by (exact row_is (by rw [vis_fall hf]; simp))), (by rfl), trivial⟩)), ⟨[], trivial, rfl, fun id ob h => keep_pin h rfl, rfl⟩⟩
 ·have hf : ¬ fallN m r n := fun e => h1 (lcmp.2 e.2)
  refine awp_seq fun K4 hK4 => awp_region rfl (o_mv (Lv (wordZ m r n)) rfl ?_)
  refine i_len (wordZ m r n) gn f2_ rfl ?_
  refine n_as (v' := (Nv n)) (congrArg (nm _) (by exact wordZ_len m r n)) ?_
  refine o_loadIS (Nv k) gn f11_ rfl rfl ?_
  refine n_eql n k gn rfl rfl ?_
  refine o_as (bp (n = k)) rfl (aops_end (hK4 _ ?_))
  refine awp_condQ (q := n = k) rfl (fun h2 => ?_) (fun h2 => ?_)
  ·have hd0 : d = 0 := by omega
   refine awp_seq fun K5 hK5 => awp_region rfl ?_
   refine o_loadS (.row 21) gn f1_ rfl rfl rfl ?_
   refine o_mv (Iv r) rfl ?_
   refine o_buildSlice 1002 (is .i64 ([r])) [(0, [Iv r])] gn f10_ rfl f26_ rfl rfl rfl rfl rfl rfl rfl ?_
   refine i_append 1003 L ([r]) [(1002, .row 3 1 (is .i64 ([r]))), (1001, .var 81 [Bv ((lineZ m (wordZ m r n)).mul), Dv ((lineZ m (wordZ m r n)).mul), Bv ((lineZ m (wordZ m r n)).add), Dv ((lineZ m (wordZ m r n)).add), Bv ((lineZ m (wordZ m r n)).div), Dv ((lineZ m (wordZ m r n)).div)]), (9009, .pin [.ref 2 0, .ref 3 0, .ref 4 0] us), v2v, r0v F, v3v, c4v m k] gn f10_ f26_ rfl rfl rfl rfl rfl (by simp only [List.length_append, List.length_cons, List.length_nil]; omega) (by decide) rfl rfl ?_
   refine o_store [(1003, .row 3 1 (is .i64 (L ++ ([r])))), (1002, .row 3 1 (is .i64 ([r]))), (1001, .var 81 [Bv ((lineZ m (wordZ m r n)).mul), Dv ((lineZ m (wordZ m r n)).mul), Bv ((lineZ m (wordZ m r n)).add), Dv ((lineZ m (wordZ m r n)).add), Bv ((lineZ m (wordZ m r n)).div), Dv ((lineZ m (wordZ m r n)).div)]), (9009, .pin [.ref 2 0, .ref 3 0, .ref 4 0] us), v2v, r0v F, (3, .var 22 [.row 1003]), c4v m k] gn f138_ rfl rfl rfl rfl rfl rfl ?_
   refine aops_end (hK5 _ ?_)
   refine awp_ret ?_
   exact ⟨⟨[], [(9009, .pin [.ref 2 0, .ref 3 0, .ref 4 0] us), v2v, r0v (F ++ ((visA m d n r).1)), v3v, r1v (L ++ ((visA m d n r).2)), c4v m k]⟩, Wk.trans (Wk.sub (σ' := ⟨[], [(9009, .pin [.ref 2 0, .ref 3 0, .ref 4 0] us), v2v, r0v F, (3, .var 22 [.row 1003]), (1003, .row 3 1 (is .i64 (L ++ ([r])))), c4v m k]⟩) trivial ⟨rfl, rfl, rfl, rfl, rfl, rfl, trivial⟩) (Wk.trans (Wk.ren (id := 1003) (id' := 21) rfl) (Wk.sub trivial ⟨(by rfl), (by rfl), (by (exact row_gs' (by rw [vis_left hf hd0]; simp))), (by rfl), (by (exact row_is (by rw [vis_left hf hd0]))), (by rfl), trivial⟩)), ⟨[], trivial, rfl, fun id ob h => keep_pin h rfl, rfl⟩⟩
  ·obtain ⟨e, hde⟩ : ∃ e, d = e + 1 := ⟨d - 1, by omega⟩
   have hme := vis_more hf hde
   refine awp_skip (hK1 _ (awp_seq fun K6 hK6 => awp_regionD rfl ?_))
   refine o_fieldRef 0 gn f82_ rfl rfl ?_
   refine o_loadA [Bv ((lineZ m (wordZ m r n)).mul), Dv ((lineZ m (wordZ m r n)).mul)] gn f20_ rfl rfl rfl rfl rfl ?_
   refine o_mv (Iv r) rfl ?_
   refine o_ct (c_wOf r (by omega) (by omega)) gn f46_ rfl ?_
   refine o_ct (c_wMul ((lineZ m (wordZ m r n)).mul) r (by omega) (by omega)) gn f68_ rfl ?_
   refine o_fieldRef 2 gn f83_ rfl rfl ?_
   refine o_loadA [Bv ((lineZ m (wordZ m r n)).add), Dv ((lineZ m (wordZ m r n)).add)] gn f20_ rfl rfl rfl rfl rfl ?_
   refine o_ct (c_wAdd (((lineZ m (wordZ m r n)).mul) * r) ((lineZ m (wordZ m r n)).add) (by omega) (by omega)) gn f40_ rfl ?_
   refine o_fieldRef 4 gn f84_ rfl rfl ?_
   refine o_loadA [Bv ((lineZ m (wordZ m r n)).div), Dv ((lineZ m (wordZ m r n)).div)] gn f20_ rfl rfl rfl rfl rfl ?_
   refine o_ct (c_wDivide ((((lineZ m (wordZ m r n)).mul) * r) + ((lineZ m (wordZ m r n)).add)) ((lineZ m (wordZ m r n)).div) (by omega) (by omega) (by omega)) gn f105_ rfl ?_
   refine o_mv (.tup [intW (((((lineZ m (wordZ m r n)).mul) * r) + ((lineZ m (wordZ m r n)).add)) / ((lineZ m (wordZ m r n)).div)), intW (((((lineZ m (wordZ m r n)).mul) * r) + ((lineZ m (wordZ m r n)).add)) % ((lineZ m (wordZ m r n)).div))]) rfl (o_extract (intW (((((lineZ m (wordZ m r n)).mul) * r) + ((lineZ m (wordZ m r n)).add)) / ((lineZ m (wordZ m r n)).div))) gn rfl rfl ?_)
   refine n_as (v' := (intW (iterZ m n r))) (by exact congrArg intW (vis_a hM r n)) ?_
   refine o_extract (intW (((((lineZ m (wordZ m r n)).mul) * r) + ((lineZ m (wordZ m r n)).add)) % ((lineZ m (wordZ m r n)).div))) gn rfl rfl ?_
   refine o_alloc 1002 [Fv, Zv] gn f15_ rfl rfl rfl ?_
   refine o_alloc 1003 [Fv, Zv] gn f15_ rfl rfl rfl ?_
   refine o_store [(1003, .var 79 [Fv, Zv]), (1002, oZ 79 .u32 (iterZ m n r)), (1001, .var 81 [Bv ((lineZ m (wordZ m r n)).mul), Dv ((lineZ m (wordZ m r n)).mul), Bv ((lineZ m (wordZ m r n)).add), Dv ((lineZ m (wordZ m r n)).add), Bv ((lineZ m (wordZ m r n)).div), Dv ((lineZ m (wordZ m r n)).div)]), (9009, .pin [.ref 2 0, .ref 3 0, .ref 4 0] us), v2v, r0v F, v3v, r1v L, c4v m k] gn f19_ rfl rfl rfl rfl rfl rfl ?_
   refine o_store [(1003, oZ 79 .u32 (((((lineZ m (wordZ m r n)).mul) * r) + ((lineZ m (wordZ m r n)).add)) % ((lineZ m (wordZ m r n)).div))), (1002, oZ 79 .u32 (iterZ m n r)), (1001, .var 81 [Bv ((lineZ m (wordZ m r n)).mul), Dv ((lineZ m (wordZ m r n)).mul), Bv ((lineZ m (wordZ m r n)).add), Dv ((lineZ m (wordZ m r n)).add), Bv ((lineZ m (wordZ m r n)).div), Dv ((lineZ m (wordZ m r n)).div)]), (9009, .pin [.ref 2 0, .ref 3 0, .ref 4 0] us), v2v, r0v F, v3v, r1v L, c4v m k] gn f19_ rfl rfl rfl rfl rfl rfl ?_
   refine aops_end ⟨by kernel_rfl, ?_⟩
   refine hK6 _ (awp_seq fun K7 hK7 => ?_)
   refine awp_wk (σ' := ⟨[(0, Iv r), (1, Iv (m.mod ^ n)), (2, Lv (wordZ m r n)), (3, mIv m), (4, .ref 2 0), (5, .ip [Nv k]), (6, .ref 3 0), (7, .ref 4 0), (11, .ref 1001 0), (12, .ref 1002 0)], [(1002, oZ 79 .u32 (iterZ m n r)), (1001, .var 81 [Bv ((lineZ m (wordZ m r n)).mul), Dv ((lineZ m (wordZ m r n)).mul), Bv ((lineZ m (wordZ m r n)).add), Dv ((lineZ m (wordZ m r n)).add), Bv ((lineZ m (wordZ m r n)).div), Dv ((lineZ m (wordZ m r n)).div)]), (9009, .pin [.ref 2 0, .ref 3 0, .ref 4 0] us), v2v, r0v F, v3v, r1v L, c4v m k]⟩) (Wk.sub ⟨rfl, rfl, rfl, rfl, rfl, rfl, rfl, rfl, rfl, rfl, trivial⟩ ⟨rfl, rfl, rfl, rfl, rfl, rfl, rfl, rfl, trivial⟩) ?_
   refine awp_wk (σ' := ⟨[(0, Iv r), (1, Iv (m.mod ^ n)), (2, Lv (wordZ m r n)), (3, mIv m), (4, .ref 2 0), (5, .ip [Nv k]), (6, .ref 3 0), (7, .ref 4 0), (11, .ip [Bv ((lineZ m (wordZ m r n)).mul), Dv ((lineZ m (wordZ m r n)).mul), Bv ((lineZ m (wordZ m r n)).add), Dv ((lineZ m (wordZ m r n)).add), Bv ((lineZ m (wordZ m r n)).div), Dv ((lineZ m (wordZ m r n)).div)]), (12, .ref 1002 0)], [(1002, oZ 79 .u32 (iterZ m n r)), (9009, .pin [.ref 2 0, .ref 3 0, .ref 4 0] us), v2v, r0v F, v3v, r1v L, c4v m k]⟩) (Wk.see (id := 1001) (t := 81) (cs := [Bv ((lineZ m (wordZ m r n)).mul), Dv ((lineZ m (wordZ m r n)).mul), Bv ((lineZ m (wordZ m r n)).add), Dv ((lineZ m (wordZ m r n)).add), Bv ((lineZ m (wordZ m r n)).div), Dv ((lineZ m (wordZ m r n)).div)]) rfl rfl) ?_
   refine awp_wk (σ' := ⟨[(0, Iv r), (1, Iv (m.mod ^ n)), (2, Lv (wordZ m r n)), (3, mIv m), (4, .ref 2 0), (5, .ip [Nv k]), (6, .ref 3 0), (7, .ref 4 0), (11, .ip [Bv ((lineZ m (wordZ m r n)).mul), Dv ((lineZ m (wordZ m r n)).mul), Bv ((lineZ m (wordZ m r n)).add), Dv ((lineZ m (wordZ m r n)).add), Bv ((lineZ m (wordZ m r n)).div), Dv ((lineZ m (wordZ m r n)).div)]), (12, .ip [bp ((iterZ m n r) < 0), .sl 1 (ns .u32 (digs (iterZ m n r).natAbs))])], [(9009, .pin [.ref 2 0, .ref 3 0, .ref 4 0] us), v2v, r0v F, v3v, r1v L, c4v m k]⟩) (Wk.see (id := 1002) (t := 79) (cs := [bp ((iterZ m n r) < 0), .sl 1 (ns .u32 (digs (iterZ m n r).natAbs))]) rfl rfl) ?_
   refine awp_region rfl ?_
   refine o_fieldIp gn f60_ rfl (by exact Nat.le_of_ble_eq_true rfl) ?_
   refine o_loadIS (Iv m.mod) gn f11_ rfl rfl ?_
   refine o_mv (Nv 0) rfl (aops_end (hK7 _ ?_))
   refine awp_block ?_
   refine awp_loopR (fun κ σ => ∃ (t : Nat), (t ≤ m.mod.toNat) ∧ (m.mod.toNat - t) = κ ∧ σ = ⟨[(0, Iv r), (1, Iv (m.mod ^ n)), (2, Lv (wordZ m r n)), (3, mIv m), (4, .ref 2 0), (5, .ip [Nv k]), (6, .ref 3 0), (7, .ref 4 0), (11, .ip [Bv ((lineZ m (wordZ m r n)).mul), Dv ((lineZ m (wordZ m r n)).mul), Bv ((lineZ m (wordZ m r n)).add), Dv ((lineZ m (wordZ m r n)).add), Bv ((lineZ m (wordZ m r n)).div), Dv ((lineZ m (wordZ m r n)).div)]), (12, .ip [bp ((iterZ m n r) < 0), .sl 1 (ns .u32 (digs (iterZ m n r).natAbs))]), (64, Iv m.mod), (65, Nv t)], [(9009, .pin [.ref 2 0, .ref 3 0, .ref 4 0] us), v2v, r0v (F ++ ((visU m e n r t).1)), v3v, r1v (L ++ ((visU m e n r t).2)), c4v m k]⟩) ⟨_, _, ⟨0, (by omega), rfl, rfl⟩, ?wk0⟩ ?rd0
   case wk0 =>
    exact Wk.sub ⟨rfl, rfl, rfl, rfl, rfl, rfl, rfl, rfl, rfl, rfl, rfl, (by rfl), trivial⟩ ⟨rfl, rfl, (by (exact row_gs' (List.append_nil _).symm)), rfl, (by (exact row_is (List.append_nil _).symm)), rfl, trivial⟩
   rintro κ _ ⟨t, ht, rfl, rfl⟩
   refine awp_seq fun K8 hK8 => awp_region rfl ?_
   refine o_lss (a := ((t : Nat) : Int)) (c := m.mod) gn rfl rfl ?_
   refine aops_end (hK8 _ (awp_seq fun K9 hK9 => ?_))
   refine awp_condQ (q := ((t : Nat) : Int) < m.mod) rfl (fun h3 => ?_) (fun h3 => ?_)
   ·have htm : t < m.mod.toNat := by omega
    obtain ⟨hq0, hq1⟩ := vis_rest hM hr0 hr1 htm
    have hpe := pow_le_of hM (j := n + 1) (k := k) (by omega)
    have hUl := visU_len hM e n r t
    have hB1 := visU_bd hde htm hUl.1 hFl
    have hB2 := visU_bd hde htm hUl.2 hLl
    have htl := small_len (z := ((t : Nat) : Int)) (by omega)
    have hml := len_mulZ (lineZ m (wordZ m r n)).mul ((t : Nat) : Int)
    have hmm : ((m.mod.toNat : Nat) : Int) = m.mod := Int.toNat_of_nonneg (by omega)
    have hpq : 0 < m.mod ^ (n + 1) := Int.pow_pos (by omega)
    have hps : m.mod ^ (n + 1) = m.mod ^ n * m.mod := Int.pow_succ _ _
    have hil2 := iter_len hM (r + ((t : Nat) : Int) * m.mod ^ n) n
    have htp := Int.mul_nonneg (show (0 : Int) ≤ ((t : Nat) : Int) by omega) (Int.le_of_lt hpp)
    have hil3 := small_len (z := r + ((t : Nat) : Int) * m.mod ^ n) (by omega)
    refine awp_skip (hK9 _ (awp_seq fun K10 hK10 => ?_))
    refine awp_block ?_
    refine awp_seq fun K11 hK11 => awp_region rfl (o_mv (Nv t) rfl (o_as (Nv t) rfl (aops_end (hK11 _ (awp_seq fun K12 hK12 => awp_regionD rfl ?_)))))
    refine o_loadIA [bp ((iterZ m n r) < 0), .sl 1 (ns .u32 (digs (iterZ m n r).natAbs))] gn f20_ rfl (Nat.le_of_ble_eq_true rfl) rfl ?_
    refine o_fieldIp gn f82_ rfl (by exact Nat.le_of_ble_eq_true rfl) ?_
    refine o_loadIA [Bv ((lineZ m (wordZ m r n)).mul), Dv ((lineZ m (wordZ m r n)).mul)] gn f20_ rfl (Nat.le_of_ble_eq_true rfl) rfl ?_
    refine o_mv (Nv t) rfl ?_
    refine o_ct (c_wOf ((t : Nat) : Int) (by omega) (by omega)) gn f46_ rfl ?_
    refine o_ct (c_wMul ((lineZ m (wordZ m r n)).mul) ((t : Nat) : Int) (by omega) (by omega)) gn f68_ rfl ?_
    refine o_ct (c_wAdd (iterZ m n r) (((lineZ m (wordZ m r n)).mul) * ((t : Nat) : Int)) (by omega) (by omega)) gn f40_ rfl ?_
    refine n_as (v' := (intW (iterZ m n (r + ((t : Nat) : Int) * m.mod ^ n)))) (by exact congrArg intW (vis_iter hM r _ n)) ?_
    refine o_fieldIp gn f60_ rfl (by exact Nat.le_of_ble_eq_true rfl) ?_
    refine o_loadIS (Iv m.mod) gn f11_ rfl rfl ?_
    refine n_as (v' := (Nv m.mod.toNat)) (nm_int (by omega)) ?_
    refine o_ct (c_wQR (iterZ m n (r + ((t : Nat) : Int) * m.mod ^ n)) m.mod.toNat (by omega) (by omega) (by omega)) gn f67_ rfl ?_
    refine o_mv (.tup [(intW ((iterZ m n (r + ((t : Nat) : Int) * m.mod ^ n)) / ((m.mod.toNat : Nat) : Int))), (Iv ((iterZ m n (r + ((t : Nat) : Int) * m.mod ^ n)) % ((m.mod.toNat : Nat) : Int)))]) rfl (o_extract (intW ((iterZ m n (r + ((t : Nat) : Int) * m.mod ^ n)) / ((m.mod.toNat : Nat) : Int))) gn rfl rfl (o_extract (Iv ((iterZ m n (r + ((t : Nat) : Int) * m.mod ^ n)) % ((m.mod.toNat : Nat) : Int))) gn rfl rfl ?_))
    refine n_as (v' := (Iv ((iterZ m n (r + ((t : Nat) : Int) * m.mod ^ n)) % m.mod))) (by exact congrArg (fun z => AV.lit (.int .i64 z)) (by rw [hmm])) ?_
    refine o_alloc 1004 [Fv, Zv] gn f15_ rfl rfl rfl ?_
    refine o_store [(1004, (oZ 79 .u32 ((iterZ m n (r + ((t : Nat) : Int) * m.mod ^ n)) / ((m.mod.toNat : Nat) : Int)))), (9009, .pin [.ref 2 0, .ref 3 0, .ref 4 0] us), v2v, r0v (F ++ ((visU m e n r t).1)), v3v, r1v (L ++ ((visU m e n r t).2)), c4v m k] gn f19_ rfl rfl rfl rfl rfl rfl ?_
    refine o_as (Iv ((iterZ m n (r + ((t : Nat) : Int) * m.mod ^ n)) % m.mod)) rfl ?_
    refine aops_end ⟨by kernel_rfl, ?_⟩
    refine hK12 _ ?_
    refine awp_regionSL 15 96 _ 46 [mIv m, .ref 2 0, .ip [Nv k], .ref 3 0, .ref 4 0] _ _ _ _ _ [(Iv (r + ((t : Nat) : Int) * m.mod ^ n)), Iv (m.mod ^ (n + 1)), (Lv (wordZ m (r + ((t : Nat) : Int) * m.mod ^ n) (n + 1))), mIv m, .ref 2 0, .ip [Nv k], .ref 3 0, .ref 4 0] (.tup []) [v2v, (20, (.row 40 6 (gcells cL ((F ++ ((visU m e n r t).1)) ++ ((visA m e (n + 1) (r + ((t : Nat) : Int) * m.mod ^ n)).1))))), v3v, (21, (.row 3 1 (is .i64 ((L ++ ((visU m e n r t).2)) ++ ((visA m e (n + 1) (r + ((t : Nat) : Int) * m.mod ^ n)).2))))), c4v m k, (9009, .pin [.ref 2 0, .ref 3 0, .ref 4 0] us)] rfl rfl rfl f141_ (by kernel_rfl) (by kernel_rfl) ?_
    refine o_loadS (.clo 46 [mIv m, .ref 2 0, .ip [Nv k], .ref 3 0, .ref 4 0]) gn f139_ rfl rfl rfl ?_
    refine o_mv (Iv r) rfl (o_mv (Nv t) rfl (o_mv (Iv (m.mod ^ n)) rfl ?_))
    refine o_mul (a := ((t : Nat) : Int)) (c := (m.mod ^ n)) gn rfl rfl (by exact wrap64 (by omega) (by omega)) ?_
    refine o_add (a := r) (c := (((t : Nat) : Int) * (m.mod ^ n))) gn rfl rfl (by exact wrap64 (by omega) (by omega)) ?_
    refine n_as (v' := (Iv (r + ((t : Nat) : Int) * m.mod ^ n))) (by exact rfl) ?_
    refine o_mv (Iv (m.mod ^ n)) rfl ?_
    refine o_fieldIp gn f60_ rfl (by exact Nat.le_of_ble_eq_true rfl) ?_
    refine o_loadIS (Iv m.mod) gn f11_ rfl rfl ?_
    refine o_mul (a := (m.mod ^ n)) (c := m.mod) gn rfl rfl (by exact wrap64 (by omega) (by omega)) ?_
    refine n_as (v' := (Iv (m.mod ^ (n + 1)))) (by exact congrArg (fun z => AV.lit (.int .i64 z)) (Int.pow_succ _ _).symm) ?_
    refine o_mv (Lv (wordZ m r n)) rfl ?_
    refine o_callM 701 [Lv (wordZ m r n)] gn f140_ rfl (c_clone (wordZ m r n) (by omega) (by omega)) rfl ?_
    refine o_mv (Iv ((iterZ m n (r + ((t : Nat) : Int) * m.mod ^ n)) % m.mod)) rfl ?_
    refine o_buildSlice 1005 (is .i64 ([(iterZ m n (r + ((t : Nat) : Int) * m.mod ^ n)) % m.mod])) [(0, [(Iv ((iterZ m n (r + ((t : Nat) : Int) * m.mod ^ n)) % m.mod))])] gn f10_ rfl f26_ rfl rfl rfl rfl rfl rfl rfl ?_
    refine i_append 1006 (wordZ m r n) ([(iterZ m n (r + ((t : Nat) : Int) * m.mod ^ n)) % m.mod]) [(1005, (.row 3 1 (is .i64 ([(iterZ m n (r + ((t : Nat) : Int) * m.mod ^ n)) % m.mod])))), (1004, (oZ 79 .u32 ((iterZ m n (r + ((t : Nat) : Int) * m.mod ^ n)) / ((m.mod.toNat : Nat) : Int)))), (9009, .pin [.ref 2 0, .ref 3 0, .ref 4 0] us), v2v, r0v (F ++ ((visU m e n r t).1)), v3v, r1v (L ++ ((visU m e n r t).2)), c4v m k] gn f10_ f26_ rfl rfl rfl rfl rfl (by simp only [List.length_append, List.length_cons, List.length_nil]; omega) (by decide) rfl rfl ?_
    refine aops_end ⟨by kernel_rfl, _, Wk.trans (Wk.freeze (id := 1006) (e := 3) (sz := 1) (cs := (is .i64 ((wordZ m r n) ++ ([(iterZ m n (r + ((t : Nat) : Int) * m.mod ^ n)) % m.mod])))) rfl) (Wk.trans (Wk.slot (i := 95) (y := (Lv (wordZ m (r + ((t : Nat) : Int) * m.mod ^ n) (n + 1)))) (AV.le_eq (by exact congrArg (fun l => AV.sl 1 (is .i64 l)) (vis_word hM r _ n)))) (Wk.sub (σ' := ⟨[(0, Iv r), (1, Iv (m.mod ^ n)), (2, Lv (wordZ m r n)), (3, mIv m), (4, .ref 2 0), (5, .ip [Nv k]), (6, .ref 3 0), (7, .ref 4 0), (11, .ip [Bv ((lineZ m (wordZ m r n)).mul), Dv ((lineZ m (wordZ m r n)).mul), Bv ((lineZ m (wordZ m r n)).add), Dv ((lineZ m (wordZ m r n)).add), Bv ((lineZ m (wordZ m r n)).div), Dv ((lineZ m (wordZ m r n)).div)]), (12, .ip [bp ((iterZ m n r) < 0), .sl 1 (ns .u32 (digs (iterZ m n r).natAbs))]), (64, Iv m.mod), (65, Nv t), (66, (bp (((t : Nat) : Int) < m.mod))), (67, Nv t), (14, Nv t), (69, intW (iterZ m n r)), (70, .ip [Bv ((lineZ m (wordZ m r n)).mul), Dv ((lineZ m (wordZ m r n)).mul), Bv ((lineZ m (wordZ m r n)).add), Dv ((lineZ m (wordZ m r n)).add), Bv ((lineZ m (wordZ m r n)).div), Dv ((lineZ m (wordZ m r n)).div)]), (71, .agg [Bv ((lineZ m (wordZ m r n)).mul), Dv ((lineZ m (wordZ m r n)).mul)]), (72, Nv t), (73, (intW ((t : Nat) : Int))), (74, (intW (((lineZ m (wordZ m r n)).mul) * ((t : Nat) : Int)))), (75, (intW (iterZ m n (r + ((t : Nat) : Int) * m.mod ^ n)))), (76, mIv m), (77, Nv m.mod.toNat), (78, (.tup [(intW ((iterZ m n (r + ((t : Nat) : Int) * m.mod ^ n)) / ((m.mod.toNat : Nat) : Int))), (Iv ((iterZ m n (r + ((t : Nat) : Int) * m.mod ^ n)) % ((m.mod.toNat : Nat) : Int)))])), (68, (.tup [(intW ((iterZ m n (r + ((t : Nat) : Int) * m.mod ^ n)) / ((m.mod.toNat : Nat) : Int))), (Iv ((iterZ m n (r + ((t : Nat) : Int) * m.mod ^ n)) % ((m.mod.toNat : Nat) : Int)))])), (79, (intW ((iterZ m n (r + ((t : Nat) : Int) * m.mod ^ n)) / ((m.mod.toNat : Nat) : Int)))), (80, (Iv ((iterZ m n (r + ((t : Nat) : Int) * m.mod ^ n)) % m.mod))), (16, (Iv ((iterZ m n (r + ((t : Nat) : Int) * m.mod ^ n)) % m.mod))), (81, .clo 46 [mIv m, .ref 2 0, .ip [Nv k], .ref 3 0, .ref 4 0]), (86, (Iv (r + ((t : Nat) : Int) * m.mod ^ n))), (90, Iv (m.mod ^ (n + 1))), (95, (Lv (wordZ m (r + ((t : Nat) : Int) * m.mod ^ n) (n + 1))))], [v2v, r0v (F ++ ((visU m e n r t).1)), v3v, r1v (L ++ ((visU m e n r t).2)), c4v m k, (9009, .pin [.ref 2 0, .ref 3 0, .ref 4 0] us)]⟩) ⟨rfl, rfl, rfl, rfl, rfl, rfl, rfl, rfl, rfl, rfl, rfl, rfl, rfl, rfl, rfl, rfl, rfl, rfl, rfl, rfl, rfl, rfl, rfl, rfl, rfl, rfl, rfl, rfl, rfl, rfl, rfl, rfl, rfl, trivial⟩ ⟨rfl, rfl, rfl, rfl, rfl, rfl, trivial⟩)), rfl, rfl, scalls_of_r (K := [2, 3, 4]) (m := [v2v, r0v (F ++ ((visU m e n r t).1)), v3v, r1v (L ++ ((visU m e n r t).2)), c4v m k]) (m' := [v2v, (20, (.row 40 6 (gcells cL ((F ++ ((visU m e n r t).1)) ++ ((visA m e (n + 1) (r + ((t : Nat) : Int) * m.mod ^ n)).1))))), v3v, (21, (.row 3 1 (is .i64 ((L ++ ((visU m e n r t).2)) ++ ((visA m e (n + 1) (r + ((t : Nat) : Int) * m.mod ^ n)).2))))), c4v m k]) (e := [(9009, .pin [.ref 2 0, .ref 3 0, .ref 4 0] us)]) (ih e (by omega) (n + 1) (r + ((t : Nat) : Int) * m.mod ^ n) (F ++ ((visU m e n r t).1)) (L ++ ((visU m e n r t).2)) (by omega) (by omega) hq0 hq1 (by simp only [List.length_append]; omega) (by simp only [List.length_append]; omega)) rfl rfl, ?_⟩
    refine hK10 _ (awp_region rfl ?_)
    refine n_add t 1 gn rfl rfl (by simp only [topOf]; omega) ?_
    refine o_mv (Nv (t + 1)) rfl (aops_end ?_)
    refine ⟨_, _, ?lt, ⟨t + 1, (by omega), rfl, rfl⟩, ?wk⟩
    case lt => omega
    case wk => exact Wk.sub ⟨rfl, rfl, rfl, rfl, rfl, rfl, rfl, rfl, rfl, rfl, rfl, (by rfl), trivial⟩ ⟨rfl, rfl, (by (exact row_gs' (List.append_assoc _ _ _))), rfl, (by (exact row_is (List.append_assoc _ _ _))), rfl, trivial⟩
   ·refine awp_exit ?_
    exact ⟨⟨[], [(9009, .pin [.ref 2 0, .ref 3 0, .ref 4 0] us), v2v, r0v (F ++ ((visA m d n r).1)), v3v, r1v (L ++ ((visA m d n r).2)), c4v m k]⟩, Wk.sub trivial ⟨rfl, rfl, (by (exact row_gs' (by rw [hme, show m.mod.toNat = t by omega]))), rfl, (by (exact row_is (by rw [hme, show m.mod.toNat = t by omega]))), rfl, trivial⟩, ⟨[], trivial, rfl, fun id ob h => keep_pin h rfl, rfl⟩⟩

theorem c_visit0 (m : MapM) (k : Nat) (hM : OkM m) (hk : k ≤ 16) (hpk : m.mod ^ k ≤ 65536) (d : Nat) (F : List Fal) (L : List Int) (hnd : d = k) (hd1 : 1 ≤ d) (hFl : F.length + m.mod.toNat ^ d ≤ 1000000) (hLl : L.length + m.mod.toNat ^ d ≤ 1000000) :
  RCalls cx 46 [Iv 0, Iv (m.mod ^ 0), Zv, mIv m, .ref 2 0, .ip [Nv k], .ref 3 0, .ref 4 0] [2, 3, 4] [v2v, r0v F, v3v, r1v L, c4v m k] (.tup []) [v2v, r0v (F ++ ((visA m d 0 0).1)), v3v, r1v (L ++ ((visA m d 0 0).2)), c4v m k] := by
 refine rcalls_of_s (scalls_of_awpB 9009 Tryz.func46 (c := _) rfl (Nat.le_of_ble_eq_true rfl) rfl rfl rfl (fun us => ?_)) rfl
 refine awp_late ?_
 show awp cx 98 _ (lateQ cx 98 (postS cx Tryz.f46 (.tup []) [v2v, r0v (F ++ ((visA m d 0 0).1)), v3v, r1v (L ++ ((visA m d 0 0).2)), c4v m k] 9009 [.ref 2 0, .ref 3 0, .ref 4 0] us)) ⟨[(0, Iv 0), (1, Iv (m.mod ^ 0)), (2, Zv), (3, mIv m), (4, .ref 2 0), (5, .ip [Nv k]), (6, .ref 3 0), (7, .ref 4 0)], [(9009, .pin [.ref 2 0, .ref 3 0, .ref 4 0] us), v2v, r0v F, v3v, r1v L, c4v m k]⟩
 have hr0 : (0 : Int) ≤ 0 := Int.le_refl _
 have hr1 : (0 : Int) < m.mod ^ 0 := by rw [Int.pow_zero]; decide
 have hf : ¬ fallN m 0 0 := fun e => absurd e.1 (by decide)
 obtain ⟨e, hde⟩ : ∃ e, d = e + 1 := ⟨d - 1, by omega⟩
 have hme := vis_more hf hde
 have hM2 := hM
 obtain ⟨o1, o2, o3, o4, o5⟩ := hM2
 have hpp : 0 < m.mod ^ 0 := Int.pow_pos (by omega)
 have hpn := pow_le_of hM (j := 0) (k := k) (by omega)
 have hW := wordZ_is hM 0 0
 have hWl := wordZ_len m 0 0
 obtain ⟨L1, L2, L3⟩ := line_len hM _ hW
 have hpd : 0 < m.mod.toNat ^ d := Nat.pow_pos (by omega)
 have hrl := small_len (z := 0) (by omega)
 have hil := iter_len hM 0 0
 have hdv : 0 < (lineZ m (wordZ m 0 0)).div := by rw [lineZ_div]; exact Int.pow_pos (by omega)
 have hm0 := len_mulZ (lineZ m (wordZ m 0 0)).mul 0
 have ha0 := len_addZ ((lineZ m (wordZ m 0 0)).mul * 0) (lineZ m (wordZ m 0 0)).add
 refine awp_seq fun K0 hK0 => awp_region rfl ?_
 refine o_loadIA [Iv m.mod, Lv m.mul, Lv m.add] gn f64_ rfl (Nat.le_of_ble_eq_true rfl) rfl ?_
 refine o_mv Zv rfl ?_
 refine o_callG [] [mapV m, Zv] _ (linW (lineZ m (wordZ m 0 0))) [(9009, .pin [.ref 2 0, .ref 3 0, .ref 4 0] us), v2v, r0v F, v3v, r1v L, c4v m k] gn f133_ rfl trivial rfl rfl (LeL.cons (AV.le_refl _) (LeL.cons (AV.le_nil' (by decide) rfl) LeL.nil)) (c_oOf m [] hM (fun _ h => by simp at h) (by decide)) rfl ?_
 refine o_alloc 1001 [Fv, Zv, Fv, Zv, Fv, Zv] gn f78_ rfl rfl rfl ?_
 refine o_store [(1001, .var 81 [Bv ((lineZ m (wordZ m 0 0)).mul), Dv ((lineZ m (wordZ m 0 0)).mul), Bv ((lineZ m (wordZ m 0 0)).add), Dv ((lineZ m (wordZ m 0 0)).add), Bv ((lineZ m (wordZ m 0 0)).div), Dv ((lineZ m (wordZ m 0 0)).div)]), (9009, .pin [.ref 2 0, .ref 3 0, .ref 4 0] us), v2v, r0v F, v3v, r1v L, c4v m k] gn f80_ rfl rfl rfl rfl rfl rfl ?_
 refine aops_end (hK0 _ (awp_seq fun K1 hK1 => ?_))
 refine awp_block ?_
 refine awp_seq fun K2 hK2 => awp_region rfl (o_mv Zv rfl ?_)
 refine o_lenNil gn f2_ rfl ?_
 refine n_gtr 0 0 gn rfl rfl ?_
 refine n_as (v' := Fv) (by exact bpn (by decide)) ?_
 refine o_mv Fv rfl (o_skip rfl rfl rfl (o_skip rfl rfl rfl (o_skip rfl rfl rfl (o_skip rfl rfl rfl (o_skip rfl rfl rfl (o_skip rfl rfl rfl ?_))))))
 refine o_pickF Fv gn rfl rfl rfl ?_
 refine o_as Fv rfl (aops_end (hK2 _ ?_))
 refine awp_condB (b := false) rfl (fun hh => absurd (hh.symm.trans rfl) (by decide)) (fun _ => ?_)
 refine awp_seq fun K3 hK3 => awp_region rfl (o_mv Zv rfl ?_)
 refine o_lenNil gn f2_ rfl ?_
 refine o_loadIS (Nv k) gn f11_ rfl rfl ?_
 refine n_eql 0 k gn rfl rfl ?_
 refine n_as (v' := Fv) (by exact bpn (by omega)) ?_
 refine o_as Fv rfl (aops_end (hK3 _ ?_))
 refine awp_condB (b := false) rfl (fun hh => absurd (hh.symm.trans rfl) (by decide)) (fun _ => ?_)
 refine awp_skip (hK1 _ (awp_seq fun K4 hK4 => awp_regionD rfl ?_))
 refine o_fieldRef 0 gn f82_ rfl rfl ?_
 refine o_loadA [Bv ((lineZ m (wordZ m 0 0)).mul), Dv ((lineZ m (wordZ m 0 0)).mul)] gn f20_ rfl rfl rfl rfl rfl ?_
 refine o_mv (Iv 0) rfl ?_
 refine o_ct (c_wOf 0 (by decide) (by decide)) gn f46_ rfl ?_
 refine o_ct (c_wMul ((lineZ m (wordZ m 0 0)).mul) 0 (by omega) (by omega)) gn f68_ rfl ?_
 refine o_fieldRef 2 gn f83_ rfl rfl ?_
 refine o_loadA [Bv ((lineZ m (wordZ m 0 0)).add), Dv ((lineZ m (wordZ m 0 0)).add)] gn f20_ rfl rfl rfl rfl rfl ?_
 refine o_ct (c_wAdd (((lineZ m (wordZ m 0 0)).mul) * 0) ((lineZ m (wordZ m 0 0)).add) (by omega) (by omega)) gn f40_ rfl ?_
 refine o_fieldRef 4 gn f84_ rfl rfl ?_
 refine o_loadA [Bv ((lineZ m (wordZ m 0 0)).div), Dv ((lineZ m (wordZ m 0 0)).div)] gn f20_ rfl rfl rfl rfl rfl ?_
 refine o_ct (c_wDivide ((((lineZ m (wordZ m 0 0)).mul) * 0) + ((lineZ m (wordZ m 0 0)).add)) ((lineZ m (wordZ m 0 0)).div) (by omega) (by omega) (by omega)) gn f105_ rfl ?_
 refine o_mv (.tup [intW (((((lineZ m (wordZ m 0 0)).mul) * 0) + ((lineZ m (wordZ m 0 0)).add)) / ((lineZ m (wordZ m 0 0)).div)), intW (((((lineZ m (wordZ m 0 0)).mul) * 0) + ((lineZ m (wordZ m 0 0)).add)) % ((lineZ m (wordZ m 0 0)).div))]) rfl (o_extract (intW (((((lineZ m (wordZ m 0 0)).mul) * 0) + ((lineZ m (wordZ m 0 0)).add)) / ((lineZ m (wordZ m 0 0)).div))) gn rfl rfl ?_)
 refine n_as (v' := (intW (iterZ m 0 0))) (by exact congrArg intW (vis_a hM 0 0)) ?_
 refine o_extract (intW (((((lineZ m (wordZ m 0 0)).mul) * 0) + ((lineZ m (wordZ m 0 0)).add)) % ((lineZ m (wordZ m 0 0)).div))) gn rfl rfl ?_
 refine o_alloc 1002 [Fv, Zv] gn f15_ rfl rfl rfl ?_
 refine o_alloc 1003 [Fv, Zv] gn f15_ rfl rfl rfl ?_
 refine o_store [(1003, .var 79 [Fv, Zv]), (1002, oZ 79 .u32 (iterZ m 0 0)), (1001, .var 81 [Bv ((lineZ m (wordZ m 0 0)).mul), Dv ((lineZ m (wordZ m 0 0)).mul), Bv ((lineZ m (wordZ m 0 0)).add), Dv ((lineZ m (wordZ m 0 0)).add), Bv ((lineZ m (wordZ m 0 0)).div), Dv ((lineZ m (wordZ m 0 0)).div)]), (9009, .pin [.ref 2 0, .ref 3 0, .ref 4 0] us), v2v, r0v F, v3v, r1v L, c4v m k] gn f19_ rfl rfl rfl rfl rfl rfl ?_
 refine o_store [(1003, oZ 79 .u32 (((((lineZ m (wordZ m 0 0)).mul) * 0) + ((lineZ m (wordZ m 0 0)).add)) % ((lineZ m (wordZ m 0 0)).div))), (1002, oZ 79 .u32 (iterZ m 0 0)), (1001, .var 81 [Bv ((lineZ m (wordZ m 0 0)).mul), Dv ((lineZ m (wordZ m 0 0)).mul), Bv ((lineZ m (wordZ m 0 0)).add), Dv ((lineZ m (wordZ m 0 0)).add), Bv ((lineZ m (wordZ m 0 0)).div), Dv ((lineZ m (wordZ m 0 0)).div)]), (9009, .pin [.ref 2 0, .ref 3 0, .ref 4 0] us), v2v, r0v F, v3v, r1v L, c4v m k] gn f19_ rfl rfl rfl rfl rfl rfl ?_
 refine aops_end ⟨by kernel_rfl, ?_⟩
 refine hK4 _ (awp_seq fun K5 hK5 => ?_)
 refine awp_wk (σ' := ⟨[(0, Iv 0), (1, Iv (m.mod ^ 0)), (2, Zv), (3, mIv m), (4, .ref 2 0), (5, .ip [Nv k]), (6, .ref 3 0), (7, .ref 4 0), (11, .ref 1001 0), (12, .ref 1002 0)], [(1002, oZ 79 .u32 (iterZ m 0 0)), (1001, .var 81 [Bv ((lineZ m (wordZ m 0 0)).mul), Dv ((lineZ m (wordZ m 0 0)).mul), Bv ((lineZ m (wordZ m 0 0)).add), Dv ((lineZ m (wordZ m 0 0)).add), Bv ((lineZ m (wordZ m 0 0)).div), Dv ((lineZ m (wordZ m 0 0)).div)]), (9009, .pin [.ref 2 0, .ref 3 0, .ref 4 0] us), v2v, r0v F, v3v, r1v L, c4v m k]⟩) (Wk.sub ⟨rfl, rfl, rfl, rfl, rfl, rfl, rfl, rfl, rfl, rfl, trivial⟩ ⟨rfl, rfl, rfl, rfl, rfl, rfl, rfl, rfl, trivial⟩) ?_
 refine awp_wk (σ' := ⟨[(0, Iv 0), (1, Iv (m.mod ^ 0)), (2, Zv), (3, mIv m), (4, .ref 2 0), (5, .ip [Nv k]), (6, .ref 3 0), (7, .ref 4 0), (11, .ip [Bv ((lineZ m (wordZ m 0 0)).mul), Dv ((lineZ m (wordZ m 0 0)).mul), Bv ((lineZ m (wordZ m 0 0)).add), Dv ((lineZ m (wordZ m 0 0)).add), Bv ((lineZ m (wordZ m 0 0)).div), Dv ((lineZ m (wordZ m 0 0)).div)]), (12, .ref 1002 0)], [(1002, oZ 79 .u32 (iterZ m 0 0)), (9009, .pin [.ref 2 0, .ref 3 0, .ref 4 0] us), v2v, r0v F, v3v, r1v L, c4v m k]⟩) (Wk.see (id := 1001) (t := 81) (cs := [Bv ((lineZ m (wordZ m 0 0)).mul), Dv ((lineZ m (wordZ m 0 0)).mul), Bv ((lineZ m (wordZ m 0 0)).add), Dv ((lineZ m (wordZ m 0 0)).add), Bv ((lineZ m (wordZ m 0 0)).div), Dv ((lineZ m (wordZ m 0 0)).div)]) rfl rfl) ?_
 refine awp_wk (σ' := ⟨[(0, Iv 0), (1, Iv (m.mod ^ 0)), (2, Zv), (3, mIv m), (4, .ref 2 0), (5, .ip [Nv k]), (6, .ref 3 0), (7, .ref 4 0), (11, .ip [Bv ((lineZ m (wordZ m 0 0)).mul), Dv ((lineZ m (wordZ m 0 0)).mul), Bv ((lineZ m (wordZ m 0 0)).add), Dv ((lineZ m (wordZ m 0 0)).add), Bv ((lineZ m (wordZ m 0 0)).div), Dv ((lineZ m (wordZ m 0 0)).div)]), (12, .ip [bp ((iterZ m 0 0) < 0), .sl 1 (ns .u32 (digs (iterZ m 0 0).natAbs))])], [(9009, .pin [.ref 2 0, .ref 3 0, .ref 4 0] us), v2v, r0v F, v3v, r1v L, c4v m k]⟩) (Wk.see (id := 1002) (t := 79) (cs := [bp ((iterZ m 0 0) < 0), .sl 1 (ns .u32 (digs (iterZ m 0 0).natAbs))]) rfl rfl) ?_
 refine awp_region rfl ?_
 refine o_fieldIp gn f60_ rfl (by exact Nat.le_of_ble_eq_true rfl) ?_
 refine o_loadIS (Iv m.mod) gn f11_ rfl rfl ?_
 refine o_mv (Nv 0) rfl (aops_end (hK5 _ ?_))
 refine awp_block ?_
 refine awp_loopR (fun κ σ => ∃ (t : Nat), (t ≤ m.mod.toNat) ∧ (m.mod.toNat - t) = κ ∧ σ = ⟨[(0, Iv 0), (1, Iv (m.mod ^ 0)), (2, Zv), (3, mIv m), (4, .ref 2 0), (5, .ip [Nv k]), (6, .ref 3 0), (7, .ref 4 0), (11, .ip [Bv ((lineZ m (wordZ m 0 0)).mul), Dv ((lineZ m (wordZ m 0 0)).mul), Bv ((lineZ m (wordZ m 0 0)).add), Dv ((lineZ m (wordZ m 0 0)).add), Bv ((lineZ m (wordZ m 0 0)).div), Dv ((lineZ m (wordZ m 0 0)).div)]), (12, .ip [bp ((iterZ m 0 0) < 0), .sl 1 (ns .u32 (digs (iterZ m 0 0).natAbs))]), (64, Iv m.mod), (65, Nv t)], [(9009, .pin [.ref 2 0, .ref 3 0, .ref 4 0] us), v2v, r0v (F ++ ((visU m e 0 0 t).1)), v3v, r1v (L ++ ((visU m e 0 0 t).2)), c4v m k]⟩) ⟨_, _, ⟨0, (by omega), rfl, rfl⟩, ?wk0⟩ ?rd0
 case wk0 =>
  exact Wk.sub ⟨rfl, rfl, rfl, rfl, rfl, rfl, rfl, rfl, rfl, rfl, rfl, (by rfl), trivial⟩ ⟨rfl, rfl, (by (exact row_gs' (List.append_nil _).symm)), rfl, (by (exact row_is (List.append_nil _).symm)), rfl, trivial⟩
 rintro κ _ ⟨t, ht, rfl, rfl⟩
 refine awp_seq fun K6 hK6 => awp_region rfl ?_
 refine o_lss (a := ((t : Nat) : Int)) (c := m.mod) gn rfl rfl ?_
 refine aops_end (hK6 _ (awp_seq fun K7 hK7 => ?_))
 refine awp_condQ (q := ((t : Nat) : Int) < m.mod) rfl (fun h1 => ?_) (fun h1 => ?_)
 ·have htm : t < m.mod.toNat := by omega
  obtain ⟨hq0, hq1⟩ := vis_rest hM hr0 hr1 htm
  have hpe := pow_le_of hM (j := 0 + 1) (k := k) (by omega)
  have hUl := visU_len hM e 0 0 t
  have hB1 := visU_bd hde htm hUl.1 hFl
  have hB2 := visU_bd hde htm hUl.2 hLl
  have htl := small_len (z := ((t : Nat) : Int)) (by omega)
  have hml := len_mulZ (lineZ m (wordZ m 0 0)).mul ((t : Nat) : Int)
  have hmm : ((m.mod.toNat : Nat) : Int) = m.mod := Int.toNat_of_nonneg (by omega)
  have hpq : 0 < m.mod ^ (0 + 1) := Int.pow_pos (by omega)
  have hps : m.mod ^ (0 + 1) = m.mod ^ 0 * m.mod := Int.pow_succ _ _
  have hil2 := iter_len hM (0 + ((t : Nat) : Int) * m.mod ^ 0) 0
  have htp := Int.mul_nonneg (show (0 : Int) ≤ ((t : Nat) : Int) by omega) (Int.le_of_lt hpp)
  have hil3 := small_len (z := 0 + ((t : Nat) : Int) * m.mod ^ 0) (by omega)
  refine awp_skip (hK7 _ (awp_seq fun K8 hK8 => ?_))
  refine awp_block ?_
  refine awp_seq fun K9 hK9 => awp_region rfl (o_mv (Nv t) rfl (o_as (Nv t) rfl (aops_end (hK9 _ (awp_seq fun K10 hK10 => awp_regionD rfl ?_)))))
  refine o_loadIA [bp ((iterZ m 0 0) < 0), .sl 1 (ns .u32 (digs (iterZ m 0 0).natAbs))] gn f20_ rfl (Nat.le_of_ble_eq_true rfl) rfl ?_
  refine o_fieldIp gn f82_ rfl (by exact Nat.le_of_ble_eq_true rfl) ?_
  refine o_loadIA [Bv ((lineZ m (wordZ m 0 0)).mul), Dv ((lineZ m (wordZ m 0 0)).mul)] gn f20_ rfl (Nat.le_of_ble_eq_true rfl) rfl ?_
  refine o_mv (Nv t) rfl ?_
  refine o_ct (c_wOf ((t : Nat) : Int) (by omega) (by omega)) gn f46_ rfl ?_
  refine o_ct (c_wMul ((lineZ m (wordZ m 0 0)).mul) ((t : Nat) : Int) (by omega) (by omega)) gn f68_ rfl ?_
  refine o_ct (c_wAdd (iterZ m 0 0) (((lineZ m (wordZ m 0 0)).mul) * ((t : Nat) : Int)) (by omega) (by omega)) gn f40_ rfl ?_
  refine n_as (v' := (intW (iterZ m 0 (0 + ((t : Nat) : Int) * m.mod ^ 0)))) (by exact congrArg intW (vis_iter hM 0 _ 0)) ?_
  refine o_fieldIp gn f60_ rfl (by exact Nat.le_of_ble_eq_true rfl) ?_
  refine o_loadIS (Iv m.mod) gn f11_ rfl rfl ?_
  refine n_as (v' := (Nv m.mod.toNat)) (nm_int (by omega)) ?_
  refine o_ct (c_wQR (iterZ m 0 (0 + ((t : Nat) : Int) * m.mod ^ 0)) m.mod.toNat (by omega) (by omega) (by omega)) gn f67_ rfl ?_
  refine o_mv (.tup [(intW ((iterZ m 0 (0 + ((t : Nat) : Int) * m.mod ^ 0)) / ((m.mod.toNat : Nat) : Int))), (Iv ((iterZ m 0 (0 + ((t : Nat) : Int) * m.mod ^ 0)) % ((m.mod.toNat : Nat) : Int)))]) rfl (o_extract (intW ((iterZ m 0 (0 + ((t : Nat) : Int) * m.mod ^ 0)) / ((m.mod.toNat : Nat) : Int))) gn rfl rfl (o_extract (Iv ((iterZ m 0 (0 + ((t : Nat) : Int) * m.mod ^ 0)) % ((m.mod.toNat : Nat) : Int))) gn rfl rfl ?_))
  refine n_as (v' := (Iv ((iterZ m 0 (0 + ((t : Nat) : Int) * m.mod ^ 0)) % m.mod))) (by exact congrArg (fun z => AV.lit (.int .i64 z)) (by rw [hmm])) ?_
  refine o_alloc 1004 [Fv, Zv] gn f15_ rfl rfl rfl ?_
  refine o_store [(1004, (oZ 79 .u32 ((iterZ m 0 (0 + ((t : Nat) : Int) * m.mod ^ 0)) / ((m.mod.toNat : Nat) : Int)))), (9009, .pin [.ref 2 0, .ref 3 0, .ref 4 0] us), v2v, r0v (F ++ ((visU m e 0 0 t).1)), v3v, r1v (L ++ ((visU m e 0 0 t).2)), c4v m k] gn f19_ rfl rfl rfl rfl rfl rfl ?_
  refine o_as (Iv ((iterZ m 0 (0 + ((t : Nat) : Int) * m.mod ^ 0)) % m.mod)) rfl ?_
  refine aops_end ⟨by kernel_rfl, ?_⟩
  refine hK10 _ ?_
  refine awp_regionSL 15 96 _ 46 [mIv m, .ref 2 0, .ip [Nv k], .ref 3 0, .ref 4 0] _ _ _ _ _ [(Iv (0 + ((t : Nat) : Int) * m.mod ^ 0)), Iv (m.mod ^ (0 + 1)), (Lv (wordZ m (0 + ((t : Nat) : Int) * m.mod ^ 0) (0 + 1))), mIv m, .ref 2 0, .ip [Nv k], .ref 3 0, .ref 4 0] (.tup []) [v2v, (20, (.row 40 6 (gcells cL ((F ++ ((visU m e 0 0 t).1)) ++ ((visA m e (0 + 1) (0 + ((t : Nat) : Int) * m.mod ^ 0)).1))))), v3v, (21, (.row 3 1 (is .i64 ((L ++ ((visU m e 0 0 t).2)) ++ ((visA m e (0 + 1) (0 + ((t : Nat) : Int) * m.mod ^ 0)).2))))), c4v m k, (9009, .pin [.ref 2 0, .ref 3 0, .ref 4 0] us)] rfl rfl rfl f141_ (by kernel_rfl) (by kernel_rfl) ?_
  refine o_loadS (.clo 46 [mIv m, .ref 2 0, .ip [Nv k], .ref 3 0, .ref 4 0]) gn f139_ rfl rfl rfl ?_
  refine o_mv (Iv 0) rfl (o_mv (Nv t) rfl (o_mv (Iv (m.mod ^ 0)) rfl ?_))
  refine o_mul (a := ((t : Nat) : Int)) (c := (m.mod ^ 0)) gn rfl rfl (by exact wrap64 (by omega) (by omega)) ?_
  refine o_add (a := 0) (c := (((t : Nat) : Int) * (m.mod ^ 0))) gn rfl rfl (by exact wrap64 (by omega) (by omega)) ?_
  refine n_as (v' := (Iv (0 + ((t : Nat) : Int) * m.mod ^ 0))) (by exact rfl) ?_
  refine o_mv (Iv (m.mod ^ 0)) rfl ?_
  refine o_fieldIp gn f60_ rfl (by exact Nat.le_of_ble_eq_true rfl) ?_
  refine o_loadIS (Iv m.mod) gn f11_ rfl rfl ?_
  refine o_mul (a := (m.mod ^ 0)) (c := m.mod) gn rfl rfl (by exact wrap64 (by omega) (by omega)) ?_
  refine n_as (v' := (Iv (m.mod ^ (0 + 1)))) (by exact congrArg (fun z => AV.lit (.int .i64 z)) (Int.pow_succ _ _).symm) ?_
  refine o_mv Zv rfl ?_
  refine o_callG [] [Zv] _ Zv [(1004, (oZ 79 .u32 ((iterZ m 0 (0 + ((t : Nat) : Int) * m.mod ^ 0)) / ((m.mod.toNat : Nat) : Int)))), (9009, .pin [.ref 2 0, .ref 3 0, .ref 4 0] us), v2v, r0v (F ++ ((visU m e 0 0 t).1)), v3v, r1v (L ++ ((visU m e 0 0 t).2)), c4v m k] gn f140_ rfl trivial rfl rfl (LeL.cons (AV.le_refl _) LeL.nil) c_clone0 rfl ?_
  refine o_mv (Iv ((iterZ m 0 (0 + ((t : Nat) : Int) * m.mod ^ 0)) % m.mod)) rfl ?_
  refine o_buildSlice 1005 (is .i64 ([(iterZ m 0 (0 + ((t : Nat) : Int) * m.mod ^ 0)) % m.mod])) [(0, [(Iv ((iterZ m 0 (0 + ((t : Nat) : Int) * m.mod ^ 0)) % m.mod))])] gn f10_ rfl f26_ rfl rfl rfl rfl rfl rfl rfl ?_
  refine o_appendNil 1006 (is .i64 ([(iterZ m 0 (0 + ((t : Nat) : Int) * m.mod ^ 0)) % m.mod])) [1005] gn f10_ rfl f26_ rfl rfl (.inr ⟨1005, _, rfl, rfl, rfl⟩) (by simp [is]) (by simp [is]) rfl ?_
  refine aops_end ⟨by kernel_rfl, _, Wk.trans (Wk.freeze (id := 1006) (e := 3) (sz := 1) (cs := (is .i64 ([(iterZ m 0 (0 + ((t : Nat) : Int) * m.mod ^ 0)) % m.mod]))) rfl) (Wk.trans (Wk.slot (i := 95) (y := (Lv (wordZ m (0 + ((t : Nat) : Int) * m.mod ^ 0) (0 + 1)))) (AV.le_eq (by exact congrArg (fun l => AV.sl 1 (is .i64 l)) (vis_word hM 0 _ 0)))) (Wk.sub (σ' := ⟨[(0, Iv 0), (1, Iv (m.mod ^ 0)), (2, Zv), (3, mIv m), (4, .ref 2 0), (5, .ip [Nv k]), (6, .ref 3 0), (7, .ref 4 0), (11, .ip [Bv ((lineZ m (wordZ m 0 0)).mul), Dv ((lineZ m (wordZ m 0 0)).mul), Bv ((lineZ m (wordZ m 0 0)).add), Dv ((lineZ m (wordZ m 0 0)).add), Bv ((lineZ m (wordZ m 0 0)).div), Dv ((lineZ m (wordZ m 0 0)).div)]), (12, .ip [bp ((iterZ m 0 0) < 0), .sl 1 (ns .u32 (digs (iterZ m 0 0).natAbs))]), (64, Iv m.mod), (65, Nv t), (66, (bp (((t : Nat) : Int) < m.mod))), (67, Nv t), (14, Nv t), (69, intW (iterZ m 0 0)), (70, .ip [Bv ((lineZ m (wordZ m 0 0)).mul), Dv ((lineZ m (wordZ m 0 0)).mul), Bv ((lineZ m (wordZ m 0 0)).add), Dv ((lineZ m (wordZ m 0 0)).add), Bv ((lineZ m (wordZ m 0 0)).div), Dv ((lineZ m (wordZ m 0 0)).div)]), (71, .agg [Bv ((lineZ m (wordZ m 0 0)).mul), Dv ((lineZ m (wordZ m 0 0)).mul)]), (72, Nv t), (73, (intW ((t : Nat) : Int))), (74, (intW (((lineZ m (wordZ m 0 0)).mul) * ((t : Nat) : Int)))), (75, (intW (iterZ m 0 (0 + ((t : Nat) : Int) * m.mod ^ 0)))), (76, mIv m), (77, Nv m.mod.toNat), (78, (.tup [(intW ((iterZ m 0 (0 + ((t : Nat) : Int) * m.mod ^ 0)) / ((m.mod.toNat : Nat) : Int))), (Iv ((iterZ m 0 (0 + ((t : Nat) : Int) * m.mod ^ 0)) % ((m.mod.toNat : Nat) : Int)))])), (68, (.tup [(intW ((iterZ m 0 (0 + ((t : Nat) : Int) * m.mod ^ 0)) / ((m.mod.toNat : Nat) : Int))), (Iv ((iterZ m 0 (0 + ((t : Nat) : Int) * m.mod ^ 0)) % ((m.mod.toNat : Nat) : Int)))])), (79, (intW ((iterZ m 0 (0 + ((t : Nat) : Int) * m.mod ^ 0)) / ((m.mod.toNat : Nat) : Int)))), (80, (Iv ((iterZ m 0 (0 + ((t : Nat) : Int) * m.mod ^ 0)) % m.mod))), (16, (Iv ((iterZ m 0 (0 + ((t : Nat) : Int) * m.mod ^ 0)) % m.mod))), (81, .clo 46 [mIv m, .ref 2 0, .ip [Nv k], .ref 3 0, .ref 4 0]), (86, (Iv (0 + ((t : Nat) : Int) * m.mod ^ 0))), (90, Iv (m.mod ^ (0 + 1))), (95, (Lv (wordZ m (0 + ((t : Nat) : Int) * m.mod ^ 0) (0 + 1))))], [v2v, r0v (F ++ ((visU m e 0 0 t).1)), v3v, r1v (L ++ ((visU m e 0 0 t).2)), c4v m k, (9009, .pin [.ref 2 0, .ref 3 0, .ref 4 0] us)]⟩) ⟨rfl, rfl, rfl, rfl, rfl, rfl, rfl, rfl, rfl, rfl, rfl, rfl, rfl, rfl, rfl, rfl, rfl, rfl, rfl, rfl, rfl, rfl, rfl, rfl, rfl, rfl, rfl, rfl, rfl, rfl, rfl, rfl, rfl, trivial⟩ ⟨rfl, rfl, rfl, rfl, rfl, rfl, trivial⟩)), rfl, rfl, scalls_of_r (K := [2, 3, 4]) (m := [v2v, r0v (F ++ ((visU m e 0 0 t).1)), v3v, r1v (L ++ ((visU m e 0 0 t).2)), c4v m k]) (m' := [v2v, (20, (.row 40 6 (gcells cL ((F ++ ((visU m e 0 0 t).1)) ++ ((visA m e (0 + 1) (0 + ((t : Nat) : Int) * m.mod ^ 0)).1))))), v3v, (21, (.row 3 1 (is .i64 ((L ++ ((visU m e 0 0 t).2)) ++ ((visA m e (0 + 1) (0 + ((t : Nat) : Int) * m.mod ^ 0)).2))))), c4v m k]) (e := [(9009, .pin [.ref 2 0, .ref 3 0, .ref 4 0] us)]) (c_visit m k hM hk hpk e (0 + 1) (0 + ((t : Nat) : Int) * m.mod ^ 0) (F ++ ((visU m e 0 0 t).1)) (L ++ ((visU m e 0 0 t).2)) (by omega) (by omega) hq0 hq1 (by simp only [List.length_append]; omega) (by simp only [List.length_append]; omega)) rfl rfl, ?_⟩
  refine hK8 _ (awp_region rfl ?_)
  refine n_add t 1 gn rfl rfl (by simp only [topOf]; omega) ?_
  refine o_mv (Nv (t + 1)) rfl (aops_end ?_)
  refine ⟨_, _, ?lt, ⟨t + 1, (by omega), rfl, rfl⟩, ?wk⟩
  case lt => omega
  case wk => exact Wk.sub ⟨rfl, rfl, rfl, rfl, rfl, rfl, rfl, rfl, rfl, rfl, rfl, (by rfl), trivial⟩ ⟨rfl, rfl, (by (exact row_gs' (List.append_assoc _ _ _))), rfl, (by (exact row_is (List.append_assoc _ _ _))), rfl, trivial⟩
 ·refine awp_exit ?_
  exact ⟨⟨[], [(9009, .pin [.ref 2 0, .ref 3 0, .ref 4 0] us), v2v, r0v (F ++ ((visA m d 0 0).1)), v3v, r1v (L ++ ((visA m d 0 0).2)), c4v m k]⟩, Wk.sub trivial ⟨rfl, rfl, (by (exact row_gs' (by rw [hme, show m.mod.toNat = t by omega]))), rfl, (by (exact row_is (by rw [hme, show m.mod.toNat = t by omega]))), rfl, trivial⟩, ⟨[], trivial, rfl, fun id ob h => keep_pin h rfl, rfl⟩⟩

end Go.Proofs.YtjbaamfahkjhgaaGreatDoor

namespace Go.Mth
open Go Go.Ab
def sieF (m : MapM) (k : Nat) : List Fal := srt (fun x : Fal => x.steps) (srt (fun x : Fal => x.rest) (visA m k 0 0).1)
def sieL (m : MapM) (k : Nat) : List Int := srt (fun x : Int => x) (visA m k 0 0).2
theorem toNat_pow {m : MapM} (hM : OkM m) {k : Nat} (h : m.mod ^ k ≤ 65536) : m.mod.toNat ^ k ≤ 65536 := by
 have h0 := hM.1
 have e : ((m.mod.toNat : Nat) : Int) = m.mod := Int.toNat_of_nonneg (by omega)
 have h1 : ((m.mod.toNat ^ k : Nat) : Int) = m.mod ^ k := by rw [Int.natCast_pow, e]
 omega
theorem chk_nat {m : MapM} (hM : OkM m) {k : Int} (hk : mayS m k) : chkE m k = 0 := chk_0 (okM_iff.2 hM) hk
theorem okM_col : OkM (kinM 3 1) := okM_iff.1 okM_ex
theorem free_col : freeM (kinM 3 1) := fun i hi => by
 have hi : i < 2 := hi
 have : i = 0 ∨ i = 1 := by omega
 rcases this with rfl | rfl <;> decide
theorem may_col3 : mayS (kinM 3 1) ((3 : Nat) : Int) := ⟨free_col, by decide, by decide⟩
theorem t0 : txt 0 = ⟨#[48]⟩ := by simp [txt, txtL, decs, strN]; rfl
theorem t1 : txt 1 = ⟨#[49]⟩ := by simp [txt, txtL, decs, strN]; rfl
theorem t2 : txt 2 = ⟨#[50]⟩ := by simp [txt, txtL, decs, strN]; rfl
theorem t3 : txt 3 = ⟨#[51]⟩ := by simp [txt, txtL, decs, strN]; rfl
theorem t4 : txt 4 = ⟨#[52]⟩ := by simp [txt, txtL, decs, strN]; rfl
theorem t5 : txt 5 = ⟨#[53]⟩ := by simp [txt, txtL, decs, strN]; rfl
theorem t9 : txt 9 = ⟨#[57]⟩ := by simp [txt, txtL, decs, strN]; rfl
def ex1 : Fal := ⟨1, 0, ⟨#[49]⟩, ⟨#[48]⟩, ⟨#[50]⟩, ⟨#[48]⟩⟩
def ex2 : Fal := ⟨2, 1, ⟨#[51]⟩, ⟨#[49]⟩, ⟨#[52]⟩, ⟨#[49]⟩⟩
def ex3 : Fal := ⟨4, 3, ⟨#[57]⟩, ⟨#[53]⟩, ⟨#[49, 54]⟩, ⟨#[48]⟩⟩
theorem ex_vis : visA (kinM 3 1) 3 0 0 = ([falO 1 0 ⟨1, 0, 2⟩, falO 2 1 ⟨3, 1, 4⟩], [3, 7]) := rfl
theorem ex_f1 : falO 1 0 ⟨1, 0, 2⟩ = ex1 := by
 show (⟨1, 0, txt 1, txt 0, txt 2, txt 0⟩ : Fal) = _
 rw [t1, t0, t2]; rfl
theorem ex_f2 : falO 2 1 ⟨3, 1, 4⟩ = ex2 := by
 show (⟨2, 1, txt 3, txt 1, txt 4, txt 1⟩ : Fal) = _
 rw [t3, t1, t4]; rfl
theorem ex_F : sieF (kinM 3 1) 3 = [ex1, ex2] := by unfold sieF; rw [ex_vis, ex_f1, ex_f2]; rfl
theorem ex_L : sieL (kinM 3 1) 3 = [3, 7] := by unfold sieL; rw [ex_vis]; rfl
def exN : ByteArray := ⟨#[49,48,48,48,48,48,48,48,48,48,48,48,48,48,48,48,48,48,48,48,48,48,48,48,51]⟩
end Go.Mth

namespace Go.Ab
open Go.RowKit
end Go.Ab

namespace Go.Proofs.YtjbaamfahkjhgaaGreatDoor
open Go Go.Ab Go.Mth
theorem f142_ : callable cx.P 45 = true := by kernel_rfl
theorem f143_ : tyZero cx.P 26 = some [Go.Value.slice none 0 0] := by kernel_rfl
theorem f144_ : tyZero cx.P 22 = some [Go.Value.slice none 0 0] := by kernel_rfl
theorem f145_ : tyZero cx.P 76 = some [Go.Value.nilFunc] := by kernel_rfl
theorem f146_ : tySize cx.P 76 = some 1 := by kernel_rfl
theorem f147_ : callable cx.P 57 = true := by kernel_rfl
theorem f148_ : callable cx.P 56 = true := by kernel_rfl
theorem f149_ : callable cx.P 58 = true := by kernel_rfl
theorem f150_ : callable cx.P 60 = true := by kernel_rfl
theorem f151_ : callable cx.P 59 = true := by kernel_rfl
theorem c_sSieveL (m : MapM) (k : Nat) (hM : OkM m) (hk : mayS m (k : Int)) : ECalls cx 10 [mapV m, Nv k] (.tup [.sl 6 (gcells cL (sieF m k)), .sl 1 (is .i64 (sieL m k)), nm .i64 0]) := by
 refine ecalls_of_awp Tryz.func10 (c := _) rfl (Nat.le_of_ble_eq_true rfl) ?_
 show awp cx 28 _ (postF cx Tryz.f10 _) ⟨[(0, mapV m), (1, Nv k)], []⟩
 have hM2 := hM
 obtain ⟨o1, o2, o3, o4, o5⟩ := hM2
 have hk1 : 1 ≤ k := by have := hk.2.1; omega
 have hpk : m.mod ^ k ≤ 65536 := hk.2.2
 have hk16 : k ≤ 16 := by have := may_16 hM (k := k) (by assumption); omega
 have hVl := vis_len hM k 0 0
 have hpd : m.mod.toNat ^ k ≤ 65536 := toNat_pow hM hpk
 have hF : (visA m k 0 0).1.length ≤ 1000000 := by omega
 have hL : (visA m k 0 0).2.length ≤ 1000000 := by omega
 refine awp_seq fun K0 hK0 => awp_region rfl ?_
 refine o_box 2 [Iv m.mod, Lv m.mul, Lv m.add] gn rfl rfl ?_
 refine o_box 3 [Nv k] gn rfl rfl ?_
 refine o_as Zv rfl (o_as Zv rfl (o_as (Nv 0) rfl (aops_end (hK0 _ (awp_seq fun K1 hK1 => awp_seq fun K2 hK2 => ?_)))))
 refine awp_wk (σ' := ⟨[(0, mapV m), (1, Nv k), (2, .ref 2 0), (3, .ref 3 0), (4, Zv), (5, Zv), (6, Nv 0)], [(2, oM 24 m), (3, .var 3 [Nv k])]⟩) (Wk.sub ⟨rfl, rfl, rfl, rfl, rfl, rfl, rfl, trivial⟩ ⟨rfl, rfl, trivial⟩) ?_
 refine awp_wk (σ' := ⟨[(0, mapV m), (1, Nv k), (2, mIv m), (3, .ref 3 0), (4, Zv), (5, Zv), (6, Nv 0)], [(3, .var 3 [Nv k])]⟩) (Wk.see (id := 2) (t := 24) (cs := [Iv m.mod, Lv m.mul, Lv m.add]) rfl rfl) ?_
 refine awp_wk (σ' := ⟨[(0, mapV m), (1, Nv k), (2, mIv m), (3, .ip [Nv k]), (4, Zv), (5, Zv), (6, Nv 0)], []⟩) (Wk.see (id := 3) (t := 3) (cs := [Nv k]) rfl rfl) ?_
 refine awp_region rfl ?_
 refine o_loadIA [Iv m.mod, Lv m.mul, Lv m.add] gn f64_ rfl (Nat.le_of_ble_eq_true rfl) rfl ?_
 refine o_loadIS (Nv k) gn f11_ rfl rfl ?_
 refine o_ct (c_scheck m ((k : Nat) : Int) (by omega)) gn f142_ rfl ?_
 refine n_as (v' := (Nv 0)) (by exact congrArg (nm _) (chk_nat hM hk)) ?_
 refine o_as (Nv 0) rfl (aops_end (hK2 _ (awp_seq fun K3 hK3 => awp_region rfl (o_mv (Nv 0) rfl ?_))))
 refine n_neq 0 0 gn rfl rfl ?_
 refine n_as (v' := Fv) (by exact bpn (fun h => h rfl)) ?_
 refine aops_end (hK3 _ ?_)
 refine awp_condB (b := false) rfl (fun hh => absurd (hh.symm.trans rfl) (by decide)) (fun _ => ?_)
 refine awp_skip (hK1 _ (awp_seq fun K4 hK4 => awp_region rfl ?_))
 refine o_alloc 2 [Zv] gn f143_ rfl rfl rfl ?_
 refine aops_end (hK4 _ (awp_seq fun K5 hK5 => awp_region rfl ?_))
 refine o_alloc 3 [Zv] gn f144_ rfl rfl rfl ?_
 refine aops_end (hK5 _ (awp_seq fun K6 hK6 => awp_region rfl ?_))
 refine o_alloc 4 [.lit .nilFunc] gn f145_ rfl rfl rfl ?_
 refine aops_end (hK6 _ (awp_seq fun K7 hK7 => awp_region rfl ?_))
 refine o_makeFunc [mIv m, .ref 2 0, .ip [Nv k], .ref 3 0, .ref 4 0] gn rfl ?_
 refine o_store [c4v m k, (3, .var 22 [Zv]), (2, .var 26 [Zv])] gn f146_ rfl rfl rfl rfl rfl rfl ?_
 refine aops_end (hK7 _ (awp_seq fun K8 hK8 => ?_))
 refine awp_wk (Wk.nilIn (i := 2) (id := 20) (ty := 26) (e := 40) (sz := 6) rfl rfl (by decide)) ?_
 refine awp_wk (Wk.nilIn (i := 3) (id := 21) (ty := 22) (e := 3) (sz := 1) rfl rfl (by decide)) ?_
 refine awp_wk (σ' := ⟨[(8, .ref 2 0), (9, .ref 3 0), (10, .ref 4 0)], [v2v, r0v ([]), v3v, r1v ([]), c4v m k]⟩) (Wk.sub ⟨rfl, rfl, rfl, trivial⟩ ⟨rfl, rfl, rfl, rfl, rfl, trivial⟩) ?_
 refine awp_regionSW 1 19 _ 46 [mIv m, .ref 2 0, .ip [Nv k], .ref 3 0, .ref 4 0] _ _ _ _ _ [Nv 0, Nv 1, Zv, mIv m, .ref 2 0, .ip [Nv k], .ref 3 0, .ref 4 0] (.tup []) [v2v, r0v (([]) ++ ((visA m k 0 0).1)), v3v, r1v (([]) ++ ((visA m k 0 0).2)), c4v m k] rfl rfl rfl f141_ ?_
 refine o_loadS (.clo 46 [mIv m, .ref 2 0, .ip [Nv k], .ref 3 0, .ref 4 0]) gn f139_ rfl rfl rfl ?_
 refine aops_end ⟨_, Wk.sub (σ' := ⟨[(8, .ref 2 0), (9, .ref 3 0), (10, .ref 4 0), (18, .clo 46 [mIv m, .ref 2 0, .ip [Nv k], .ref 3 0, .ref 4 0])], [v2v, r0v ([]), v3v, r1v ([]), c4v m k]⟩) ⟨rfl, rfl, rfl, rfl, trivial⟩ ⟨rfl, rfl, rfl, rfl, rfl, trivial⟩, rfl, rfl, scalls_of_r (K := [2, 3, 4]) (m := [v2v, r0v ([]), v3v, r1v ([]), c4v m k]) (m' := [v2v, r0v (([]) ++ ((visA m k 0 0).1)), v3v, r1v (([]) ++ ((visA m k 0 0).2)), c4v m k]) (e := []) (by have h := c_visit0 m k hM hk16 hpk k [] [] rfl hk1 (by simp; omega) (by simp; omega); rw [Int.pow_zero] at h; exact h) rfl rfl, ?_⟩
 refine hK8 _ (awp_seq fun K9 hK9 => ?_)
 refine awp_regionSW 1 21 _ 56 [] _ _ _ _ _ [.row 20, .clo 57 []] (.tup []) [v2v, (20, (.row 40 6 (gcells cL (srt (fun x : Fal => x.rest) (([]) ++ ((visA m k 0 0).1)))))), v3v, r1v (([]) ++ ((visA m k 0 0).2))] rfl rfl rfl f148_ ?_
 refine o_loadS (.row 20) gn f135_ rfl rfl rfl ?_
 refine aops_end ⟨_, Wk.sub (σ' := ⟨[(19, .tup []), (8, .ref 2 0), (9, .ref 3 0), (20, .row 20)], [v2v, r0v (([]) ++ ((visA m k 0 0).1)), v3v, r1v (([]) ++ ((visA m k 0 0).2))]⟩) ⟨rfl, rfl, rfl, rfl, trivial⟩ ⟨rfl, rfl, rfl, rfl, trivial⟩, rfl, rfl, scalls_of_r (K := [2, 3, 20]) (m := [v2v, r0v (([]) ++ ((visA m k 0 0).1)), v3v, r1v (([]) ++ ((visA m k 0 0).2))]) (m' := [v2v, (20, (.row 40 6 (gcells cL (srt (fun x : Fal => x.rest) (([]) ++ ((visA m k 0 0).1)))))), v3v, r1v (([]) ++ ((visA m k 0 0).2))]) (e := []) (c_orlf 57 (fun x : Fal => x.rest) f147_ c_key2 (([]) ++ ((visA m k 0 0).1)) (([]) ++ ((visA m k 0 0).2)) (by rw [List.nil_append]; exact hF)) rfl rfl, ?_⟩
 refine hK9 _ (awp_seq fun K10 hK10 => ?_)
 refine awp_regionSW 1 23 _ 56 [] _ _ _ _ _ [.row 20, .clo 58 []] (.tup []) [v2v, (20, (.row 40 6 (gcells cL (srt (fun x : Fal => x.steps) (srt (fun x : Fal => x.rest) (([]) ++ ((visA m k 0 0).1))))))), v3v, r1v (([]) ++ ((visA m k 0 0).2))] rfl rfl rfl f148_ ?_
 refine o_loadS (.row 20) gn f135_ rfl rfl rfl ?_
 refine aops_end ⟨_, Wk.sub (σ' := ⟨[(21, .tup []), (19, .tup []), (8, .ref 2 0), (9, .ref 3 0), (20, .row 20), (22, .row 20)], [v2v, (20, (.row 40 6 (gcells cL (srt (fun x : Fal => x.rest) (([]) ++ ((visA m k 0 0).1)))))), v3v, r1v (([]) ++ ((visA m k 0 0).2))]⟩) ⟨rfl, rfl, rfl, rfl, rfl, rfl, trivial⟩ ⟨rfl, rfl, rfl, rfl, trivial⟩, rfl, rfl, scalls_of_r (K := [2, 3, 20]) (m := [v2v, (20, (.row 40 6 (gcells cL (srt (fun x : Fal => x.rest) (([]) ++ ((visA m k 0 0).1)))))), v3v, r1v (([]) ++ ((visA m k 0 0).2))]) (m' := [v2v, (20, (.row 40 6 (gcells cL (srt (fun x : Fal => x.steps) (srt (fun x : Fal => x.rest) (([]) ++ ((visA m k 0 0).1))))))), v3v, r1v (([]) ++ ((visA m k 0 0).2))]) (e := []) (c_orlf 58 (fun x : Fal => x.steps) f149_ c_key3 (srt (fun x : Fal => x.rest) (([]) ++ ((visA m k 0 0).1))) (([]) ++ ((visA m k 0 0).2)) (by rw [srt_len, List.nil_append]; exact hF)) rfl rfl, ?_⟩
 refine hK10 _ (awp_seq fun K11 hK11 => ?_)
 refine awp_regionSW 1 25 _ 59 [] _ _ _ _ _ [.row 21, .clo 60 []] (.tup []) [v2v, (20, (.row 40 6 (gcells cL (srt (fun x : Fal => x.steps) (srt (fun x : Fal => x.rest) (([]) ++ ((visA m k 0 0).1))))))), v3v, (21, (.row 3 1 (is .i64 (srt (fun x : Int => x) (([]) ++ ((visA m k 0 0).2))))))] rfl rfl rfl f151_ ?_
 refine o_loadS (.row 21) gn f1_ rfl rfl rfl ?_
 refine aops_end ⟨_, Wk.sub (σ' := ⟨[(23, .tup []), (21, .tup []), (19, .tup []), (8, .ref 2 0), (9, .ref 3 0), (24, .row 21)], [v2v, (20, (.row 40 6 (gcells cL (srt (fun x : Fal => x.steps) (srt (fun x : Fal => x.rest) (([]) ++ ((visA m k 0 0).1))))))), v3v, r1v (([]) ++ ((visA m k 0 0).2))]⟩) ⟨rfl, rfl, rfl, rfl, rfl, rfl, trivial⟩ ⟨rfl, rfl, rfl, rfl, trivial⟩, rfl, rfl, scalls_of_r (K := [2, 3, 21]) (m := [v2v, (20, (.row 40 6 (gcells cL (srt (fun x : Fal => x.steps) (srt (fun x : Fal => x.rest) (([]) ++ ((visA m k 0 0).1))))))), v3v, r1v (([]) ++ ((visA m k 0 0).2))]) (m' := [v2v, (20, (.row 40 6 (gcells cL (srt (fun x : Fal => x.steps) (srt (fun x : Fal => x.rest) (([]) ++ ((visA m k 0 0).1))))))), v3v, (21, (.row 3 1 (is .i64 (srt (fun x : Int => x) (([]) ++ ((visA m k 0 0).2))))))]) (e := []) (c_orli 60 (fun x : Int => x) f150_ c_key4 (([]) ++ ((visA m k 0 0).2)) (srt (fun x : Fal => x.steps) (srt (fun x : Fal => x.rest) (([]) ++ ((visA m k 0 0).1)))) (by rw [List.nil_append]; exact hL)) rfl rfl, ?_⟩
 refine hK11 _ (awp_seq fun K12 hK12 => awp_regionD rfl ?_)
 refine o_loadS (.row 20) gn f135_ rfl rfl rfl ?_
 refine o_loadS (.row 21) gn f1_ rfl rfl rfl ?_
 refine o_as (.row 20) rfl (o_as (.row 21) rfl (o_as (Nv 0) rfl ?_))
 refine aops_end ⟨by kernel_rfl, ?_⟩
 refine hK12 _ ?_
 refine awp_wk (σ' := ⟨[(4, .row 20), (5, .row 21), (6, Nv 0)], [(20, (.row 40 6 (gcells cL (srt (fun x : Fal => x.steps) (srt (fun x : Fal => x.rest) (([]) ++ ((visA m k 0 0).1))))))), (21, (.row 3 1 (is .i64 (srt (fun x : Int => x) (([]) ++ ((visA m k 0 0).2))))))]⟩) (Wk.sub ⟨rfl, rfl, rfl, trivial⟩ ⟨rfl, rfl, trivial⟩) ?_
 refine awp_wk (σ' := ⟨[(4, (.sl 6 (gcells cL (srt (fun x : Fal => x.steps) (srt (fun x : Fal => x.rest) (([]) ++ ((visA m k 0 0).1))))))), (5, .row 21), (6, Nv 0)], [(21, (.row 3 1 (is .i64 (srt (fun x : Int => x) (([]) ++ ((visA m k 0 0).2))))))]⟩) (Wk.freeze (id := 20) (e := 40) (sz := 6) (cs := (gcells cL (srt (fun x : Fal => x.steps) (srt (fun x : Fal => x.rest) (([]) ++ ((visA m k 0 0).1)))))) rfl) ?_
 refine awp_wk (σ' := ⟨[(4, (.sl 6 (gcells cL (srt (fun x : Fal => x.steps) (srt (fun x : Fal => x.rest) (([]) ++ ((visA m k 0 0).1))))))), (5, (Lv (srt (fun x : Int => x) (([]) ++ ((visA m k 0 0).2))))), (6, Nv 0)], []⟩) (Wk.freeze (id := 21) (e := 3) (sz := 1) (cs := (is .i64 (srt (fun x : Int => x) (([]) ++ ((visA m k 0 0).2))))) rfl) ?_
 refine awp_ret ?_
 refine post_ret ⟨[(.sl 6 (gcells cL (srt (fun x : Fal => x.steps) (srt (fun x : Fal => x.rest) (([]) ++ ((visA m k 0 0).1)))))), (Lv (srt (fun x : Int => x) (([]) ++ ((visA m k 0 0).2)))), Nv 0], ⟨AV.le_refl _, AV.le_refl _, AV.le_refl _, trivial⟩, rfl, ?_⟩
 rfl

end Go.Proofs.YtjbaamfahkjhgaaGreatDoor

namespace Go.Proofs.YtjbaamfahkjhgaaGreatDoor
open Go Go.Ab Go.Mth
theorem f152_ : callable cx.P 65 = true := by kernel_rfl
theorem f153_ : callable cx.P 66 = true := by kernel_rfl
theorem f154_ : callable cx.P 67 = true := by kernel_rfl
set_option maxRecDepth 100000 in
theorem c_sFind (m : MapM) (a : ByteArray) (k : Int) (ha : a.size ≤ 9223372036854775807) (hkb : k ≤ 9223372036854775807) : ECalls cx 17 [mapV m, Sv a, Iv k] (.tup [falV (fdF m a k), bp (fdB m a k), nm .i64 (fdE m a k)]) := by
 refine ecalls_of_awp Tryz.func17 (c := _) rfl (Nat.le_of_ble_eq_true rfl) ?_
 show awp cx 87 _ (postF cx Tryz.f17 _) ⟨[(0, mapV m), (1, Sv a), (2, Iv k)], []⟩
 refine awp_seq fun K0 hK0 => awp_region rfl ?_
 refine o_box 2 [Iv m.mod, Lv m.mul, Lv m.add] gn rfl rfl ?_
 refine o_alloc 3 [Nv 0, Nv 0, Sv Ev, Sv Ev, Sv Ev, Sv Ev] gn f104_ rfl rfl rfl ?_
 refine o_as Fv rfl (o_as (Nv 0) rfl (aops_end (hK0 _ (awp_seq fun K1 hK1 => awp_seq fun K2 hK2 => awp_region rfl ?_))))
 refine o_loadA [Iv m.mod, Lv m.mul, Lv m.add] gn f64_ rfl rfl rfl rfl rfl ?_
 refine o_ct (c_sValid m) gn f102_ rfl ?_
 refine o_not (b := okM m) gn rfl ?_
 refine o_mv (.lit (.bool (!(okM m)))) rfl ?_
 refine o_split (b := !(okM m)) 21 rfl (fun h1 => ?_) (fun h1 => ?_)
 ·have hm' : ¬ okM m = true := by simpa using h1
  refine o_skip rfl rfl h1 (o_skip rfl rfl h1 (o_skip rfl rfl h1 ?_))
  refine o_pickT Tv gn rfl h1 rfl ?_
  refine aops_end (hK2 _ ?_)
  refine awp_condB (b := true) rfl (fun _ => ?_) (fun hh => absurd (hh.symm.trans rfl) (by decide))
  refine awp_seq fun K3 hK3 => awp_region rfl ?_
  refine o_build [Nv 0, Nv 0, Sv Ev, Sv Ev, Sv Ev, Sv Ev] [] gn f107_ f104_ rfl rfl rfl ?_
  refine n_as (v' := (falV zFal)) (by exact rfl) ?_
  refine o_store [(3, .var 40 [Iv (zFal.steps), Iv (zFal.rest), Sv (zFal.lmul), Sv (zFal.ladd), Sv (zFal.ldiv), Sv (zFal.bound)]), (2, oM 24 m)] gn f108_ rfl rfl rfl rfl rfl rfl ?_
  refine o_as Fv rfl (o_as (Nv 1) rfl (aops_end (hK3 _ ?_)))
  refine awp_ret ?_
  refine post_ret ⟨[.agg [Iv (zFal.steps), Iv (zFal.rest), Sv (zFal.lmul), Sv (zFal.ladd), Sv (zFal.ldiv), Sv (zFal.bound)], Fv, Nv 1], ⟨⟨3, .var 40 [Iv (zFal.steps), Iv (zFal.rest), Sv (zFal.lmul), Sv (zFal.ladd), Sv (zFal.ldiv), Sv (zFal.bound)], rfl, rfl, rfl, Or.inl ⟨f109_, AV.le_refl _⟩⟩, AV.le_refl _, AV.le_refl _, trivial⟩, rfl, ?_⟩
  (have e := fd_1 (m := m) (a := a) (k := k) (fun q => hm' q.1); rw [e.1, e.2.1, bpn e.2.2]; rfl)
 ·have hm' : okM m = true := by simpa using h1
  have hM := okM_iff.1 hm'
  have hM2 := hM
  obtain ⟨o1, o2, o3, o4, o5⟩ := hM2
  refine o_move (Sv a) (Gd.yes rfl rfl h1) rfl ?_
  refine o_ct (c_nValid a (by assumption)) (Gd.yes rfl rfl h1) f152_ rfl ?_
  refine o_not (b := okS a) (Gd.yes rfl rfl h1) rfl ?_
  refine o_pickF (.lit (.bool (!(okS a)))) gn rfl h1 rfl ?_
  refine aops_end (hK2 _ ?_)
  refine awp_condB (b := !(okS a)) rfl (fun h2 => ?_) (fun h2 => ?_)
  ·have ha' : ¬ okS a = true := by simpa using h2
   refine awp_seq fun K4 hK4 => awp_region rfl ?_
   refine o_build [Nv 0, Nv 0, Sv Ev, Sv Ev, Sv Ev, Sv Ev] [] gn f107_ f104_ rfl rfl rfl ?_
   refine n_as (v' := (falV zFal)) (by exact rfl) ?_
   refine o_store [(3, .var 40 [Iv (zFal.steps), Iv (zFal.rest), Sv (zFal.lmul), Sv (zFal.ladd), Sv (zFal.ldiv), Sv (zFal.bound)]), (2, oM 24 m)] gn f108_ rfl rfl rfl rfl rfl rfl ?_
   refine o_as Fv rfl (o_as (Nv 1) rfl (aops_end (hK4 _ ?_)))
   refine awp_ret ?_
   refine post_ret ⟨[.agg [Iv (zFal.steps), Iv (zFal.rest), Sv (zFal.lmul), Sv (zFal.ladd), Sv (zFal.ldiv), Sv (zFal.bound)], Fv, Nv 1], ⟨⟨3, .var 40 [Iv (zFal.steps), Iv (zFal.rest), Sv (zFal.lmul), Sv (zFal.ladd), Sv (zFal.ldiv), Sv (zFal.bound)], rfl, rfl, rfl, Or.inl ⟨f109_, AV.le_refl _⟩⟩, AV.le_refl _, AV.le_refl _, trivial⟩, rfl, ?_⟩
   (have e := fd_1 (m := m) (a := a) (k := k) (fun q => ha' q.2); rw [e.1, e.2.1, bpn e.2.2]; rfl)
  ·have ha' : okS a = true := by simpa using h2
   have la := len_numS (okS_iff.1 ha')
   refine awp_skip (hK1 _ (awp_seq fun K5 hK5 => awp_seq fun K6 hK6 => awp_region rfl ?_))
   refine o_loadA [Iv m.mod, Lv m.mul, Lv m.add] gn f64_ rfl rfl rfl rfl rfl ?_
   refine o_mv (Iv k) rfl ?_
   refine o_ct (c_scheck m k (by assumption)) gn f142_ rfl ?_
   refine o_as (Nv (chkE m k)) rfl (aops_end (hK6 _ (awp_seq fun K7 hK7 => awp_region rfl (o_mv (Nv (chkE m k)) rfl ?_))))
   refine n_neq (chkE m k) 0 gn rfl rfl ?_
   refine aops_end (hK7 _ ?_)
   refine awp_condQ (q := (chkE m k) ≠ 0) rfl (fun h3 => ?_) (fun h3 => ?_)
   ·refine awp_seq fun K8 hK8 => awp_region rfl ?_
    refine o_build [Nv 0, Nv 0, Sv Ev, Sv Ev, Sv Ev, Sv Ev] [] gn f107_ f104_ rfl rfl rfl ?_
    refine n_as (v' := (falV zFal)) (by exact rfl) ?_
    refine o_mv (Nv (chkE m k)) rfl ?_
    refine o_store [(3, .var 40 [Iv (zFal.steps), Iv (zFal.rest), Sv (zFal.lmul), Sv (zFal.ladd), Sv (zFal.ldiv), Sv (zFal.bound)]), (2, oM 24 m)] gn f108_ rfl rfl rfl rfl rfl rfl ?_
    refine o_as Fv rfl (o_as (Nv (chkE m k)) rfl (aops_end (hK8 _ ?_)))
    refine awp_ret ?_
    refine post_ret ⟨[.agg [Iv (zFal.steps), Iv (zFal.rest), Sv (zFal.lmul), Sv (zFal.ladd), Sv (zFal.ldiv), Sv (zFal.bound)], Fv, Nv (chkE m k)], ⟨⟨3, .var 40 [Iv (zFal.steps), Iv (zFal.rest), Sv (zFal.lmul), Sv (zFal.ladd), Sv (zFal.ldiv), Sv (zFal.bound)], rfl, rfl, rfl, Or.inl ⟨f109_, AV.le_refl _⟩⟩, AV.le_refl _, AV.le_refl _, trivial⟩, rfl, ?_⟩
    (have e := fd_2 (m := m) (a := a) (k := k) ⟨hm', ha'⟩ h3; rw [e.1, e.2.1, bpn e.2.2]; rfl)
   ·have hy : mayS m k := Decidable.byContradiction fun e => absurd (chk_2 hm' e) (by rw [Decidable.not_not.1 h3]; decide)
    have hk2 := hy.2.2
    have hk1 := hy.2.1
    have hk16 := may_16 hM hk2
    have hkp : 0 < m.mod ^ k.toNat := Int.pow_pos (by omega)
    obtain ⟨P, hP⟩ : ∃ P : Nat, ((P : Nat) : Int) = m.mod ^ k.toNat := ⟨_, Int.toNat_of_nonneg (Int.le_of_lt hkp)⟩
    obtain ⟨Z, hZ⟩ : ∃ Z : Int, Z = numS a % m.mod ^ k.toNat := ⟨_, rfl⟩
    have hZ0 : 0 ≤ Z := by rw [hZ]; exact Int.emod_nonneg _ (by omega)
    have hZ1 : Z < m.mod ^ k.toNat := by rw [hZ]; exact Int.emod_lt_of_pos _ hkp
    have hfm := fndF_mod hM (numS a) k.toNat
    rw [← hZ] at hfm
    have hzl := small_len (z := Z) (by omega)
    refine awp_skip (hK5 _ (awp_seq fun K9 hK9 => awp_region rfl (o_as (Nv 1) rfl ?_)))
    refine n_as (v' := (Iv (m.mod ^ 0))) (by exact congrArg (fun z => AV.lit (.int .i64 z)) (Int.pow_zero _).symm) ?_
    refine aops_end (hK9 _ (awp_seq fun K10 hK10 => awp_seq fun K11 hK11 => awp_region rfl (o_mv (Iv k) rfl (o_mv (Nv 0) rfl (aops_end (hK11 _ ?_))))))
    refine awp_block ?_
    refine awp_loopR (fun κ σ => ∃ (u : Nat), (u ≤ k.toNat) ∧ (k.toNat - u) = κ ∧ σ = ⟨[(1, Sv a), (2, Iv k), (3, .ref 2 0), (6, .ref 3 0), (10, Iv (m.mod ^ u)), (34, Iv k), (35, Nv u)], [(2, oM 24 m), (3, .var 40 [Nv 0, Nv 0, Sv Ev, Sv Ev, Sv Ev, Sv Ev])]⟩) ⟨_, _, ⟨0, (by omega), rfl, rfl⟩, ?wk0⟩ ?rd0
    case wk0 =>
     exact Wk.sub ⟨rfl, rfl, rfl, rfl, (by rfl), rfl, (by rfl), trivial⟩ ⟨rfl, rfl, trivial⟩
    rintro κ _ ⟨u, hu, rfl, rfl⟩
    have hpp : 0 < m.mod ^ u := Int.pow_pos (by omega)
    have hb := pow_le_of hM (j := u) (k := k.toNat) (by omega)
    have hmb := Int.mul_le_mul (show m.mod ^ u ≤ 65536 by omega) o2 (show (0 : Int) ≤ m.mod by omega) (by decide)
    have hml := Int.mul_pos hpp (show 0 < m.mod by omega)
    refine awp_seq fun K12 hK12 => awp_region rfl ?_
    refine o_lss (a := ((u : Nat) : Int)) (c := k) gn rfl rfl ?_
    refine aops_end (hK12 _ (awp_seq fun K13 hK13 => ?_))
    refine awp_condQ (q := ((u : Nat) : Int) < k) rfl (fun h4 => ?_) (fun h4 => ?_)
    ·refine awp_skip (hK13 _ (awp_seq fun K14 hK14 => ?_))
     refine awp_block ?_
     refine awp_region rfl (o_mv (Iv (m.mod ^ u)) rfl ?_)
     refine o_fieldRef 0 gn f60_ rfl rfl ?_
     refine o_loadS (Iv m.mod) gn f11_ rfl rfl rfl ?_
     refine o_mul (a := (m.mod ^ u)) (c := m.mod) gn rfl rfl (by exact wrap64 (by omega) (by omega)) ?_
     refine n_as (v' := (Iv (m.mod ^ (u + 1)))) (by exact congrArg (fun z => AV.lit (.int .i64 z)) (Int.pow_succ _ _).symm) ?_
     refine o_as (Iv (m.mod ^ (u + 1))) rfl (aops_end (hK14 _ (awp_region rfl ?_)))
     refine n_add u 1 gn rfl rfl (by simp only [topOf]; omega) ?_
     refine o_mv (Nv (u + 1)) rfl (aops_end ?_)
     refine ⟨_, _, ?lt, ⟨u + 1, (by omega), rfl, rfl⟩, ?wk⟩
     case lt => omega
     case wk => exact Wk.sub ⟨rfl, rfl, rfl, rfl, (by rfl), rfl, (by rfl), trivial⟩ ⟨rfl, rfl, trivial⟩
    ·refine awp_exit ?_
     refine hK10 _ (awp_seq fun K15 hK15 => awp_region rfl (o_mv (Sv a) rfl ?_))
     refine o_ct (c_wParse a (by exact okS_iff.1 (by assumption))) gn f153_ rfl ?_
     refine o_mv (Iv (m.mod ^ u)) rfl ?_
     refine n_as (v' := (Nv P)) (nm_int (by rw [hP, show k.toNat = u by omega])) ?_
     refine o_ct (c_wQR (numS a) P (by omega) (by omega) (by omega)) gn f67_ rfl ?_
     refine o_mv (.tup [(intW ((numS a) / ((P : Nat) : Int))), (Iv ((numS a) % ((P : Nat) : Int)))]) rfl (o_extract (intW ((numS a) / ((P : Nat) : Int))) gn rfl rfl (o_extract (Iv ((numS a) % ((P : Nat) : Int))) gn rfl rfl ?_))
     refine n_as (v' := (Iv Z)) (by exact congrArg (fun z => AV.lit (.int .i64 z)) (by rw [hZ, hP])) ?_
     refine o_alloc 101 [Fv, Zv] gn f15_ rfl rfl rfl ?_
     refine o_store [(101, (oZ 79 .u32 ((numS a) / ((P : Nat) : Int)))), (2, oM 24 m), (3, .var 40 [Nv 0, Nv 0, Sv Ev, Sv Ev, Sv Ev, Sv Ev])] gn f19_ rfl rfl rfl rfl rfl rfl ?_
     refine o_as (Iv Z) rfl (aops_end (hK15 _ (awp_seq fun K16 hK16 => awp_region rfl (o_mv (Iv Z) rfl ?_))))
     refine o_ct (c_wOf Z (by omega) (by omega)) gn f46_ rfl ?_
     refine o_alloc 102 [Fv, Zv] gn f15_ rfl rfl rfl ?_
     refine o_store [(102, oZ 79 .u32 Z), (101, (oZ 79 .u32 ((numS a) / ((P : Nat) : Int)))), (2, oM 24 m), (3, .var 40 [Nv 0, Nv 0, Sv Ev, Sv Ev, Sv Ev, Sv Ev])] gn f19_ rfl rfl rfl rfl rfl rfl ?_
     refine aops_end (hK16 _ (awp_seq fun K17 hK17 => awp_region rfl (o_as Zv rfl (aops_end (hK17 _ (awp_seq fun K18 hK18 => awp_region rfl (o_as (Nv 1) rfl ?_)))))))
     refine n_as (v' := (Iv (m.mod ^ 0))) (by exact congrArg (fun z => AV.lit (.int .i64 z)) (Int.pow_zero _).symm) ?_
     refine aops_end (hK18 _ (awp_seq fun K19 hK19 => awp_seq fun K20 hK20 => awp_region rfl (o_mv (Iv k) rfl (o_mv (Nv 0) rfl (aops_end (hK20 _ ?_))))))
     refine awp_block ?_
     refine awp_loopR (fun κ σ => ∃ (i : Nat), (i ≤ k.toNat) ∧ (ffal m Z i = 0) ∧ ((digs (iterZ m i Z).natAbs).length ≤ 1 + 4 * i) ∧ (k.toNat - i) = κ ∧ σ = ⟨[(2, Iv k), (3, .ref 2 0), (6, .ref 3 0), (10, Iv (m.mod ^ i)), (12, Iv Z), (13, .ref 4 0), (14, .row 50), (51, Iv k), (52, Nv i)], [(2, oM 24 m), (3, .var 40 [Nv 0, Nv 0, Sv Ev, Sv Ev, Sv Ev, Sv Ev]), (4, oZ 79 .u32 (iterZ m i Z)), (50, .row 3 1 (is .i64 (wordZ m Z i)))]⟩) ⟨_, _, ⟨0, (by omega), rfl, (show (digs Z.natAbs).length ≤ 1 + 4 * 0 by omega), rfl, rfl⟩, ?wk1⟩ ?rd1
     case wk1 =>
      exact Wk.trans (Wk.newNil (i := 14) (id := 603) (e := 3) (sz := 1) rfl rfl (by decide)) (Wk.trans (Wk.sub (σ' := ⟨[(2, Iv k), (3, .ref 2 0), (6, .ref 3 0), (10, Iv (m.mod ^ 0)), (12, Iv Z), (13, .ref 102 0), (14, .row 603), (51, Iv k), (52, Nv 0)], [(2, oM 24 m), (3, .var 40 [Nv 0, Nv 0, Sv Ev, Sv Ev, Sv Ev, Sv Ev]), (102, oZ 79 .u32 Z), (603, .row 3 1 (is .i64 ([])))]⟩) ⟨rfl, rfl, rfl, rfl, rfl, rfl, rfl, rfl, rfl, trivial⟩ ⟨rfl, rfl, rfl, rfl, trivial⟩) (Wk.trans (Wk.ren (id := 102) (id' := 4) rfl) (Wk.trans (Wk.ren (id := 603) (id' := 50) rfl) (Wk.sub ⟨rfl, rfl, rfl, (by rfl), rfl, (by rfl), (by rfl), rfl, (by rfl), trivial⟩ ⟨rfl, rfl, rfl, (by rfl), trivial⟩))))
     rintro κ _ ⟨i, hi, h0, hlz, rfl, rfl⟩
     have hpp : 0 < m.mod ^ i := Int.pow_pos (by omega)
     have hb := pow_le_of hM (j := i) (k := k.toNat) (by omega)
     have hmb := Int.mul_le_mul (show m.mod ^ i ≤ 65536 by omega) o2 (show (0 : Int) ≤ m.mod by omega) (by decide)
     have hml := Int.mul_pos hpp (show 0 < m.mod by omega)
     have hln := step_len' hM (iterZ m i Z)
     have hW1 := wordZ_is hM Z (i + 1)
     have hL1 := wordZ_len m Z (i + 1)
     have hL2 : ((wordZ m Z i) ++ ([iterZ m i Z % m.mod])).length = i + 1 := hL1
     obtain ⟨M1, M2, M3⟩ := line_len hM (wordZ m Z (i + 1)) hW1
     have hpq : 0 < m.mod ^ (i + 1) := Int.pow_pos (by omega)
     refine awp_seq fun K21 hK21 => awp_region rfl ?_
     refine o_lss (a := ((i : Nat) : Int)) (c := k) gn rfl rfl ?_
     refine aops_end (hK21 _ (awp_seq fun K22 hK22 => ?_))
     refine awp_condQ (q := ((i : Nat) : Int) < k) rfl (fun h5 => ?_) (fun h5 => ?_)
     ·refine awp_skip (hK22 _ (awp_seq fun K23 hK23 => ?_))
      refine awp_block ?_
      refine awp_seq fun K24 hK24 => awp_region rfl ?_
      refine o_loadA [Iv m.mod, Lv m.mul, Lv m.add] gn f64_ rfl rfl rfl rfl rfl ?_
      refine o_loadA [bp ((iterZ m i Z) < 0), .sl 1 (ns .u32 (digs (iterZ m i Z).natAbs))] gn f20_ rfl rfl rfl rfl rfl ?_
      refine o_ct (c_sNext m (iterZ m i Z) (by assumption) (by omega)) gn f154_ rfl ?_
      refine o_mv (.tup [intW (stepZ m (iterZ m i Z)), Iv ((iterZ m i Z) % m.mod)]) rfl (o_extract (intW (stepZ m (iterZ m i Z))) gn rfl rfl (o_extract (Iv ((iterZ m i Z) % m.mod)) gn rfl rfl ?_))
      refine o_alloc 201 [Fv, Zv] gn f15_ rfl rfl rfl ?_
      refine o_store [(201, oZ 79 .u32 (stepZ m (iterZ m i Z))), (2, oM 24 m), (3, .var 40 [Nv 0, Nv 0, Sv Ev, Sv Ev, Sv Ev, Sv Ev]), (4, oZ 79 .u32 (iterZ m i Z)), (50, .row 3 1 (is .i64 (wordZ m Z i)))] gn f19_ rfl rfl rfl rfl rfl rfl ?_
      refine o_as (Iv ((iterZ m i Z) % m.mod)) rfl (aops_end (hK24 _ (awp_seq fun K25 hK25 => awp_region rfl ?_)))
      refine o_loadA [bp ((stepZ m (iterZ m i Z)) < 0), .sl 1 (ns .u32 (digs (stepZ m (iterZ m i Z)).natAbs))] gn f20_ rfl rfl rfl rfl rfl ?_
      refine o_store [(201, oZ 79 .u32 (stepZ m (iterZ m i Z))), (2, oM 24 m), (3, .var 40 [Nv 0, Nv 0, Sv Ev, Sv Ev, Sv Ev, Sv Ev]), (4, oZ 79 .u32 (stepZ m (iterZ m i Z))), (50, .row 3 1 (is .i64 (wordZ m Z i)))] gn f19_ rfl rfl rfl rfl rfl rfl ?_
      refine aops_end (hK25 _ (awp_seq fun K26 hK26 => awp_region rfl (o_mv (.row 50) rfl (o_mv (Iv ((iterZ m i Z) % m.mod)) rfl ?_))))
      refine o_buildSlice 202 (is .i64 ([(iterZ m i Z) % m.mod])) [(0, [Iv ((iterZ m i Z) % m.mod)])] gn f10_ rfl f26_ rfl rfl rfl rfl rfl rfl rfl ?_
      refine i_append 203 (wordZ m Z i) ([(iterZ m i Z) % m.mod]) [(202, .row 3 1 (is .i64 ([(iterZ m i Z) % m.mod]))), (201, oZ 79 .u32 (stepZ m (iterZ m i Z))), (2, oM 24 m), (3, .var 40 [Nv 0, Nv 0, Sv Ev, Sv Ev, Sv Ev, Sv Ev]), (4, oZ 79 .u32 (stepZ m (iterZ m i Z)))] gn f10_ f26_ rfl rfl rfl rfl rfl (by simp only [wordZ_len, List.length_cons, List.length_nil]; omega) (by decide) rfl rfl ?_
      refine o_as (.row 203) rfl (aops_end (hK26 _ (awp_seq fun K27 hK27 => awp_region rfl (o_mv (Iv (m.mod ^ i)) rfl ?_))))
      refine o_fieldRef 0 gn f60_ rfl rfl ?_
      refine o_loadS (Iv m.mod) gn f11_ rfl rfl rfl ?_
      refine o_mul (a := (m.mod ^ i)) (c := m.mod) gn rfl rfl (by exact wrap64 (by omega) (by omega)) ?_
      refine n_as (v' := (Iv (m.mod ^ (i + 1)))) (by exact congrArg (fun z => AV.lit (.int .i64 z)) (Int.pow_succ _ _).symm) ?_
      refine o_as (Iv (m.mod ^ (i + 1))) rfl (aops_end (hK27 _ (awp_seq fun K28 hK28 => ?_)))
      refine awp_wk (σ' := ⟨[(2, Iv k), (3, .ref 2 0), (6, .ref 3 0), (10, Iv (m.mod ^ (i + 1))), (12, Iv Z), (13, .ref 4 0), (14, .row 203), (51, Iv k), (52, Nv i), (53, (bp (((i : Nat) : Int) < k))), (55, mapV m), (56, intW (iterZ m i Z)), (57, .tup [intW (stepZ m (iterZ m i Z)), Iv ((iterZ m i Z) % m.mod)]), (54, .tup [intW (stepZ m (iterZ m i Z)), Iv ((iterZ m i Z) % m.mod)]), (58, intW (stepZ m (iterZ m i Z))), (59, Iv ((iterZ m i Z) % m.mod)), (15, .ref 201 0), (16, Iv ((iterZ m i Z) % m.mod)), (60, intW (stepZ m (iterZ m i Z))), (61, .row 50), (62, Iv ((iterZ m i Z) % m.mod)), (63, .row 202), (64, .row 203), (65, Iv (m.mod ^ i)), (66, .ref 2 0), (67, Iv m.mod), (68, Iv (m.mod ^ (i + 1)))], [(203, .row 3 1 (is .i64 ((wordZ m Z i) ++ ([(iterZ m i Z) % m.mod])))), (202, .row 3 1 (is .i64 ([(iterZ m i Z) % m.mod]))), (201, oZ 79 .u32 (stepZ m (iterZ m i Z))), (2, oM 24 m), (3, .var 40 [Nv 0, Nv 0, Sv Ev, Sv Ev, Sv Ev, Sv Ev]), (4, oZ 79 .u32 (stepZ m (iterZ m i Z)))]⟩) (Wk.sub ⟨rfl, rfl, rfl, rfl, rfl, rfl, rfl, rfl, rfl, rfl, rfl, rfl, rfl, rfl, rfl, rfl, rfl, rfl, rfl, rfl, rfl, rfl, rfl, rfl, rfl, rfl, rfl, trivial⟩ ⟨rfl, rfl, rfl, rfl, rfl, rfl, trivial⟩) ?_
      refine awp_regionSK 2 71 _ 47 [] _ _ _ _ _ [mapV m, .row 203] (linW (lineZ m (wordZ m Z (i + 1)))) [(203, .row 3 1 (is .i64 ((wordZ m Z i) ++ ([(iterZ m i Z) % m.mod])))), (202, .row 3 1 (is .i64 ([(iterZ m i Z) % m.mod]))), (201, oZ 79 .u32 (stepZ m (iterZ m i Z))), (2, oM 24 m), (3, .var 40 [Nv 0, Nv 0, Sv Ev, Sv Ev, Sv Ev, Sv Ev]), (4, oZ 79 .u32 (stepZ m (iterZ m i Z)))] rfl rfl f133_ ?_
      refine o_loadA [Iv m.mod, Lv m.mul, Lv m.add] gn f64_ rfl rfl rfl rfl rfl ?_
      refine o_mv (.row 203) rfl ?_
      refine aops_end ⟨rfl, rfl, ?sc2, ?_⟩
      case sc2 =>
       refine scalls_of_awpB 9011 Tryz.func47 (c := _) rfl (Nat.le_of_ble_eq_true rfl) rfl rfl rfl (fun us2 => ?_)
       show awp cx 25 _ (postS cx Tryz.f47 (linW (lineZ m (wordZ m Z (i + 1)))) [(203, .row 3 1 (is .i64 ((wordZ m Z i) ++ ([(iterZ m i Z) % m.mod])))), (202, .row 3 1 (is .i64 ([(iterZ m i Z) % m.mod]))), (201, oZ 79 .u32 (stepZ m (iterZ m i Z))), (2, oM 24 m), (3, .var 40 [Nv 0, Nv 0, Sv Ev, Sv Ev, Sv Ev, Sv Ev]), (4, oZ 79 .u32 (stepZ m (iterZ m i Z)))] 9011 [.row 203, mapV m, Iv k, .ref 2 0, .ref 3 0, Iv (m.mod ^ (i + 1)), Iv Z, .ref 4 0, .row 203, Iv k, Nv i, (bp (((i : Nat) : Int) < k)), mapV m, intW (iterZ m i Z), .tup [intW (stepZ m (iterZ m i Z)), Iv ((iterZ m i Z) % m.mod)], .tup [intW (stepZ m (iterZ m i Z)), Iv ((iterZ m i Z) % m.mod)], intW (stepZ m (iterZ m i Z)), Iv ((iterZ m i Z) % m.mod), .ref 201 0, Iv ((iterZ m i Z) % m.mod), intW (stepZ m (iterZ m i Z)), .row 50, Iv ((iterZ m i Z) % m.mod), .row 202, .row 203, Iv (m.mod ^ i), .ref 2 0, Iv m.mod, Iv (m.mod ^ (i + 1))] us2) ⟨[(0, mapV m), (1, .row 203)], [(9011, (.pin [.row 203, mapV m, Iv k, .ref 2 0, .ref 3 0, Iv (m.mod ^ (i + 1)), Iv Z, .ref 4 0, .row 203, Iv k, Nv i, (bp (((i : Nat) : Int) < k)), mapV m, intW (iterZ m i Z), .tup [intW (stepZ m (iterZ m i Z)), Iv ((iterZ m i Z) % m.mod)], .tup [intW (stepZ m (iterZ m i Z)), Iv ((iterZ m i Z) % m.mod)], intW (stepZ m (iterZ m i Z)), Iv ((iterZ m i Z) % m.mod), .ref 201 0, Iv ((iterZ m i Z) % m.mod), intW (stepZ m (iterZ m i Z)), .row 50, Iv ((iterZ m i Z) % m.mod), .row 202, .row 203, Iv (m.mod ^ i), .ref 2 0, Iv m.mod, Iv (m.mod ^ (i + 1))] us2)), (203, .row 3 1 (is .i64 ((wordZ m Z i) ++ ([(iterZ m i Z) % m.mod])))), (202, .row 3 1 (is .i64 ([(iterZ m i Z) % m.mod]))), (201, oZ 79 .u32 (stepZ m (iterZ m i Z))), (2, oM 24 m), (3, .var 40 [Nv 0, Nv 0, Sv Ev, Sv Ev, Sv Ev, Sv Ev]), (4, oZ 79 .u32 (stepZ m (iterZ m i Z)))]⟩
       refine awp_seq fun K29 hK29 => awp_region rfl ?_
       refine o_box 204 [Iv m.mod, Lv m.mul, Lv m.add] gn rfl rfl ?_
       refine o_alloc 205 [Fv, Zv, Fv, Zv, Fv, Zv] gn f78_ rfl rfl rfl ?_
       refine aops_end (hK29 _ (awp_seq fun K30 hK30 => awp_region rfl ?_))
       refine o_ct (c_wOf (1 : Int) (by decide) (by decide)) gn f46_ rfl ?_
       refine o_ct (c_wOf (0 : Int) (by decide) (by decide)) gn f46_ rfl ?_
       refine o_ct (c_wOf (1 : Int) (by decide) (by decide)) gn f46_ rfl ?_
       refine o_build [(bp ((1 : Int) < 0)), (.sl 1 (ns .u32 (digs (1 : Int).natAbs))), (bp ((0 : Int) < 0)), (.sl 1 (ns .u32 (digs (0 : Int).natAbs))), (bp ((1 : Int) < 0)), (.sl 1 (ns .u32 (digs (1 : Int).natAbs)))] [(0, [(bp ((1 : Int) < 0)), (.sl 1 (ns .u32 (digs (1 : Int).natAbs)))]), (1, [(bp ((0 : Int) < 0)), (.sl 1 (ns .u32 (digs (0 : Int).natAbs)))]), (2, [(bp ((1 : Int) < 0)), (.sl 1 (ns .u32 (digs (1 : Int).natAbs)))])] gn f79_ f78_ rfl rfl rfl ?_
       refine o_alloc 206 [Fv, Zv, Fv, Zv, Fv, Zv] gn f78_ rfl rfl rfl ?_
       refine o_store [(206, (.var 81 [(bp ((1 : Int) < 0)), (.sl 1 (ns .u32 (digs (1 : Int).natAbs))), (bp ((0 : Int) < 0)), (.sl 1 (ns .u32 (digs (0 : Int).natAbs))), (bp ((1 : Int) < 0)), (.sl 1 (ns .u32 (digs (1 : Int).natAbs)))])), (205, .var 81 [Fv, Zv, Fv, Zv, Fv, Zv]), (204, oM 24 m), (9011, (.pin [.row 203, mapV m, Iv k, .ref 2 0, .ref 3 0, Iv (m.mod ^ (i + 1)), Iv Z, .ref 4 0, .row 203, Iv k, Nv i, (bp (((i : Nat) : Int) < k)), mapV m, intW (iterZ m i Z), .tup [intW (stepZ m (iterZ m i Z)), Iv ((iterZ m i Z) % m.mod)], .tup [intW (stepZ m (iterZ m i Z)), Iv ((iterZ m i Z) % m.mod)], intW (stepZ m (iterZ m i Z)), Iv ((iterZ m i Z) % m.mod), .ref 201 0, Iv ((iterZ m i Z) % m.mod), intW (stepZ m (iterZ m i Z)), .row 50, Iv ((iterZ m i Z) % m.mod), .row 202, .row 203, Iv (m.mod ^ i), .ref 2 0, Iv m.mod, Iv (m.mod ^ (i + 1))] us2)), (203, .row 3 1 (is .i64 ((wordZ m Z i) ++ ([(iterZ m i Z) % m.mod])))), (202, .row 3 1 (is .i64 ([(iterZ m i Z) % m.mod]))), (201, oZ 79 .u32 (stepZ m (iterZ m i Z))), (2, oM 24 m), (3, .var 40 [Nv 0, Nv 0, Sv Ev, Sv Ev, Sv Ev, Sv Ev]), (4, oZ 79 .u32 (stepZ m (iterZ m i Z)))] gn f80_ rfl rfl rfl rfl rfl rfl ?_
       refine aops_end (hK30 _ (awp_seq fun K31 hK31 => awp_region rfl ?_))
       refine o_makeFunc [.ref 204 0, .ref 206 0] gn rfl ?_
       refine o_as (.clo 84 [.ref 204 0, .ref 206 0]) rfl (aops_end (hK31 _ (awp_seq fun K32 hK32 => awp_seq fun K33 hK33 => awp_region rfl (o_mv (.row 203) rfl ?_))))
       refine o_lenRow (((wordZ m Z i) ++ ([(iterZ m i Z) % m.mod])).length) gn f2_ rfl rfl (by simp [is]) ?_
       refine o_mv (Nv 0) rfl (aops_end (hK33 _ ?_))
       refine awp_block ?_
       refine awp_loopR (fun κ σ => ∃ (j : Nat), ∃ (l : LinZ), (j ≤ ((wordZ m Z i) ++ ([(iterZ m i Z) % m.mod])).length) ∧ (l = lineZ m (((wordZ m Z i) ++ ([(iterZ m i Z) % m.mod])).take j)) ∧ (((wordZ m Z i) ++ ([(iterZ m i Z) % m.mod])).length - j) = κ ∧ σ = ⟨[(2, .ref 204 0), (4, .ref 205 0), (5, .ref 206 0), (6, .clo 84 [.ref 204 0, .ref 206 0]), (14, .row 203), (15, Nv (((wordZ m Z i) ++ ([(iterZ m i Z) % m.mod])).length)), (16, Nv j)], [(9011, (.pin [.row 203, mapV m, Iv k, .ref 2 0, .ref 3 0, Iv (m.mod ^ (i + 1)), Iv Z, .ref 4 0, .row 203, Iv k, Nv i, (bp (((i : Nat) : Int) < k)), mapV m, intW (iterZ m i Z), .tup [intW (stepZ m (iterZ m i Z)), Iv ((iterZ m i Z) % m.mod)], .tup [intW (stepZ m (iterZ m i Z)), Iv ((iterZ m i Z) % m.mod)], intW (stepZ m (iterZ m i Z)), Iv ((iterZ m i Z) % m.mod), .ref 201 0, Iv ((iterZ m i Z) % m.mod), intW (stepZ m (iterZ m i Z)), .row 50, Iv ((iterZ m i Z) % m.mod), .row 202, .row 203, Iv (m.mod ^ i), .ref 2 0, Iv m.mod, Iv (m.mod ^ (i + 1))] us2)), (203, .row 3 1 (is .i64 ((wordZ m Z i) ++ ([(iterZ m i Z) % m.mod])))), (202, .row 3 1 (is .i64 ([(iterZ m i Z) % m.mod]))), (201, oZ 79 .u32 (stepZ m (iterZ m i Z))), (2, oM 24 m), (3, .var 40 [Nv 0, Nv 0, Sv Ev, Sv Ev, Sv Ev, Sv Ev]), (4, oZ 79 .u32 (stepZ m (iterZ m i Z))), (204, oM 24 m), (205, .var 81 [Fv, Zv, Fv, Zv, Fv, Zv]), (206, .var 81 [Bv (l.mul), Dv (l.mul), Bv (l.add), Dv (l.add), Bv (l.div), Dv (l.div)])]⟩) ⟨_, _, ⟨0, oneZ, (by omega), rfl, rfl, rfl⟩, ?wk3⟩ ?rd3
       case wk3 =>
        exact Wk.sub ⟨rfl, rfl, rfl, rfl, rfl, rfl, (by rfl), trivial⟩ ⟨rfl, rfl, rfl, rfl, rfl, rfl, rfl, rfl, rfl, rfl, trivial⟩
       rintro κ _ ⟨j, l, hj, hl2, rfl, rfl⟩
       refine awp_seq fun K34 hK34 => awp_region rfl ?_
       refine n_lss j (((wordZ m Z i) ++ ([(iterZ m i Z) % m.mod])).length) gn rfl rfl ?_
       refine aops_end (hK34 _ (awp_seq fun K35 hK35 => ?_))
       refine awp_condQ (q := j < (((wordZ m Z i) ++ ([(iterZ m i Z) % m.mod])).length)) rfl (fun h6 => ?_) (fun h6 => ?_)
       ·refine awp_skip (hK35 _ (awp_seq fun K36 hK36 => ?_))
        refine awp_block ?_
        refine awp_seq fun K37 hK37 => awp_region rfl ?_
        refine i_indexRow ((wordZ m Z i) ++ ([(iterZ m i Z) % m.mod])) j gn f10_ rfl rfl rfl (by omega) ?_
        refine i_loadRow ((wordZ m Z i) ++ ([(iterZ m i Z) % m.mod])) j gn f11_ rfl rfl (by omega) ?_
        refine n_as (v' := (Nv ((((wordZ m Z i) ++ ([iterZ m i Z % m.mod])).getD j 0).toNat))) (nm_int (by have hwj := isW_get (show IsW m ((wordZ m Z i) ++ ([iterZ m i Z % m.mod])) from hW1) (show j < ((wordZ m Z i) ++ ([iterZ m i Z % m.mod])).length by assumption); omega)) ?_
        refine o_as (Nv ((((wordZ m Z i) ++ ([iterZ m i Z % m.mod])).getD j 0).toNat)) rfl (aops_end (hK37 _ ?_))
        refine awp_wk (σ' := ⟨[(2, .ref 204 0), (4, .ref 205 0), (5, .ref 206 0), (6, .clo 84 [.ref 204 0, .ref 206 0]), (14, .row 203), (15, Nv (((wordZ m Z i) ++ ([(iterZ m i Z) % m.mod])).length)), (16, Nv j), (17, bp (j < (((wordZ m Z i) ++ ([(iterZ m i Z) % m.mod])).length))), (18, .ref 203 j), (19, Nv ((((wordZ m Z i) ++ ([iterZ m i Z % m.mod])).getD j 0).toNat)), (8, Nv ((((wordZ m Z i) ++ ([iterZ m i Z % m.mod])).getD j 0).toNat))], [(9011, (.pin [.row 203, mapV m, Iv k, .ref 2 0, .ref 3 0, Iv (m.mod ^ (i + 1)), Iv Z, .ref 4 0, .row 203, Iv k, Nv i, (bp (((i : Nat) : Int) < k)), mapV m, intW (iterZ m i Z), .tup [intW (stepZ m (iterZ m i Z)), Iv ((iterZ m i Z) % m.mod)], .tup [intW (stepZ m (iterZ m i Z)), Iv ((iterZ m i Z) % m.mod)], intW (stepZ m (iterZ m i Z)), Iv ((iterZ m i Z) % m.mod), .ref 201 0, Iv ((iterZ m i Z) % m.mod), intW (stepZ m (iterZ m i Z)), .row 50, Iv ((iterZ m i Z) % m.mod), .row 202, .row 203, Iv (m.mod ^ i), .ref 2 0, Iv m.mod, Iv (m.mod ^ (i + 1))] us2)), (203, .row 3 1 (is .i64 ((wordZ m Z i) ++ ([(iterZ m i Z) % m.mod])))), (202, .row 3 1 (is .i64 ([(iterZ m i Z) % m.mod]))), (201, oZ 79 .u32 (stepZ m (iterZ m i Z))), (2, oM 24 m), (3, .var 40 [Nv 0, Nv 0, Sv Ev, Sv Ev, Sv Ev, Sv Ev]), (4, oZ 79 .u32 (stepZ m (iterZ m i Z))), (204, oM 24 m), (205, .var 81 [Fv, Zv, Fv, Zv, Fv, Zv]), (206, .var 81 [Bv (l.mul), Dv (l.mul), Bv (l.add), Dv (l.add), Bv (l.div), Dv (l.div)])]⟩) (Wk.sub ⟨rfl, rfl, rfl, rfl, rfl, rfl, rfl, rfl, rfl, rfl, rfl, trivial⟩ ⟨rfl, rfl, rfl, rfl, rfl, rfl, rfl, rfl, rfl, rfl, trivial⟩) ?_
        refine awp_regionSK 2 22 _ 84 [.ref 204 0, .ref 206 0] _ _ _ _ _ [Nv ((((wordZ m Z i) ++ ([iterZ m i Z % m.mod])).getD j 0).toNat), .ref 204 0, .ref 206 0] (linW (thenZ m l (((wordZ m Z i) ++ ([iterZ m i Z % m.mod])).getD j 0))) [(9011, (.pin [.row 203, mapV m, Iv k, .ref 2 0, .ref 3 0, Iv (m.mod ^ (i + 1)), Iv Z, .ref 4 0, .row 203, Iv k, Nv i, (bp (((i : Nat) : Int) < k)), mapV m, intW (iterZ m i Z), .tup [intW (stepZ m (iterZ m i Z)), Iv ((iterZ m i Z) % m.mod)], .tup [intW (stepZ m (iterZ m i Z)), Iv ((iterZ m i Z) % m.mod)], intW (stepZ m (iterZ m i Z)), Iv ((iterZ m i Z) % m.mod), .ref 201 0, Iv ((iterZ m i Z) % m.mod), intW (stepZ m (iterZ m i Z)), .row 50, Iv ((iterZ m i Z) % m.mod), .row 202, .row 203, Iv (m.mod ^ i), .ref 2 0, Iv m.mod, Iv (m.mod ^ (i + 1))] us2)), (203, .row 3 1 (is .i64 ((wordZ m Z i) ++ ([(iterZ m i Z) % m.mod])))), (202, .row 3 1 (is .i64 ([(iterZ m i Z) % m.mod]))), (201, oZ 79 .u32 (stepZ m (iterZ m i Z))), (2, oM 24 m), (3, .var 40 [Nv 0, Nv 0, Sv Ev, Sv Ev, Sv Ev, Sv Ev]), (4, oZ 79 .u32 (stepZ m (iterZ m i Z))), (204, oM 24 m), (205, .var 81 [Fv, Zv, Fv, Zv, Fv, Zv]), (206, .var 81 [Bv (l.mul), Dv (l.mul), Bv (l.add), Dv (l.add), Bv (l.div), Dv (l.div)])] rfl rfl f81_ ?_
        refine o_mv (.clo 84 [.ref 204 0, .ref 206 0]) rfl (o_mv (Nv ((((wordZ m Z i) ++ ([iterZ m i Z % m.mod])).getD j 0).toNat)) rfl ?_)
        refine aops_end ⟨rfl, rfl, ?sc4, ?_⟩
        case sc4 =>
         refine scalls_of_awpB 9013 Tryz.func84 (c := _) rfl (Nat.le_of_ble_eq_true rfl) rfl rfl rfl (fun us4 => ?_)
         show awp cx 37 _ (postS cx Tryz.f84 (linW (thenZ m l (((wordZ m Z i) ++ ([iterZ m i Z % m.mod])).getD j 0))) [(9011, (.pin [.row 203, mapV m, Iv k, .ref 2 0, .ref 3 0, Iv (m.mod ^ (i + 1)), Iv Z, .ref 4 0, .row 203, Iv k, Nv i, (bp (((i : Nat) : Int) < k)), mapV m, intW (iterZ m i Z), .tup [intW (stepZ m (iterZ m i Z)), Iv ((iterZ m i Z) % m.mod)], .tup [intW (stepZ m (iterZ m i Z)), Iv ((iterZ m i Z) % m.mod)], intW (stepZ m (iterZ m i Z)), Iv ((iterZ m i Z) % m.mod), .ref 201 0, Iv ((iterZ m i Z) % m.mod), intW (stepZ m (iterZ m i Z)), .row 50, Iv ((iterZ m i Z) % m.mod), .row 202, .row 203, Iv (m.mod ^ i), .ref 2 0, Iv m.mod, Iv (m.mod ^ (i + 1))] us2)), (203, .row 3 1 (is .i64 ((wordZ m Z i) ++ ([(iterZ m i Z) % m.mod])))), (202, .row 3 1 (is .i64 ([(iterZ m i Z) % m.mod]))), (201, oZ 79 .u32 (stepZ m (iterZ m i Z))), (2, oM 24 m), (3, .var 40 [Nv 0, Nv 0, Sv Ev, Sv Ev, Sv Ev, Sv Ev]), (4, oZ 79 .u32 (stepZ m (iterZ m i Z))), (204, oM 24 m), (205, .var 81 [Fv, Zv, Fv, Zv, Fv, Zv]), (206, .var 81 [Bv (l.mul), Dv (l.mul), Bv (l.add), Dv (l.add), Bv (l.div), Dv (l.div)])] 9013 [Nv ((((wordZ m Z i) ++ ([iterZ m i Z % m.mod])).getD j 0).toNat), .clo 84 [.ref 204 0, .ref 206 0], .ref 204 0, .ref 205 0, .ref 206 0, .clo 84 [.ref 204 0, .ref 206 0], .row 203, Nv (((wordZ m Z i) ++ ([(iterZ m i Z) % m.mod])).length), Nv j, bp (j < (((wordZ m Z i) ++ ([(iterZ m i Z) % m.mod])).length)), .ref 203 j, Nv ((((wordZ m Z i) ++ ([iterZ m i Z % m.mod])).getD j 0).toNat), Nv ((((wordZ m Z i) ++ ([iterZ m i Z % m.mod])).getD j 0).toNat)] us4) ⟨[(0, Nv ((((wordZ m Z i) ++ ([iterZ m i Z % m.mod])).getD j 0).toNat)), (1, .ref 204 0), (2, .ref 206 0)], [(9013, .pin [Nv ((((wordZ m Z i) ++ ([iterZ m i Z % m.mod])).getD j 0).toNat), .clo 84 [.ref 204 0, .ref 206 0], .ref 204 0, .ref 205 0, .ref 206 0, .clo 84 [.ref 204 0, .ref 206 0], .row 203, Nv (((wordZ m Z i) ++ ([(iterZ m i Z) % m.mod])).length), Nv j, bp (j < (((wordZ m Z i) ++ ([(iterZ m i Z) % m.mod])).length)), .ref 203 j, Nv ((((wordZ m Z i) ++ ([iterZ m i Z % m.mod])).getD j 0).toNat), Nv ((((wordZ m Z i) ++ ([iterZ m i Z % m.mod])).getD j 0).toNat)] us4), (9011, (.pin [.row 203, mapV m, Iv k, .ref 2 0, .ref 3 0, Iv (m.mod ^ (i + 1)), Iv Z, .ref 4 0, .row 203, Iv k, Nv i, (bp (((i : Nat) : Int) < k)), mapV m, intW (iterZ m i Z), .tup [intW (stepZ m (iterZ m i Z)), Iv ((iterZ m i Z) % m.mod)], .tup [intW (stepZ m (iterZ m i Z)), Iv ((iterZ m i Z) % m.mod)], intW (stepZ m (iterZ m i Z)), Iv ((iterZ m i Z) % m.mod), .ref 201 0, Iv ((iterZ m i Z) % m.mod), intW (stepZ m (iterZ m i Z)), .row 50, Iv ((iterZ m i Z) % m.mod), .row 202, .row 203, Iv (m.mod ^ i), .ref 2 0, Iv m.mod, Iv (m.mod ^ (i + 1))] us2)), (203, .row 3 1 (is .i64 ((wordZ m Z i) ++ ([(iterZ m i Z) % m.mod])))), (202, .row 3 1 (is .i64 ([(iterZ m i Z) % m.mod]))), (201, oZ 79 .u32 (stepZ m (iterZ m i Z))), (2, oM 24 m), (3, .var 40 [Nv 0, Nv 0, Sv Ev, Sv Ev, Sv Ev, Sv Ev]), (4, oZ 79 .u32 (stepZ m (iterZ m i Z))), (204, oM 24 m), (205, .var 81 [Fv, Zv, Fv, Zv, Fv, Zv]), (206, .var 81 [Bv (l.mul), Dv (l.mul), Bv (l.add), Dv (l.add), Bv (l.div), Dv (l.div)])]⟩
         have hwj := isW_get (show IsW m ((wordZ m Z i) ++ ([iterZ m i Z % m.mod])) from hW1) (show j < ((wordZ m Z i) ++ ([iterZ m i Z % m.mod])).length by assumption)
         have hor := o5 ((((wordZ m Z i) ++ ([iterZ m i Z % m.mod])).getD j 0).toNat) (by omega)
         obtain ⟨J1, J2, J3⟩ := line_len hM (((wordZ m Z i) ++ ([iterZ m i Z % m.mod])).take j) (isW_take (show IsW m ((wordZ m Z i) ++ ([iterZ m i Z % m.mod])) from hW1) j)
         have J4 : (((wordZ m Z i) ++ ([iterZ m i Z % m.mod])).take j).length ≤ 200 := by rw [List.length_take]; omega
         rw [← hl2] at J1 J2 J3
         have hq1 := small_len (z := ((m.mul).getD ((((wordZ m Z i) ++ ([iterZ m i Z % m.mod])).getD j 0).toNat) 0)) (by omega)
         have ha1 := small_len (z := ((m.add).getD ((((wordZ m Z i) ++ ([iterZ m i Z % m.mod])).getD j 0).toNat) 0)) (by omega)
         have hd1 := small_len (z := m.mod) (by omega)
         have hm1 := len_mulZ l.mul ((m.mul).getD ((((wordZ m Z i) ++ ([iterZ m i Z % m.mod])).getD j 0).toNat) 0)
         have hm2 := len_mulZ l.add ((m.mul).getD ((((wordZ m Z i) ++ ([iterZ m i Z % m.mod])).getD j 0).toNat) 0)
         have hm3 := len_mulZ l.div ((m.add).getD ((((wordZ m Z i) ++ ([iterZ m i Z % m.mod])).getD j 0).toNat) 0)
         refine awp_seq fun K38 hK38 => awp_region rfl ?_
         refine o_alloc 401 [Fv, Zv, Fv, Zv, Fv, Zv] gn f78_ rfl rfl rfl ?_
         refine aops_end (hK38 _ (awp_seq fun K39 hK39 => awp_region rfl ?_))
         refine o_fieldRef 1 gn f61_ rfl rfl ?_
         refine o_loadS (Lv m.mul) gn f1_ rfl rfl rfl ?_
         refine o_mv (Nv ((((wordZ m Z i) ++ ([iterZ m i Z % m.mod])).getD j 0).toNat)) rfl ?_
         refine i_index m.mul ((((wordZ m Z i) ++ ([iterZ m i Z % m.mod])).getD j 0).toNat) gn f10_ rfl rfl (by omega) ?_
         refine i_loadI m.mul ((((wordZ m Z i) ++ ([iterZ m i Z % m.mod])).getD j 0).toNat) gn f11_ rfl (by omega) ?_
         refine o_ct (c_wOf ((m.mul).getD ((((wordZ m Z i) ++ ([iterZ m i Z % m.mod])).getD j 0).toNat) 0) (by omega) (by omega)) gn f46_ rfl ?_
         refine o_alloc 402 [Fv, Zv] gn f15_ rfl rfl rfl ?_
         refine o_store [(402, oZ 79 .u32 ((m.mul).getD ((((wordZ m Z i) ++ ([iterZ m i Z % m.mod])).getD j 0).toNat) 0)), (401, .var 81 [Fv, Zv, Fv, Zv, Fv, Zv]), (9013, .pin [Nv ((((wordZ m Z i) ++ ([iterZ m i Z % m.mod])).getD j 0).toNat), .clo 84 [.ref 204 0, .ref 206 0], .ref 204 0, .ref 205 0, .ref 206 0, .clo 84 [.ref 204 0, .ref 206 0], .row 203, Nv (((wordZ m Z i) ++ ([(iterZ m i Z) % m.mod])).length), Nv j, bp (j < (((wordZ m Z i) ++ ([(iterZ m i Z) % m.mod])).length)), .ref 203 j, Nv ((((wordZ m Z i) ++ ([iterZ m i Z % m.mod])).getD j 0).toNat), Nv ((((wordZ m Z i) ++ ([iterZ m i Z % m.mod])).getD j 0).toNat)] us4), (9011, (.pin [.row 203, mapV m, Iv k, .ref 2 0, .ref 3 0, Iv (m.mod ^ (i + 1)), Iv Z, .ref 4 0, .row 203, Iv k, Nv i, (bp (((i : Nat) : Int) < k)), mapV m, intW (iterZ m i Z), .tup [intW (stepZ m (iterZ m i Z)), Iv ((iterZ m i Z) % m.mod)], .tup [intW (stepZ m (iterZ m i Z)), Iv ((iterZ m i Z) % m.mod)], intW (stepZ m (iterZ m i Z)), Iv ((iterZ m i Z) % m.mod), .ref 201 0, Iv ((iterZ m i Z) % m.mod), intW (stepZ m (iterZ m i Z)), .row 50, Iv ((iterZ m i Z) % m.mod), .row 202, .row 203, Iv (m.mod ^ i), .ref 2 0, Iv m.mod, Iv (m.mod ^ (i + 1))] us2)), (203, .row 3 1 (is .i64 ((wordZ m Z i) ++ ([(iterZ m i Z) % m.mod])))), (202, .row 3 1 (is .i64 ([(iterZ m i Z) % m.mod]))), (201, oZ 79 .u32 (stepZ m (iterZ m i Z))), (2, oM 24 m), (3, .var 40 [Nv 0, Nv 0, Sv Ev, Sv Ev, Sv Ev, Sv Ev]), (4, oZ 79 .u32 (stepZ m (iterZ m i Z))), (204, oM 24 m), (205, .var 81 [Fv, Zv, Fv, Zv, Fv, Zv]), (206, .var 81 [Bv (l.mul), Dv (l.mul), Bv (l.add), Dv (l.add), Bv (l.div), Dv (l.div)])] gn f19_ rfl rfl rfl rfl rfl rfl ?_
         refine aops_end (hK39 _ (awp_seq fun K40 hK40 => awp_regionD rfl ?_))
         refine o_fieldRef 0 gn f82_ rfl rfl ?_
         refine o_loadA [Bv (l.mul), Dv (l.mul)] gn f20_ rfl rfl rfl rfl rfl ?_
         refine o_loadA [bp ((m.mul).getD ((((wordZ m Z i) ++ ([iterZ m i Z % m.mod])).getD j 0).toNat) 0 < 0), .sl 1 (ns .u32 (digs ((m.mul).getD ((((wordZ m Z i) ++ ([iterZ m i Z % m.mod])).getD j 0).toNat) 0).natAbs))] gn f20_ rfl rfl rfl rfl rfl ?_
         refine o_ct (c_wMul (l.mul) ((m.mul).getD ((((wordZ m Z i) ++ ([iterZ m i Z % m.mod])).getD j 0).toNat) 0) (by omega) (by omega)) gn f68_ rfl ?_
         refine o_fieldRef 2 gn f83_ rfl rfl ?_
         refine o_loadA [Bv (l.add), Dv (l.add)] gn f20_ rfl rfl rfl rfl rfl ?_
         refine o_loadA [bp ((m.mul).getD ((((wordZ m Z i) ++ ([iterZ m i Z % m.mod])).getD j 0).toNat) 0 < 0), .sl 1 (ns .u32 (digs ((m.mul).getD ((((wordZ m Z i) ++ ([iterZ m i Z % m.mod])).getD j 0).toNat) 0).natAbs))] gn f20_ rfl rfl rfl rfl rfl ?_
         refine o_ct (c_wMul (l.add) ((m.mul).getD ((((wordZ m Z i) ++ ([iterZ m i Z % m.mod])).getD j 0).toNat) 0) (by omega) (by omega)) gn f68_ rfl ?_
         refine o_fieldRef 4 gn f84_ rfl rfl ?_
         refine o_loadA [Bv (l.div), Dv (l.div)] gn f20_ rfl rfl rfl rfl rfl ?_
         refine o_fieldRef 2 gn f62_ rfl rfl ?_
         refine o_loadS (Lv m.add) gn f1_ rfl rfl rfl ?_
         refine o_mv (Nv ((((wordZ m Z i) ++ ([iterZ m i Z % m.mod])).getD j 0).toNat)) rfl ?_
         refine i_index m.add ((((wordZ m Z i) ++ ([iterZ m i Z % m.mod])).getD j 0).toNat) gn f10_ rfl rfl (by omega) ?_
         refine i_loadI m.add ((((wordZ m Z i) ++ ([iterZ m i Z % m.mod])).getD j 0).toNat) gn f11_ rfl (by omega) ?_
         refine o_ct (c_wOf ((m.add).getD ((((wordZ m Z i) ++ ([iterZ m i Z % m.mod])).getD j 0).toNat) 0) (by omega) (by omega)) gn f46_ rfl ?_
         refine o_ct (c_wMul (l.div) ((m.add).getD ((((wordZ m Z i) ++ ([iterZ m i Z % m.mod])).getD j 0).toNat) 0) (by omega) (by omega)) gn f68_ rfl ?_
         refine o_ct (c_wAdd ((l.add) * (m.mul).getD ((((wordZ m Z i) ++ ([iterZ m i Z % m.mod])).getD j 0).toNat) 0) ((l.div) * (m.add).getD ((((wordZ m Z i) ++ ([iterZ m i Z % m.mod])).getD j 0).toNat) 0) (by omega) (by omega)) gn f40_ rfl ?_
         refine o_fieldRef 4 gn f84_ rfl rfl ?_
         refine o_loadA [Bv (l.div), Dv (l.div)] gn f20_ rfl rfl rfl rfl rfl ?_
         refine o_fieldRef 0 gn f60_ rfl rfl ?_
         refine o_loadS (Iv m.mod) gn f11_ rfl rfl rfl ?_
         refine o_ct (c_wOf m.mod (by omega) (by omega)) gn f46_ rfl ?_
         refine o_ct (c_wMul (l.div) m.mod (by omega) (by omega)) gn f68_ rfl ?_
         refine o_build [bp (((l.mul) * (m.mul).getD ((((wordZ m Z i) ++ ([iterZ m i Z % m.mod])).getD j 0).toNat) 0) < 0), .sl 1 (ns .u32 (digs ((l.mul) * (m.mul).getD ((((wordZ m Z i) ++ ([iterZ m i Z % m.mod])).getD j 0).toNat) 0).natAbs)), bp ((((l.add) * (m.mul).getD ((((wordZ m Z i) ++ ([iterZ m i Z % m.mod])).getD j 0).toNat) 0) + ((l.div) * (m.add).getD ((((wordZ m Z i) ++ ([iterZ m i Z % m.mod])).getD j 0).toNat) 0)) < 0), .sl 1 (ns .u32 (digs (((l.add) * (m.mul).getD ((((wordZ m Z i) ++ ([iterZ m i Z % m.mod])).getD j 0).toNat) 0) + ((l.div) * (m.add).getD ((((wordZ m Z i) ++ ([iterZ m i Z % m.mod])).getD j 0).toNat) 0)).natAbs)), bp (((l.div) * m.mod) < 0), .sl 1 (ns .u32 (digs ((l.div) * m.mod).natAbs))] [(0, [bp (((l.mul) * (m.mul).getD ((((wordZ m Z i) ++ ([iterZ m i Z % m.mod])).getD j 0).toNat) 0) < 0), .sl 1 (ns .u32 (digs ((l.mul) * (m.mul).getD ((((wordZ m Z i) ++ ([iterZ m i Z % m.mod])).getD j 0).toNat) 0).natAbs))]), (1, [bp ((((l.add) * (m.mul).getD ((((wordZ m Z i) ++ ([iterZ m i Z % m.mod])).getD j 0).toNat) 0) + ((l.div) * (m.add).getD ((((wordZ m Z i) ++ ([iterZ m i Z % m.mod])).getD j 0).toNat) 0)) < 0), .sl 1 (ns .u32 (digs (((l.add) * (m.mul).getD ((((wordZ m Z i) ++ ([iterZ m i Z % m.mod])).getD j 0).toNat) 0) + ((l.div) * (m.add).getD ((((wordZ m Z i) ++ ([iterZ m i Z % m.mod])).getD j 0).toNat) 0)).natAbs))]), (2, [bp (((l.div) * m.mod) < 0), .sl 1 (ns .u32 (digs ((l.div) * m.mod).natAbs))])] gn f79_ f78_ rfl rfl rfl ?_
         refine o_store [(402, oZ 79 .u32 ((m.mul).getD ((((wordZ m Z i) ++ ([iterZ m i Z % m.mod])).getD j 0).toNat) 0)), (401, .var 81 [bp (((l.mul) * (m.mul).getD ((((wordZ m Z i) ++ ([iterZ m i Z % m.mod])).getD j 0).toNat) 0) < 0), .sl 1 (ns .u32 (digs ((l.mul) * (m.mul).getD ((((wordZ m Z i) ++ ([iterZ m i Z % m.mod])).getD j 0).toNat) 0).natAbs)), bp ((((l.add) * (m.mul).getD ((((wordZ m Z i) ++ ([iterZ m i Z % m.mod])).getD j 0).toNat) 0) + ((l.div) * (m.add).getD ((((wordZ m Z i) ++ ([iterZ m i Z % m.mod])).getD j 0).toNat) 0)) < 0), .sl 1 (ns .u32 (digs (((l.add) * (m.mul).getD ((((wordZ m Z i) ++ ([iterZ m i Z % m.mod])).getD j 0).toNat) 0) + ((l.div) * (m.add).getD ((((wordZ m Z i) ++ ([iterZ m i Z % m.mod])).getD j 0).toNat) 0)).natAbs)), bp (((l.div) * m.mod) < 0), .sl 1 (ns .u32 (digs ((l.div) * m.mod).natAbs))]), (9013, .pin [Nv ((((wordZ m Z i) ++ ([iterZ m i Z % m.mod])).getD j 0).toNat), .clo 84 [.ref 204 0, .ref 206 0], .ref 204 0, .ref 205 0, .ref 206 0, .clo 84 [.ref 204 0, .ref 206 0], .row 203, Nv (((wordZ m Z i) ++ ([(iterZ m i Z) % m.mod])).length), Nv j, bp (j < (((wordZ m Z i) ++ ([(iterZ m i Z) % m.mod])).length)), .ref 203 j, Nv ((((wordZ m Z i) ++ ([iterZ m i Z % m.mod])).getD j 0).toNat), Nv ((((wordZ m Z i) ++ ([iterZ m i Z % m.mod])).getD j 0).toNat)] us4), (9011, (.pin [.row 203, mapV m, Iv k, .ref 2 0, .ref 3 0, Iv (m.mod ^ (i + 1)), Iv Z, .ref 4 0, .row 203, Iv k, Nv i, (bp (((i : Nat) : Int) < k)), mapV m, intW (iterZ m i Z), .tup [intW (stepZ m (iterZ m i Z)), Iv ((iterZ m i Z) % m.mod)], .tup [intW (stepZ m (iterZ m i Z)), Iv ((iterZ m i Z) % m.mod)], intW (stepZ m (iterZ m i Z)), Iv ((iterZ m i Z) % m.mod), .ref 201 0, Iv ((iterZ m i Z) % m.mod), intW (stepZ m (iterZ m i Z)), .row 50, Iv ((iterZ m i Z) % m.mod), .row 202, .row 203, Iv (m.mod ^ i), .ref 2 0, Iv m.mod, Iv (m.mod ^ (i + 1))] us2)), (203, .row 3 1 (is .i64 ((wordZ m Z i) ++ ([(iterZ m i Z) % m.mod])))), (202, .row 3 1 (is .i64 ([(iterZ m i Z) % m.mod]))), (201, oZ 79 .u32 (stepZ m (iterZ m i Z))), (2, oM 24 m), (3, .var 40 [Nv 0, Nv 0, Sv Ev, Sv Ev, Sv Ev, Sv Ev]), (4, oZ 79 .u32 (stepZ m (iterZ m i Z))), (204, oM 24 m), (205, .var 81 [Fv, Zv, Fv, Zv, Fv, Zv]), (206, .var 81 [Bv (l.mul), Dv (l.mul), Bv (l.add), Dv (l.add), Bv (l.div), Dv (l.div)])] gn f80_ rfl rfl rfl rfl rfl rfl ?_
         refine aops_end ⟨by kernel_rfl, ?_⟩
         refine hK40 _ ?_
         refine awp_wk (σ' := ⟨[(4, .ref 401 0)], [(9013, .pin [Nv ((((wordZ m Z i) ++ ([iterZ m i Z % m.mod])).getD j 0).toNat), .clo 84 [.ref 204 0, .ref 206 0], .ref 204 0, .ref 205 0, .ref 206 0, .clo 84 [.ref 204 0, .ref 206 0], .row 203, Nv (((wordZ m Z i) ++ ([(iterZ m i Z) % m.mod])).length), Nv j, bp (j < (((wordZ m Z i) ++ ([(iterZ m i Z) % m.mod])).length)), .ref 203 j, Nv ((((wordZ m Z i) ++ ([iterZ m i Z % m.mod])).getD j 0).toNat), Nv ((((wordZ m Z i) ++ ([iterZ m i Z % m.mod])).getD j 0).toNat)] us4), (9011, (.pin [.row 203, mapV m, Iv k, .ref 2 0, .ref 3 0, Iv (m.mod ^ (i + 1)), Iv Z, .ref 4 0, .row 203, Iv k, Nv i, (bp (((i : Nat) : Int) < k)), mapV m, intW (iterZ m i Z), .tup [intW (stepZ m (iterZ m i Z)), Iv ((iterZ m i Z) % m.mod)], .tup [intW (stepZ m (iterZ m i Z)), Iv ((iterZ m i Z) % m.mod)], intW (stepZ m (iterZ m i Z)), Iv ((iterZ m i Z) % m.mod), .ref 201 0, Iv ((iterZ m i Z) % m.mod), intW (stepZ m (iterZ m i Z)), .row 50, Iv ((iterZ m i Z) % m.mod), .row 202, .row 203, Iv (m.mod ^ i), .ref 2 0, Iv m.mod, Iv (m.mod ^ (i + 1))] us2)), (203, .row 3 1 (is .i64 ((wordZ m Z i) ++ ([(iterZ m i Z) % m.mod])))), (202, .row 3 1 (is .i64 ([(iterZ m i Z) % m.mod]))), (201, oZ 79 .u32 (stepZ m (iterZ m i Z))), (2, oM 24 m), (3, .var 40 [Nv 0, Nv 0, Sv Ev, Sv Ev, Sv Ev, Sv Ev]), (4, oZ 79 .u32 (stepZ m (iterZ m i Z))), (204, oM 24 m), (205, .var 81 [Fv, Zv, Fv, Zv, Fv, Zv]), (206, .var 81 [Bv (l.mul), Dv (l.mul), Bv (l.add), Dv (l.add), Bv (l.div), Dv (l.div)]), (401, .var 81 [bp (((l.mul) * (m.mul).getD ((((wordZ m Z i) ++ ([iterZ m i Z % m.mod])).getD j 0).toNat) 0) < 0), .sl 1 (ns .u32 (digs ((l.mul) * (m.mul).getD ((((wordZ m Z i) ++ ([iterZ m i Z % m.mod])).getD j 0).toNat) 0).natAbs)), bp ((((l.add) * (m.mul).getD ((((wordZ m Z i) ++ ([iterZ m i Z % m.mod])).getD j 0).toNat) 0) + ((l.div) * (m.add).getD ((((wordZ m Z i) ++ ([iterZ m i Z % m.mod])).getD j 0).toNat) 0)) < 0), .sl 1 (ns .u32 (digs (((l.add) * (m.mul).getD ((((wordZ m Z i) ++ ([iterZ m i Z % m.mod])).getD j 0).toNat) 0) + ((l.div) * (m.add).getD ((((wordZ m Z i) ++ ([iterZ m i Z % m.mod])).getD j 0).toNat) 0)).natAbs)), bp (((l.div) * m.mod) < 0), .sl 1 (ns .u32 (digs ((l.div) * m.mod).natAbs))])]⟩) (Wk.sub ⟨rfl, trivial⟩ ⟨rfl, rfl, rfl, rfl, rfl, rfl, rfl, rfl, rfl, rfl, rfl, rfl, trivial⟩) ?_
         refine awp_ret ?_
         try dsimp only [thenK, inBlk]
         refine postS_ret (extra := [(401, .var 81 [bp (((l.mul) * (m.mul).getD ((((wordZ m Z i) ++ ([iterZ m i Z % m.mod])).getD j 0).toNat) 0) < 0), .sl 1 (ns .u32 (digs ((l.mul) * (m.mul).getD ((((wordZ m Z i) ++ ([iterZ m i Z % m.mod])).getD j 0).toNat) 0).natAbs)), bp ((((l.add) * (m.mul).getD ((((wordZ m Z i) ++ ([iterZ m i Z % m.mod])).getD j 0).toNat) 0) + ((l.div) * (m.add).getD ((((wordZ m Z i) ++ ([iterZ m i Z % m.mod])).getD j 0).toNat) 0)) < 0), .sl 1 (ns .u32 (digs (((l.add) * (m.mul).getD ((((wordZ m Z i) ++ ([iterZ m i Z % m.mod])).getD j 0).toNat) 0) + ((l.div) * (m.add).getD ((((wordZ m Z i) ++ ([iterZ m i Z % m.mod])).getD j 0).toNat) 0)).natAbs)), bp (((l.div) * m.mod) < 0), .sl 1 (ns .u32 (digs ((l.div) * m.mod).natAbs))])]) ?_ rfl
         refine ⟨[.agg [bp (((l.mul) * (m.mul).getD ((((wordZ m Z i) ++ ([iterZ m i Z % m.mod])).getD j 0).toNat) 0) < 0), .sl 1 (ns .u32 (digs ((l.mul) * (m.mul).getD ((((wordZ m Z i) ++ ([iterZ m i Z % m.mod])).getD j 0).toNat) 0).natAbs)), bp ((((l.add) * (m.mul).getD ((((wordZ m Z i) ++ ([iterZ m i Z % m.mod])).getD j 0).toNat) 0) + ((l.div) * (m.add).getD ((((wordZ m Z i) ++ ([iterZ m i Z % m.mod])).getD j 0).toNat) 0)) < 0), .sl 1 (ns .u32 (digs (((l.add) * (m.mul).getD ((((wordZ m Z i) ++ ([iterZ m i Z % m.mod])).getD j 0).toNat) 0) + ((l.div) * (m.add).getD ((((wordZ m Z i) ++ ([iterZ m i Z % m.mod])).getD j 0).toNat) 0)).natAbs)), bp (((l.div) * m.mod) < 0), .sl 1 (ns .u32 (digs ((l.div) * m.mod).natAbs))]], ⟨⟨401, .var 81 [bp (((l.mul) * (m.mul).getD ((((wordZ m Z i) ++ ([iterZ m i Z % m.mod])).getD j 0).toNat) 0) < 0), .sl 1 (ns .u32 (digs ((l.mul) * (m.mul).getD ((((wordZ m Z i) ++ ([iterZ m i Z % m.mod])).getD j 0).toNat) 0).natAbs)), bp ((((l.add) * (m.mul).getD ((((wordZ m Z i) ++ ([iterZ m i Z % m.mod])).getD j 0).toNat) 0) + ((l.div) * (m.add).getD ((((wordZ m Z i) ++ ([iterZ m i Z % m.mod])).getD j 0).toNat) 0)) < 0), .sl 1 (ns .u32 (digs (((l.add) * (m.mul).getD ((((wordZ m Z i) ++ ([iterZ m i Z % m.mod])).getD j 0).toNat) 0) + ((l.div) * (m.add).getD ((((wordZ m Z i) ++ ([iterZ m i Z % m.mod])).getD j 0).toNat) 0)).natAbs)), bp (((l.div) * m.mod) < 0), .sl 1 (ns .u32 (digs ((l.div) * m.mod).natAbs))], rfl, rfl, rfl, Or.inl ⟨f85_, AV.le_refl _⟩⟩, trivial⟩, ?_⟩
         exact linK_eq (Int.mul_comm _ _) (congr (congrArg HAdd.hAdd (Int.mul_comm _ _)) (Int.mul_comm _ _)) rfl
        refine o_store [(9011, (.pin [.row 203, mapV m, Iv k, .ref 2 0, .ref 3 0, Iv (m.mod ^ (i + 1)), Iv Z, .ref 4 0, .row 203, Iv k, Nv i, (bp (((i : Nat) : Int) < k)), mapV m, intW (iterZ m i Z), .tup [intW (stepZ m (iterZ m i Z)), Iv ((iterZ m i Z) % m.mod)], .tup [intW (stepZ m (iterZ m i Z)), Iv ((iterZ m i Z) % m.mod)], intW (stepZ m (iterZ m i Z)), Iv ((iterZ m i Z) % m.mod), .ref 201 0, Iv ((iterZ m i Z) % m.mod), intW (stepZ m (iterZ m i Z)), .row 50, Iv ((iterZ m i Z) % m.mod), .row 202, .row 203, Iv (m.mod ^ i), .ref 2 0, Iv m.mod, Iv (m.mod ^ (i + 1))] us2)), (203, .row 3 1 (is .i64 ((wordZ m Z i) ++ ([(iterZ m i Z) % m.mod])))), (202, .row 3 1 (is .i64 ([(iterZ m i Z) % m.mod]))), (201, oZ 79 .u32 (stepZ m (iterZ m i Z))), (2, oM 24 m), (3, .var 40 [Nv 0, Nv 0, Sv Ev, Sv Ev, Sv Ev, Sv Ev]), (4, oZ 79 .u32 (stepZ m (iterZ m i Z))), (204, oM 24 m), (205, .var 81 [Fv, Zv, Fv, Zv, Fv, Zv]), (206, .var 81 [Bv ((thenZ m l (((wordZ m Z i) ++ ([iterZ m i Z % m.mod])).getD j 0)).mul), Dv ((thenZ m l (((wordZ m Z i) ++ ([iterZ m i Z % m.mod])).getD j 0)).mul), Bv ((thenZ m l (((wordZ m Z i) ++ ([iterZ m i Z % m.mod])).getD j 0)).add), Dv ((thenZ m l (((wordZ m Z i) ++ ([iterZ m i Z % m.mod])).getD j 0)).add), Bv ((thenZ m l (((wordZ m Z i) ++ ([iterZ m i Z % m.mod])).getD j 0)).div), Dv ((thenZ m l (((wordZ m Z i) ++ ([iterZ m i Z % m.mod])).getD j 0)).div)])] gn f80_ rfl rfl rfl rfl rfl rfl ?_
        refine aops_end (hK36 _ (awp_region rfl ?_))
        refine n_add j 1 gn rfl rfl (by simp only [topOf]; omega) ?_
        refine o_mv (Nv (j + 1)) rfl (aops_end ?_)
        refine ⟨_, _, ?lt, ⟨j + 1, thenZ m l (((wordZ m Z i) ++ ([(iterZ m i Z) % m.mod])).getD j 0), (by omega), (by rw [hl2]; exact lineZ_next (by assumption)), rfl, rfl⟩, ?wk⟩
        case lt => omega
        case wk => exact Wk.sub ⟨rfl, rfl, rfl, rfl, rfl, rfl, (by rfl), trivial⟩ ⟨rfl, rfl, rfl, rfl, rfl, rfl, rfl, rfl, rfl, rfl, trivial⟩
       ·refine awp_exit ?_
        refine hK32 _ (awp_seq fun K41 hK41 => awp_region rfl ?_)
        refine o_loadA [Bv (l.mul), Dv (l.mul), Bv (l.add), Dv (l.add), Bv (l.div), Dv (l.div)] gn f85_ rfl rfl rfl rfl rfl ?_
        refine o_store [(9011, (.pin [.row 203, mapV m, Iv k, .ref 2 0, .ref 3 0, Iv (m.mod ^ (i + 1)), Iv Z, .ref 4 0, .row 203, Iv k, Nv i, (bp (((i : Nat) : Int) < k)), mapV m, intW (iterZ m i Z), .tup [intW (stepZ m (iterZ m i Z)), Iv ((iterZ m i Z) % m.mod)], .tup [intW (stepZ m (iterZ m i Z)), Iv ((iterZ m i Z) % m.mod)], intW (stepZ m (iterZ m i Z)), Iv ((iterZ m i Z) % m.mod), .ref 201 0, Iv ((iterZ m i Z) % m.mod), intW (stepZ m (iterZ m i Z)), .row 50, Iv ((iterZ m i Z) % m.mod), .row 202, .row 203, Iv (m.mod ^ i), .ref 2 0, Iv m.mod, Iv (m.mod ^ (i + 1))] us2)), (203, .row 3 1 (is .i64 ((wordZ m Z i) ++ ([(iterZ m i Z) % m.mod])))), (202, .row 3 1 (is .i64 ([(iterZ m i Z) % m.mod]))), (201, oZ 79 .u32 (stepZ m (iterZ m i Z))), (2, oM 24 m), (3, .var 40 [Nv 0, Nv 0, Sv Ev, Sv Ev, Sv Ev, Sv Ev]), (4, oZ 79 .u32 (stepZ m (iterZ m i Z))), (204, oM 24 m), (205, .var 81 [Bv (l.mul), Dv (l.mul), Bv (l.add), Dv (l.add), Bv (l.div), Dv (l.div)]), (206, .var 81 [Bv (l.mul), Dv (l.mul), Bv (l.add), Dv (l.add), Bv (l.div), Dv (l.div)])] gn f80_ rfl rfl rfl rfl rfl rfl ?_
        refine aops_end (hK41 _ ?_)
        refine awp_wk (σ' := ⟨[(4, .ref 205 0)], [(9011, (.pin [.row 203, mapV m, Iv k, .ref 2 0, .ref 3 0, Iv (m.mod ^ (i + 1)), Iv Z, .ref 4 0, .row 203, Iv k, Nv i, (bp (((i : Nat) : Int) < k)), mapV m, intW (iterZ m i Z), .tup [intW (stepZ m (iterZ m i Z)), Iv ((iterZ m i Z) % m.mod)], .tup [intW (stepZ m (iterZ m i Z)), Iv ((iterZ m i Z) % m.mod)], intW (stepZ m (iterZ m i Z)), Iv ((iterZ m i Z) % m.mod), .ref 201 0, Iv ((iterZ m i Z) % m.mod), intW (stepZ m (iterZ m i Z)), .row 50, Iv ((iterZ m i Z) % m.mod), .row 202, .row 203, Iv (m.mod ^ i), .ref 2 0, Iv m.mod, Iv (m.mod ^ (i + 1))] us2)), (203, .row 3 1 (is .i64 ((wordZ m Z i) ++ ([(iterZ m i Z) % m.mod])))), (202, .row 3 1 (is .i64 ([(iterZ m i Z) % m.mod]))), (201, oZ 79 .u32 (stepZ m (iterZ m i Z))), (2, oM 24 m), (3, .var 40 [Nv 0, Nv 0, Sv Ev, Sv Ev, Sv Ev, Sv Ev]), (4, oZ 79 .u32 (stepZ m (iterZ m i Z))), (205, .var 81 [Bv (l.mul), Dv (l.mul), Bv (l.add), Dv (l.add), Bv (l.div), Dv (l.div)])]⟩) (Wk.sub ⟨rfl, trivial⟩ ⟨rfl, rfl, rfl, rfl, rfl, rfl, rfl, rfl, trivial⟩) ?_
        refine awp_ret ?_
        try dsimp only [thenK, inBlk]
        refine postS_ret (extra := [(205, .var 81 [Bv (l.mul), Dv (l.mul), Bv (l.add), Dv (l.add), Bv (l.div), Dv (l.div)])]) ?_ rfl
        refine ⟨[.agg [Bv (l.mul), Dv (l.mul), Bv (l.add), Dv (l.add), Bv (l.div), Dv (l.div)]], ⟨⟨205, .var 81 [Bv (l.mul), Dv (l.mul), Bv (l.add), Dv (l.add), Bv (l.div), Dv (l.div)], rfl, rfl, rfl, Or.inl ⟨f85_, AV.le_refl _⟩⟩, trivial⟩, ?_⟩
        have e9 : j = ((wordZ m Z i) ++ ([iterZ m i Z % m.mod])).length := (by omega); exact congrArg linW (by rw [hl2, e9, List.take_length]; rfl)
      refine o_alloc 204 [Fv, Zv, Fv, Zv, Fv, Zv] gn f78_ rfl rfl rfl ?_
      refine o_store [(204, .var 81 [Bv ((lineZ m (wordZ m Z (i + 1))).mul), Dv ((lineZ m (wordZ m Z (i + 1))).mul), Bv ((lineZ m (wordZ m Z (i + 1))).add), Dv ((lineZ m (wordZ m Z (i + 1))).add), Bv ((lineZ m (wordZ m Z (i + 1))).div), Dv ((lineZ m (wordZ m Z (i + 1))).div)]), (203, .row 3 1 (is .i64 ((wordZ m Z i) ++ ([(iterZ m i Z) % m.mod])))), (202, .row 3 1 (is .i64 ([(iterZ m i Z) % m.mod]))), (201, oZ 79 .u32 (stepZ m (iterZ m i Z))), (2, oM 24 m), (3, .var 40 [Nv 0, Nv 0, Sv Ev, Sv Ev, Sv Ev, Sv Ev]), (4, oZ 79 .u32 (stepZ m (iterZ m i Z)))] gn f80_ rfl rfl rfl rfl rfl rfl ?_
      refine aops_end (hK28 _ (awp_seq fun K42 hK42 => awp_region rfl ?_))
      refine o_fieldRef 0 gn f82_ rfl rfl ?_
      refine o_loadA [Bv ((lineZ m (wordZ m Z (i + 1))).mul), Dv ((lineZ m (wordZ m Z (i + 1))).mul)] gn f20_ rfl rfl rfl rfl rfl ?_
      refine o_fieldRef 4 gn f84_ rfl rfl ?_
      refine o_loadA [Bv ((lineZ m (wordZ m Z (i + 1))).div), Dv ((lineZ m (wordZ m Z (i + 1))).div)] gn f20_ rfl rfl rfl rfl rfl ?_
      refine o_ct (c_wCmp ((lineZ m (wordZ m Z (i + 1))).mul) ((lineZ m (wordZ m Z (i + 1))).div)) gn f134_ rfl ?_
      refine o_lss (a := (cmpZ ((lineZ m (wordZ m Z (i + 1))).mul) ((lineZ m (wordZ m Z (i + 1))).div))) (c := ((0 : Nat) : Int)) gn rfl rfl ?_
      refine aops_end (hK42 _ ?_)
      refine awp_condQ (q := (cmpZ ((lineZ m (wordZ m Z (i + 1))).mul) ((lineZ m (wordZ m Z (i + 1))).div)) < ((0 : Nat) : Int)) rfl (fun h7 => ?_) (fun h7 => ?_)
      ·refine awp_seq fun K43 hK43 => ?_
       have hfw : fallsW m (wordZ m Z (i + 1)) := lcmp.1 (by assumption)
       have hdm : 0 < (lineZ m (wordZ m Z (i + 1))).div - (lineZ m (wordZ m Z (i + 1))).mul := by unfold fallsW at hfw; omega
       have hfy := fnd_yes h0 hfw (k := k.toNat) (by omega)
       refine awp_regionD rfl (o_mv (.row 203) rfl ?_)
       refine o_lenRow (((wordZ m Z i) ++ ([(iterZ m i Z) % m.mod])).length) gn f2_ rfl rfl (by simp [is]) ?_
       refine n_as (v' := (Nv (i + 1))) (by exact congrArg (nm _) (by rw [List.length_append, wordZ_len]; rfl)) ?_
       refine o_mv (Iv Z) rfl (o_mv (Iv (m.mod ^ (i + 1))) rfl ?_)
       refine o_remT (a := Z) (c := (m.mod ^ (i + 1))) gn rfl rfl (by omega) ?_
       refine n_as (v' := (Iv (Z % m.mod ^ (i + 1)))) (by exact congrArg (fun z => AV.lit (.int .i64 z)) (Int.tmod_eq_emod_of_nonneg hZ0)) ?_
       refine o_loadA [Bv ((lineZ m (wordZ m Z (i + 1))).mul), Dv ((lineZ m (wordZ m Z (i + 1))).mul), Bv ((lineZ m (wordZ m Z (i + 1))).add), Dv ((lineZ m (wordZ m Z (i + 1))).add), Bv ((lineZ m (wordZ m Z (i + 1))).div), Dv ((lineZ m (wordZ m Z (i + 1))).div)] gn f85_ rfl rfl rfl rfl rfl ?_
       refine o_ct (c_sfall ((i + 1 : Nat) : Int) (Z % m.mod ^ (i + 1)) (lineZ m (wordZ m Z (i + 1))) (by omega) (by omega) (by omega) (by omega)) gn f136_ rfl ?_
       refine o_store [(204, .var 81 [Bv ((lineZ m (wordZ m Z (i + 1))).mul), Dv ((lineZ m (wordZ m Z (i + 1))).mul), Bv ((lineZ m (wordZ m Z (i + 1))).add), Dv ((lineZ m (wordZ m Z (i + 1))).add), Bv ((lineZ m (wordZ m Z (i + 1))).div), Dv ((lineZ m (wordZ m Z (i + 1))).div)]), (203, .row 3 1 (is .i64 ((wordZ m Z i) ++ ([(iterZ m i Z) % m.mod])))), (202, .row 3 1 (is .i64 ([(iterZ m i Z) % m.mod]))), (201, oZ 79 .u32 (stepZ m (iterZ m i Z))), (2, oM 24 m), (3, (.var 40 [(Iv ((falO ((i + 1 : Nat) : Int) (Z % m.mod ^ (i + 1)) (lineZ m (wordZ m Z (i + 1)))).steps)), (Iv ((falO ((i + 1 : Nat) : Int) (Z % m.mod ^ (i + 1)) (lineZ m (wordZ m Z (i + 1)))).rest)), (Sv ((falO ((i + 1 : Nat) : Int) (Z % m.mod ^ (i + 1)) (lineZ m (wordZ m Z (i + 1)))).lmul)), (Sv ((falO ((i + 1 : Nat) : Int) (Z % m.mod ^ (i + 1)) (lineZ m (wordZ m Z (i + 1)))).ladd)), (Sv ((falO ((i + 1 : Nat) : Int) (Z % m.mod ^ (i + 1)) (lineZ m (wordZ m Z (i + 1)))).ldiv)), (Sv ((falO ((i + 1 : Nat) : Int) (Z % m.mod ^ (i + 1)) (lineZ m (wordZ m Z (i + 1)))).bound))])), (4, oZ 79 .u32 (stepZ m (iterZ m i Z)))] gn f108_ rfl rfl rfl rfl rfl rfl ?_
       refine o_as Tv rfl (o_as (Nv 0) rfl ?_)
       refine aops_end ⟨by kernel_rfl, ?_⟩
       refine hK43 _ ?_
       refine awp_ret ?_
       refine post_ret ⟨[(.agg [(Iv ((falO ((i + 1 : Nat) : Int) (Z % m.mod ^ (i + 1)) (lineZ m (wordZ m Z (i + 1)))).steps)), (Iv ((falO ((i + 1 : Nat) : Int) (Z % m.mod ^ (i + 1)) (lineZ m (wordZ m Z (i + 1)))).rest)), (Sv ((falO ((i + 1 : Nat) : Int) (Z % m.mod ^ (i + 1)) (lineZ m (wordZ m Z (i + 1)))).lmul)), (Sv ((falO ((i + 1 : Nat) : Int) (Z % m.mod ^ (i + 1)) (lineZ m (wordZ m Z (i + 1)))).ladd)), (Sv ((falO ((i + 1 : Nat) : Int) (Z % m.mod ^ (i + 1)) (lineZ m (wordZ m Z (i + 1)))).ldiv)), (Sv ((falO ((i + 1 : Nat) : Int) (Z % m.mod ^ (i + 1)) (lineZ m (wordZ m Z (i + 1)))).bound))]), Tv, Nv 0], ⟨⟨3, (.var 40 [(Iv ((falO ((i + 1 : Nat) : Int) (Z % m.mod ^ (i + 1)) (lineZ m (wordZ m Z (i + 1)))).steps)), (Iv ((falO ((i + 1 : Nat) : Int) (Z % m.mod ^ (i + 1)) (lineZ m (wordZ m Z (i + 1)))).rest)), (Sv ((falO ((i + 1 : Nat) : Int) (Z % m.mod ^ (i + 1)) (lineZ m (wordZ m Z (i + 1)))).lmul)), (Sv ((falO ((i + 1 : Nat) : Int) (Z % m.mod ^ (i + 1)) (lineZ m (wordZ m Z (i + 1)))).ladd)), (Sv ((falO ((i + 1 : Nat) : Int) (Z % m.mod ^ (i + 1)) (lineZ m (wordZ m Z (i + 1)))).ldiv)), (Sv ((falO ((i + 1 : Nat) : Int) (Z % m.mod ^ (i + 1)) (lineZ m (wordZ m Z (i + 1)))).bound))]), rfl, rfl, rfl, Or.inl ⟨f109_, AV.le_refl _⟩⟩, AV.le_refl _, AV.le_refl _, trivial⟩, rfl, ?_⟩
       (have e := fd_0 (m := m) (a := a) (k := k) ⟨hm', ha'⟩ hy; rw [e.1, e.2.1, ← hfm.1, hfy.1, bpy (e.2.2.2 (hfm.2.1 hfy.2))]; rfl)
      ·refine awp_skip (hK23 _ (awp_region rfl ?_))
       refine n_add i 1 gn rfl rfl (by simp only [topOf]; omega) ?_
       refine o_mv (Nv (i + 1)) rfl (aops_end ?_)
       refine ⟨_, _, ?lt, ⟨i + 1, (by omega), (ffal_next h0 (fun e => absurd (lcmp.2 e) (by assumption))), (show (digs (stepZ m (iterZ m i Z)).natAbs).length ≤ 1 + 4 * (i + 1) by omega), rfl, rfl⟩, ?wk⟩
       case lt => omega
       case wk => exact Wk.trans (Wk.sub (σ' := ⟨[(2, Iv k), (3, .ref 2 0), (6, .ref 3 0), (10, Iv (m.mod ^ (i + 1))), (12, Iv Z), (13, .ref 4 0), (14, .row 203), (51, Iv k), (52, Nv (i + 1))], [(2, oM 24 m), (3, .var 40 [Nv 0, Nv 0, Sv Ev, Sv Ev, Sv Ev, Sv Ev]), (4, oZ 79 .u32 (stepZ m (iterZ m i Z))), (203, .row 3 1 (is .i64 ((wordZ m Z i) ++ ([(iterZ m i Z) % m.mod]))))]⟩) ⟨rfl, rfl, rfl, rfl, rfl, rfl, rfl, rfl, rfl, trivial⟩ ⟨rfl, rfl, rfl, rfl, trivial⟩) (Wk.trans (Wk.ren (id := 203) (id' := 50) rfl) (Wk.sub ⟨rfl, rfl, rfl, (by rfl), rfl, rfl, (by rfl), rfl, (by rfl), trivial⟩ ⟨rfl, rfl, rfl, (by rfl), trivial⟩))
     ·refine awp_exit ?_
      refine hK19 _ (awp_seq fun K44 hK44 => awp_region rfl ?_)
      refine o_build [Nv 0, Nv 0, Sv Ev, Sv Ev, Sv Ev, Sv Ev] [] gn f107_ f104_ rfl rfl rfl ?_
      refine n_as (v' := (falV zFal)) (by exact rfl) ?_
      refine o_store [(2, oM 24 m), (3, .var 40 [Iv (zFal.steps), Iv (zFal.rest), Sv (zFal.lmul), Sv (zFal.ladd), Sv (zFal.ldiv), Sv (zFal.bound)]), (4, oZ 79 .u32 (iterZ m i Z)), (50, .row 3 1 (is .i64 (wordZ m Z i)))] gn f108_ rfl rfl rfl rfl rfl rfl ?_
      refine o_as Fv rfl (o_as (Nv 0) rfl (aops_end (hK44 _ ?_)))
      refine awp_ret ?_
      refine post_ret ⟨[.agg [Iv (zFal.steps), Iv (zFal.rest), Sv (zFal.lmul), Sv (zFal.ladd), Sv (zFal.ldiv), Sv (zFal.bound)], Fv, Nv 0], ⟨⟨3, .var 40 [Iv (zFal.steps), Iv (zFal.rest), Sv (zFal.lmul), Sv (zFal.ladd), Sv (zFal.ldiv), Sv (zFal.bound)], rfl, rfl, rfl, Or.inl ⟨f109_, AV.le_refl _⟩⟩, AV.le_refl _, AV.le_refl _, trivial⟩, rfl, ?_⟩
      (have e := fd_0 (m := m) (a := a) (k := k) ⟨hm', ha'⟩ hy; have e2 := fnd_no (m := m) (z := Z) (k := k.toNat) (by rw [show k.toNat = i by omega]; exact h0); rw [e.1, e.2.1, ← hfm.1, e2.1, bpn (fun q => e2.2 (hfm.2.2 (e.2.2.1 q)))]; rfl)

end Go.Proofs.YtjbaamfahkjhgaaGreatDoor

namespace Go.Mth
open Go Go.Ab
def rF (m : MapM) (i : Nat) : Nat → List Fal
 | 0 => []
 | R + 1 => rF m i R ++ (if ffal m ((R : Nat) : Int) i = i then [falO ((i : Nat) : Int) ((R : Nat) : Int) (fln m ((R : Nat) : Int) i)] else [])
def rL (m : MapM) (K : Nat) : Nat → List Int
 | 0 => []
 | R + 1 => rL m K R ++ (if ffal m ((R : Nat) : Int) K = 0 then [((R : Nat) : Int)] else [])
def refFi (m : MapM) : Nat → List Fal
 | 0 => []
 | i + 1 => refFi m i ++ rF m (i + 1) (m.mod ^ (i + 1)).toNat
def refU (m : MapM) (K i R : Nat) : List Int := if i = K then rL m K R else []
end Go.Mth

