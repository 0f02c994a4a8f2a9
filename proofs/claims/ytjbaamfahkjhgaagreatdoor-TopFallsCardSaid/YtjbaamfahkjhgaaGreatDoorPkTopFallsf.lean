/- The law 'katabasistop.TopFalls' is true for every map, string and number: if the sieve finds a fall for the rest of a number, the number is less than itself after exactly these steps if and only if it is greater than the bound; if it finds none, its rest is one of those that are left. Its condition: none but the row's own (the listed tables of the library). -/
import Derived.Test.YtjbaamfahkjhgaaGreatDoorPkTopFallse
set_option linter.unusedVariables false
set_option linter.unusedSimpArgs false
namespace Go.Mth
open Go Go.Ab
def fAt (m : MapM) (i : Nat) (x : Int) : Fal := falO ((i : Nat) : Int) x (lineZ m (wordZ m x i))
theorem visT_mem1 {g : Nat → List Fal × List Int} {f : Fal} : ∀ {T : Nat}, f ∈ (visT g T).1 ↔ ∃ t, t < T ∧ f ∈ (g t).1
 | 0 => by simp [visT]
 | T + 1 => by
  rw [visT]
  simp only [List.mem_append]
  rw [visT_mem1]
  constructor
  ·rintro (⟨t, h1, h2⟩ | h)
   ·exact ⟨t, by omega, h2⟩
   ·exact ⟨T, by omega, h⟩
  ·rintro ⟨t, h1, h2⟩
   rcases Nat.lt_or_ge t T with h | h
   ·exact .inl ⟨t, h, h2⟩
   ·right; rw [show T = t by omega]; exact h2
theorem visT_mem2 {g : Nat → List Fal × List Int} {f : Int} : ∀ {T : Nat}, f ∈ (visT g T).2 ↔ ∃ t, t < T ∧ f ∈ (g t).2
 | 0 => by simp [visT]
 | T + 1 => by
  rw [visT]
  simp only [List.mem_append]
  rw [visT_mem2]
  constructor
  ·rintro (⟨t, h1, h2⟩ | h)
   ·exact ⟨t, by omega, h2⟩
   ·exact ⟨T, by omega, h⟩
  ·rintro ⟨t, h1, h2⟩
   rcases Nat.lt_or_ge t T with h | h
   ·exact .inl ⟨t, h, h2⟩
   ·right; rw [show T = t by omega]; exact h2
theorem digit {b : Int} (hb : 2 ≤ b) (x : Int) (n : Nat) : ∃ t : Nat, t < b.toNat ∧ x % b ^ (n + 1) = x % b ^ n + ((t : Nat) : Int) * b ^ n := by
 have hp : 0 < b ^ n := Int.pow_pos (by omega)
 have hp1 : 0 < b ^ (n + 1) := Int.pow_pos (by omega)
 have hs : b ^ (n + 1) = b ^ n * b := Int.pow_succ b n
 have h0 := Int.emod_nonneg x (show b ^ (n + 1) ≠ 0 by omega)
 have h1 := Int.emod_lt_of_pos x hp1
 have hm : x % b ^ (n + 1) % b ^ n = x % b ^ n := Int.emod_emod_of_dvd _ ⟨b, hs⟩
 have he := Int.emod_add_mul_ediv (x % b ^ (n + 1)) (b ^ n)
 have q0 : 0 ≤ x % b ^ (n + 1) / b ^ n := Int.ediv_nonneg h0 (Int.le_of_lt hp)
 have q1 : x % b ^ (n + 1) / b ^ n < b := Int.ediv_lt_of_lt_mul hp (by rw [Int.mul_comm, ← hs]; exact h1)
 refine ⟨(x % b ^ (n + 1) / b ^ n).toNat, by omega, ?_⟩
 rw [Int.toNat_of_nonneg q0, Int.mul_comm, ← hm]
 omega
theorem ffal_n {m : MapM} {r : Int} {n : Nat} (hff : ∀ j, j + 1 = n → ffal m r j = 0) (h : ¬ fallN m r n) : ffal m r n = 0 := by
 cases n with
 | zero => rfl
 | succ j => exact ffal_next (hff j rfl) fun e => h ⟨by omega, e⟩
theorem at_n {m : MapM} {r x : Int} {n : Nat} (hx0 : 0 ≤ x) (hx1 : x < m.mod ^ n) (hr : x % m.mod ^ n = r) : x = r := by rw [← hr, Int.emod_eq_of_lt hx0 hx1]
theorem vis_mem {m : MapM} (hm : OkM m) : ∀ (d n : Nat) (r : Int), 0 ≤ r → r < m.mod ^ n → (∀ j, j + 1 = n → ffal m r j = 0) →
  (∀ f, f ∈ (visA m d n r).1 ↔ ∃ (i : Nat) (x : Int), (n ≤ i ∧ i ≤ n + d ∧ 1 ≤ i) ∧ (0 ≤ x ∧ x < m.mod ^ i) ∧ x % m.mod ^ n = r ∧ ffal m x i = i ∧ f = fAt m i x) ∧
  (∀ x, x ∈ (visA m d n r).2 ↔ (0 ≤ x ∧ x < m.mod ^ (n + d)) ∧ x % m.mod ^ n = r ∧ ffal m x (n + d) = 0) := by
 intro d
 induction d with
 | zero =>
  intro n r h0 h1 hff
  by_cases hf : fallN m r n
  ·rw [vis_fall hf]
   obtain ⟨j, rfl⟩ : ∃ j, n = j + 1 := ⟨n - 1, by have := hf.1; omega⟩
   have hh := ffal_hit (hff j rfl) hf.2 (Nat.le_refl _)
   refine ⟨fun f => ?_, fun x => ?_⟩
   ·constructor
    ·intro h
     rw [List.mem_singleton] at h
     exact ⟨j + 1, r, ⟨by omega, by omega, by omega⟩, ⟨h0, h1⟩, Int.emod_eq_of_lt h0 h1, hh, h⟩
    ·rintro ⟨i, x, ⟨a1, a2, a3⟩, ⟨x0, x1⟩, hr, hi, rfl⟩
     obtain rfl : i = j + 1 := by omega
     rw [at_n x0 x1 hr, List.mem_singleton]; rfl
   ·constructor
    ·intro h; simp at h
    ·rintro ⟨⟨x0, x1⟩, hr, hi⟩
     rw [at_n x0 x1 hr, Nat.add_zero, hh] at hi
     omega
  ·rw [vis_left hf rfl]
   have hz := ffal_n hff hf
   refine ⟨fun f => ?_, fun x => ?_⟩
   ·constructor
    ·intro h; simp at h
    ·rintro ⟨i, x, ⟨a1, a2, a3⟩, ⟨x0, x1⟩, hr, hi, rfl⟩
     obtain rfl : i = n := by omega
     rw [at_n x0 x1 hr, hz] at hi
     omega
   ·rw [List.mem_singleton]
    constructor
    ·rintro rfl; exact ⟨⟨h0, h1⟩, Int.emod_eq_of_lt h0 h1, hz⟩
    ·rintro ⟨⟨x0, x1⟩, hr, hi⟩; exact at_n x0 x1 hr
 | succ d ih =>
  intro n r h0 h1 hff
  have h2 := hm.1
  have hp : 0 < m.mod ^ n := Int.pow_pos (by omega)
  by_cases hf : fallN m r n
  ·rw [vis_fall hf]
   obtain ⟨j, rfl⟩ : ∃ j, n = j + 1 := ⟨n - 1, by have := hf.1; omega⟩
   have hh := ffal_hit (hff j rfl) hf.2 (Nat.le_refl _)
   have same : ∀ x : Int, x % m.mod ^ (j + 1) = r → fallsW m (wordZ m x (j + 1)) := fun x hx => by
    rw [← word_mod hm x (Nat.le_refl (j + 1)), hx]; exact hf.2
   refine ⟨fun f => ?_, fun x => ?_⟩
   ·constructor
    ·intro h
     rw [List.mem_singleton] at h
     exact ⟨j + 1, r, ⟨by omega, by omega, by omega⟩, ⟨h0, h1⟩, Int.emod_eq_of_lt h0 h1, hh, h⟩
    ·rintro ⟨i, x, ⟨a1, a2, a3⟩, ⟨x0, x1⟩, hr, hi, rfl⟩
     have hy := ffal_yes (m := m) (z := x) (k := i) (by omega)
     have : ¬ j + 1 < i := fun e => hy.2 (j + 1) (by omega) (by omega) (same x hr)
     obtain rfl : i = j + 1 := by omega
     rw [at_n x0 x1 hr, List.mem_singleton]; rfl
   ·constructor
    ·intro h; simp at h
    ·rintro ⟨⟨x0, x1⟩, hr, hi⟩
     exact absurd (same x hr) (ffal_zero hi (j + 1) (by omega) (by omega))
  ·rw [vis_more hf rfl]
   have hz := ffal_n hff hf
   unfold visU
   have hq : ∀ t : Nat, t < m.mod.toNat → (0 ≤ r + ((t : Nat) : Int) * m.mod ^ n ∧ r + ((t : Nat) : Int) * m.mod ^ n < m.mod ^ (n + 1)) ∧ (r + ((t : Nat) : Int) * m.mod ^ n) % m.mod ^ n = r ∧ ∀ j, j + 1 = n + 1 → ffal m (r + ((t : Nat) : Int) * m.mod ^ n) j = 0 := fun t ht => by
    have e : (r + ((t : Nat) : Int) * m.mod ^ n) % m.mod ^ n = r := by rw [Int.add_mul_emod_self_right, Int.emod_eq_of_lt h0 h1]
    refine ⟨vis_rest hm h0 h1 ht, e, fun j hj => ?_⟩
    obtain rfl : j = n := by omega
    rw [← ffal_mod hm, e]; exact hz
   have key : ∀ x : Int, ∃ t : Nat, t < m.mod.toNat ∧ x % m.mod ^ (n + 1) = x % m.mod ^ n + ((t : Nat) : Int) * m.mod ^ n := fun x => digit h2 x n
   refine ⟨fun f => ?_, fun x => ?_⟩
   ·rw [visT_mem1]
    constructor
    ·rintro ⟨t, ht, hft⟩
     obtain ⟨⟨q0, q1⟩, q2, q3⟩ := hq t ht
     obtain ⟨i, x, ⟨a1, a2, a3⟩, hx, hr, hi, he⟩ := ((ih (n + 1) _ q0 q1 q3).1 f).1 hft
     refine ⟨i, x, ⟨by omega, by omega, a3⟩, hx, ?_, hi, he⟩
     rw [← mod_mod x (show n ≤ n + 1 by omega), hr, q2]
    ·rintro ⟨i, x, ⟨a1, a2, a3⟩, ⟨x0, x1⟩, hr, hi, he⟩
     have hin : ¬ i = n := fun e => by
      subst e
      rw [at_n x0 x1 hr, hz] at hi
      omega
     obtain ⟨t, ht, ex⟩ := key x
     obtain ⟨⟨q0, q1⟩, q2, q3⟩ := hq t ht
     refine ⟨t, ht, ((ih (n + 1) _ q0 q1 q3).1 f).2 ⟨i, x, ⟨by omega, by omega, a3⟩, ⟨x0, x1⟩, by rw [ex, hr], hi, he⟩⟩
   ·rw [visT_mem2]
    constructor
    ·rintro ⟨t, ht, hft⟩
     obtain ⟨⟨q0, q1⟩, q2, q3⟩ := hq t ht
     obtain ⟨hx, hr, hi⟩ := ((ih (n + 1) _ q0 q1 q3).2 x).1 hft
     rw [show n + 1 + d = n + (d + 1) by omega] at hx hi
     refine ⟨hx, ?_, hi⟩
     rw [← mod_mod x (show n ≤ n + 1 by omega), hr, q2]
    ·rintro ⟨hx, hr, hi⟩
     obtain ⟨t, ht, ex⟩ := key x
     obtain ⟨⟨q0, q1⟩, q2, q3⟩ := hq t ht
     refine ⟨t, ht, ((ih (n + 1) _ q0 q1 q3).2 x).2 ?_⟩
     rw [show n + 1 + d = n + (d + 1) by omega]
     exact ⟨hx, by rw [ex, hr], hi⟩
def lexF (a b : Fal) : Prop := a.steps < b.steps ∨ a.steps = b.steps ∧ a.rest < b.rest
theorem sieF_mem {m : MapM} (hm : OkM m) (k : Nat) (f : Fal) : f ∈ sieF m k ↔ ∃ (i : Nat) (x : Int), (1 ≤ i ∧ i ≤ k) ∧ (0 ≤ x ∧ x < m.mod ^ i) ∧ ffal m x i = i ∧ f = fAt m i x := by
 unfold sieF
 rw [srt_mem, srt_mem, (vis_mem hm k 0 0 (Int.le_refl _) (by rw [Int.pow_zero]; decide) (fun j hj => by omega)).1]
 constructor
 ·rintro ⟨i, x, ⟨a1, a2, a3⟩, hx, -, hi, he⟩; exact ⟨i, x, ⟨a3, by omega⟩, hx, hi, he⟩
 ·rintro ⟨i, x, ⟨a1, a2⟩, hx, hi, he⟩; exact ⟨i, x, ⟨by omega, by omega, a1⟩, hx, by rw [Int.pow_zero, Int.emod_one], hi, he⟩
theorem sieL_mem {m : MapM} (hm : OkM m) (k : Nat) (x : Int) : x ∈ sieL m k ↔ (0 ≤ x ∧ x < m.mod ^ k) ∧ ffal m x k = 0 := by
 unfold sieL
 rw [srt_mem, (vis_mem hm k 0 0 (Int.le_refl _) (by rw [Int.pow_zero]; decide) (fun j hj => by omega)).2, Nat.zero_add]
 constructor
 ·rintro ⟨hx, -, hi⟩; exact ⟨hx, hi⟩
 ·rintro ⟨hx, hi⟩; exact ⟨hx, by rw [Int.pow_zero, Int.emod_one], hi⟩
end Go.Mth

namespace Go.Mth
open Go Go.Ab
theorem fnd_mem {m : MapM} (hm : OkM m) {z : Int} {k : Nat} (hb : fndB m z k) : fndF m z k ∈ sieF m k := by
 have hb' : ffal m z k ≠ 0 := hb
 have hp : 0 < m.mod ^ ffal m z k := Int.pow_pos (by have := hm.1; omega)
 have hle := ffal_le m z k
 refine (sieF_mem hm k _).2 ⟨ffal m z k, z % m.mod ^ ffal m z k, ⟨by omega, hle⟩, ⟨Int.emod_nonneg _ (by omega), Int.emod_lt_of_pos _ hp⟩, ?_, ?_⟩
 ·rw [ffal_mod hm]
  have hy := ffal_yes hb'
  obtain ⟨j, hj⟩ : ∃ j, ffal m z k = j + 1 := ⟨ffal m z k - 1, by omega⟩
  rw [hj] at hy ⊢
  have h0 : ffal m z j = 0 := by
   refine Decidable.byContradiction fun e => ?_
   have := ffal_keep e (show j ≤ k by omega)
   have := ffal_le m z j
   omega
  exact ffal_hit h0 hy.1 (Nat.le_refl _)
 ·have e2 : fndF m z k = falO (ffal m z k : Nat) (z % m.mod ^ ffal m z k) (lineZ m (wordZ m z (ffal m z k))) := if_neg hb'
  rw [e2]; unfold fAt; rw [word_mod hm z (Nat.le_refl _)]
noncomputable def cntF (m : MapM) (z : Int) (k i : Nat) : Nat := by classical exact if fndB m z k ∧ fndF m z k ∈ (sieF m k).take i then 1 else 0
noncomputable def cntL (m : MapM) (z : Int) (k i : Nat) : Nat := by classical exact if z % m.mod ^ k ∈ (sieL m k).take i then 1 else 0
theorem getD_get {α : Type} {l : List α} {i : Nat} {d : α} (h : i < l.length) : l.getD i d = l[i] := by rw [List.getD_eq_getElem?_getD, List.getElem?_eq_getElem h]; rfl
theorem sieF_at {m : MapM} (hm : OkM m) {k i : Nat} (hi : i < (sieF m k).length) : ∃ s : Nat, ((sieF m k).getD i default).steps = s ∧ 1 ≤ s ∧ s ≤ k := by
 rw [getD_get hi]
 obtain ⟨s, x, ⟨h1, h2⟩, -, -, e⟩ := (sieF_mem hm k _).1 (List.getElem_mem hi)
 rw [e]; exact ⟨s, rfl, h1, h2⟩
end Go.Mth

namespace Go.Mth
open Go Go.Ab
theorem sgn_lt {z : Int} : sgn z < 0 ↔ z < 0 := by unfold sgn; split <;> (try split) <;> omega
theorem cmpz_lt {x y : Int} : cmpZ x y < 0 ↔ x < y := by unfold cmpZ; split <;> (try split) <;> omega
theorem cmpz_gt {x y : Int} : 0 < cmpZ x y ↔ y < x := by unfold cmpZ; split <;> (try split) <;> omega
theorem left_iff {m : MapM} (hm : OkM m) (x : Int) (s : Nat) : cmpZ (iterZ m s x) x < 0 ↔ sgn (((lineZ m (wordZ m x s)).mul - (lineZ m (wordZ m x s)).div) * x + (lineZ m (wordZ m x s)).add) < 0 := by
 rw [cmpz_lt, sgn_lt]; exact left1 hm x s
theorem exact_iff {m : MapM} (hm : OkM m) (x : Int) {s : Nat} (hf : fallsW m (wordZ m x s)) : cmpZ (iterZ m s x) x < 0 ↔ 0 < cmpZ x (bndZ (lineZ m (wordZ m x s))) := by
 rw [cmpz_lt, cmpz_gt]; exact exact1 hm x hf
end Go.Mth

namespace Go.Mth
open Go Go.Ab
noncomputable def dpt (m : MapM) : Nat := by classical exact if h : ∃ i : Nat, m.mod ^ i ≤ 65536 ∧ 65536 < m.mod ^ (i + 1) then Classical.choose h else 0
theorem dpt_eq {m : MapM} (hm : OkM m) {i : Nat} (h1 : m.mod ^ i ≤ 65536) (h2 : 65536 < m.mod ^ (i + 1)) : dpt m = i := by
 have h : ∃ i : Nat, m.mod ^ i ≤ 65536 ∧ 65536 < m.mod ^ (i + 1) := ⟨i, h1, h2⟩
 have e : dpt m = Classical.choose h := dif_pos h
 obtain ⟨c1, c2⟩ := Classical.choose_spec h
 rw [← e] at c1 c2
 rcases Nat.lt_trichotomy (dpt m) i with q | q | q
 ·have := pow_le_of hm (j := dpt m + 1) (k := i) (by omega); omega
 ·exact q
 ·have := pow_le_of hm (j := i + 1) (k := dpt m) (by omega); omega
theorem pow_idx {m : MapM} (hm : OkM m) : ∀ i : Nat, (i : Int) < m.mod ^ i
 | 0 => by rw [Int.pow_zero]; decide
 | i + 1 => by
  have h := pow_idx hm i
  have h2 := hm.1
  have h3 := Int.mul_le_mul_of_nonneg_left (show (2 : Int) ≤ m.mod by omega) (show 0 ≤ m.mod ^ i by omega)
  rw [Int.pow_succ]
  omega
theorem dpt_ok {m : MapM} (hm : OkM m) : 1 ≤ dpt m ∧ dpt m ≤ 16 ∧ m.mod ^ dpt m ≤ 65536 := by
 have key : ∀ n : Nat, (∀ i, i ≤ n → m.mod ^ i ≤ 65536) ∨ ∃ i : Nat, m.mod ^ i ≤ 65536 ∧ 65536 < m.mod ^ (i + 1) := by
  intro n
  induction n with
  | zero => left; intro i hi; rw [show i = 0 by omega, Int.pow_zero]; decide
  | succ n ih =>
   rcases ih with h | h
   ·by_cases q : m.mod ^ (n + 1) ≤ 65536
    ·left; intro i hi
     by_cases e : i = n + 1
     ·rw [e]; exact q
     ·exact h i (by omega)
    ·exact .inr ⟨n, h n (Nat.le_refl _), by omega⟩
   ·exact .inr h
 obtain ⟨i, h1, h2⟩ : ∃ i : Nat, m.mod ^ i ≤ 65536 ∧ 65536 < m.mod ^ (i + 1) := by
  rcases key 65536 with h | h
  ·have := h 65536 (Nat.le_refl _)
   have := pow_idx hm 65536
   omega
  ·exact h
 have e := dpt_eq hm h1 h2
 rw [e]
 refine ⟨?_, may_16 hm h1, h1⟩
 refine Decidable.byContradiction fun q => ?_
 have : i = 0 := by omega
 subst this
 have := hm.2.1
 rw [Nat.zero_add, Int.pow_one] at h2
 omega
def sameF (a b : Fal) : Prop := a.steps = b.steps ∧ a.rest = b.rest ∧ a.lmul = b.lmul ∧ a.ladd = b.ladd ∧ a.ldiv = b.ldiv ∧ a.bound = b.bound
theorem same_eq {a b : Fal} (h : sameF a b) : a = b := by
 cases a; cases b
 obtain ⟨h1, h2, h3, h4, h5, h6⟩ := h
 simp only at h1 h2 h3 h4 h5 h6
 rw [h1, h2, h3, h4, h5, h6]
theorem lst_no {m : MapM} (hm : OkM m) {z : Int} {k : Nat} (h : ∀ j, j < (sieF m k).length → ¬ sameF ((sieF m k).getD j default) (fndF m z k)) : ¬ fndB m z k := fun hb => by
 obtain ⟨j, hj, e⟩ := List.getElem_of_mem (fnd_mem hm hb)
 refine h j hj ?_
 rw [getD_get hj, e]
 exact ⟨rfl, rfl, rfl, rfl, rfl, rfl⟩
theorem lst_left {m : MapM} (hm : OkM m) {z : Int} {k : Nat} (hb : ¬ fndB m z k) (h : ∀ j, j < (sieL m k).length → ¬ z % m.mod ^ k = (sieL m k).getD j 0) : False := by
 have hp : 0 < m.mod ^ k := Int.pow_pos (by have := hm.1; omega)
 have hL : z % m.mod ^ k ∈ sieL m k := by
  rw [sieL_mem hm, ffal_mod hm]
  exact ⟨⟨Int.emod_nonneg _ (by omega), Int.emod_lt_of_pos _ hp⟩, Decidable.not_not.1 hb⟩
 obtain ⟨j, hj, e⟩ := List.getElem_of_mem hL
 exact h j hj (by rw [getD_get hj, e])
theorem cmpz_eq {x y : Int} : cmpZ x y = 0 ↔ x = y := by unfold cmpZ; split <;> (try split) <;> omega
theorem sieL_at {m : MapM} (hm : OkM m) {k i : Nat} (hi : i < (sieL m k).length) : 0 ≤ (sieL m k).getD i 0 ∧ (sieL m k).getD i 0 < m.mod ^ k := by
 rw [getD_get hi]; exact ((sieL_mem hm k _).1 (List.getElem_mem hi)).1
end Go.Mth

namespace Go.Proofs.YtjbaamfahkjhgaaGreatDoor
open Go Go.Ab Go.Mth
theorem f155_ : cx.P.underlying 114 = some (.slice 9) := by kernel_rfl
theorem f156_ : tyElem cx.P 114 = some (9, 1, 16) := by kernel_rfl
theorem f157_ : tySc cx.P 9 = true := by kernel_rfl
theorem f158_ : callable cx.P 18 = true := by kernel_rfl
theorem f159_ : callable cx.P 80 = true := by kernel_rfl
theorem f160_ : callable cx.P 10 = true := by kernel_rfl
theorem f161_ : callable cx.P 81 = true := by kernel_rfl
theorem f162_ : callable cx.P 42 = true := by kernel_rfl
theorem f163_ : callable cx.P 41 = true := by kernel_rfl
theorem c_tWrapped (i : Int) (n : Nat) (hi : -9223372036854775808 ≤ i) (hi2 : i ≤ 9223372036854775807) (hn : 0 < n) (hn2 : n ≤ 100000000) : ECalls cx 37 [Iv i, Nv n] (.lit (.int .i64 (i % (n : Int)))) := by
 refine ecalls_of_awp Tryz.func37 (c := _) rfl (Nat.le_of_ble_eq_true rfl) ?_
 show awp cx 12 _ (postF cx Tryz.f37 _) ⟨[(0, Iv i), (1, Nv n)], []⟩
 have hw := wrap_bd i hn
 refine awp_seq fun K0 hK0 => awp_region rfl (o_as (Nv 0) rfl (aops_end (hK0 _ (awp_seq fun K1 hK1 => awp_region rfl (o_mv (Iv i) rfl (o_mv (Nv n) rfl ?_))))))
 refine o_remT (a := i) (c := ((n : Nat) : Int)) gn rfl rfl (by omega) ?_
 refine o_mv (Nv n) rfl ?_
 refine o_add (a := (Int.tmod i ((n : Nat) : Int))) (c := ((n : Nat) : Int)) gn rfl rfl (by exact wrap64 (by omega) (by omega)) ?_
 refine o_mv (Nv n) rfl ?_
 refine o_remT (a := ((Int.tmod i ((n : Nat) : Int)) + ((n : Nat) : Int))) (c := ((n : Nat) : Int)) gn rfl rfl (by omega) ?_
 refine o_as (Iv (Int.tmod ((Int.tmod i ((n : Nat) : Int)) + ((n : Nat) : Int)) ((n : Nat) : Int))) rfl (aops_end (hK1 _ ?_))
 refine awp_ret ?_
 refine post_ret ⟨[(Iv (Int.tmod ((Int.tmod i ((n : Nat) : Int)) + ((n : Nat) : Int)) ((n : Nat) : Int)))], ⟨AV.le_refl _, trivial⟩, rfl, ?_⟩
 exact congrArg (fun z => AV.lit (.int .i64 z)) (wrap_eq i hn).symm

theorem c_tShort (l : List ByteArray) (hl : l.length ≤ 17592186044416) (hs : ∀ a ∈ l, a.size ≤ 9223372036854775807) : ECalls cx 35 [.sl 1 (sbs l)] (bp (ShortS l)) := by
 refine ecalls_of_awp Tryz.func35 (c := _) rfl (Nat.le_of_ble_eq_true rfl) ?_
 show awp cx 24 _ (postF cx Tryz.f35 _) ⟨[(0, .sl 1 (sbs l))], []⟩
 refine awp_seq fun K0 hK0 => awp_region rfl (o_as Fv rfl (aops_end (hK0 _ (awp_seq fun K1 hK1 => awp_seq fun K2 hK2 => awp_region rfl (o_as (Nv 0) rfl (aops_end (hK2 _ ?_)))))))
 refine awp_block ?_
 refine awp_loopR (fun κ σ => ∃ (i : Nat), (i ≤ l.length) ∧ (∀ k, k < i → shortB (l.getD k { data := #[] }) = true) ∧ (l.length - i) = κ ∧ σ = ⟨[(0, .sl 1 (sbs l)), (3, Nv i)], []⟩) ⟨_, _, ⟨0, (by omega), (fun k hk => by omega), rfl, rfl⟩, ?wk0⟩ ?rd0
 case wk0 =>
  exact Wk.sub ⟨rfl, (by rfl), trivial⟩ trivial
 rintro κ _ ⟨i, hi, hf, rfl, rfl⟩
 refine awp_seq fun K3 hK3 => awp_seq fun K4 hK4 => awp_region rfl (o_mv (Nv i) rfl (o_mv (.sl 1 (sbs l)) rfl ?_))
 refine s_len l gn f155_ rfl ?_
 refine n_lss i (l.length) gn rfl rfl ?_
 refine aops_end (hK4 _ ?_)
 refine awp_condQ (q := i < (l.length)) rfl (fun h1 => ?_) (fun h1 => ?_)
 ·have hsi := hs _ (getD_mem (l := l) (i := i) (d := { data := #[] }) (by omega))
  refine awp_skip (hK3 _ (awp_seq fun K5 hK5 => ?_))
  refine awp_block ?_
  refine awp_seq fun K6 hK6 => awp_region rfl (o_mv (.sl 1 (sbs l)) rfl (o_mv (Nv i) rfl ?_))
  refine s_index l i gn f156_ rfl rfl (by omega) ?_
  refine s_loadI l i gn f157_ rfl (by omega) ?_
  refine n_lenS (l.getD i { data := #[] }) gn rfl f54_ ?_
  refine n_gtr ((l.getD i { data := #[] }).size) 601 gn rfl rfl ?_
  refine o_mv (bp (601 < ((l.getD i { data := #[] }).size))) rfl ?_
  refine o_splitP (q := 601 < ((l.getD i { data := #[] }).size)) 16 rfl (fun h2 => ?_) (fun h2 => ?_)
  ·refine o_skip rfl rfl (decide_eq_true h2) (o_skip rfl rfl (decide_eq_true h2) (o_skip rfl rfl (decide_eq_true h2) (o_skip rfl rfl (decide_eq_true h2) (o_skip rfl rfl (decide_eq_true h2) (o_skip rfl rfl (decide_eq_true h2) ?_)))))
   refine o_pickT Tv gn rfl (decide_eq_true h2) rfl ?_
   refine aops_end (hK6 _ ?_)
   refine awp_condB (b := true) rfl (fun _ => ?_) (fun hh => absurd (hh.symm.trans rfl) (by decide))
   refine awp_seq fun K7 hK7 => awp_region rfl (o_as Fv rfl (aops_end (hK7 _ ?_)))
   refine awp_ret ?_
   refine post_ret ⟨[Fv], ⟨AV.le_refl _, trivial⟩, rfl, ?_⟩
   exact (bl_bp (b := false) ⟨fun h => (by cases h), fun h => absurd h (fun hh => absurd (shortB_le (hh i (by omega))) (by omega))⟩).symm
  ·refine o_move (.sl 1 (sbs l)) (Gd.yes rfl rfl (decide_eq_false h2)) rfl (o_move (Nv i) (Gd.yes rfl rfl (decide_eq_false h2)) rfl ?_)
   refine s_index l i (Gd.yes rfl rfl (decide_eq_false h2)) f156_ rfl rfl (by omega) ?_
   refine s_loadI l i (Gd.yes rfl rfl (decide_eq_false h2)) f157_ rfl (by omega) ?_
   refine o_ct (c_rValid (l.getD i { data := #[] }) (by assumption)) (Gd.yes rfl rfl (decide_eq_false h2)) f158_ rfl ?_
   refine o_not (b := okS (l.getD i { data := #[] })) (Gd.yes rfl rfl (decide_eq_false h2)) rfl ?_
   refine o_pickF (.lit (.bool (!(okS (l.getD i { data := #[] }))))) gn rfl (decide_eq_false h2) rfl ?_
   refine aops_end (hK6 _ ?_)
   refine awp_condB (b := !(okS (l.getD i { data := #[] }))) rfl (fun h3 => ?_) (fun h3 => ?_)
   ·refine awp_seq fun K8 hK8 => awp_region rfl (o_as Fv rfl (aops_end (hK8 _ ?_)))
    refine awp_ret ?_
    refine post_ret ⟨[Fv], ⟨AV.le_refl _, trivial⟩, rfl, ?_⟩
    exact (bl_bp (b := false) ⟨fun h => (by cases h), fun h => absurd h (fun hh => absurd (shortB_ok (hh i (by omega))) (by simpa using h3))⟩).symm
   ·refine awp_skip (hK5 _ (awp_region rfl (o_mv (Nv i) rfl ?_)))
    refine n_add i 1 gn rfl rfl (by simp only [topOf]; omega) ?_
    refine o_as (Nv (i + 1)) rfl (aops_end ?_)
    refine ⟨_, _, ?lt, ⟨i + 1, (by omega), (fun k hk => by rcases Nat.lt_or_ge k i with e | e; exact hf k e; rw [show k = i by omega]; exact shortB_yes (by omega) (by simpa using h3)), rfl, rfl⟩, ?wk⟩
    case lt => omega
    case wk => exact Wk.sub ⟨rfl, (by rfl), trivial⟩ trivial
 ·refine awp_exit ?_
  refine hK1 _ (awp_seq fun K9 hK9 => awp_region rfl (o_as Tv rfl (aops_end (hK9 _ ?_))))
  refine awp_ret ?_
  refine post_ret ⟨[Tv], ⟨AV.le_refl _, trivial⟩, rfl, ?_⟩
  exact (bl_bp (b := true) ⟨fun _ => (show ShortS l from fun k hk => hf k (by omega)), fun _ => rfl⟩).symm

theorem c_tPower (b : Int) (k : Nat) (hb : 0 ≤ b) (hb2 : b ≤ 999999) (hk : k ≤ 1000000) : ECalls cx 42 [Iv b, Nv k] (intR (b ^ k)) := by
 refine ecalls_of_awp Tryz.func42 (c := _) rfl (Nat.le_of_ble_eq_true rfl) ?_
 show awp cx 18 _ (postF cx Tryz.f42 _) ⟨[(0, Iv b), (1, Nv k)], []⟩
 have hb1 := small_len (z := b) (by omega)
 refine awp_seq fun K0 hK0 => awp_region rfl ?_
 refine o_alloc 2 [Fv, Zv] gn f9_ rfl rfl rfl ?_
 refine aops_end (hK0 _ (awp_seq fun K1 hK1 => awp_region rfl ?_))
 refine o_ct (c_rOf (1 : Int) (by decide) (by decide)) gn f45_ rfl ?_
 refine o_alloc 3 [Fv, Zv] gn f9_ rfl rfl rfl ?_
 refine o_store [(3, (oZ 47 .i64 (1 : Int))), (2, .var 47 [Fv, Zv])] gn f13_ rfl rfl rfl rfl rfl rfl ?_
 refine aops_end (hK1 _ (awp_seq fun K2 hK2 => awp_seq fun K3 hK3 => awp_region rfl (o_as (Nv 0) rfl (aops_end (hK3 _ ?_)))))
 refine awp_block ?_
 refine awp_loopR (fun κ σ => ∃ (i : Nat), (i ≤ k) ∧ ((digs (b ^ i).natAbs).length ≤ i + 1) ∧ (k - i) = κ ∧ σ = ⟨[(0, Iv b), (1, Nv k), (4, .ref 2 0), (5, .ref 3 0), (6, Nv i)], [(2, .var 47 [Fv, Zv]), (3, oZ 47 .i64 (b ^ i))]⟩) ⟨_, _, ⟨0, (by omega), (by rw [Int.pow_zero]; have := small_len (z := 1) (by decide); omega), rfl, rfl⟩, ?wk0⟩ ?rd0
 case wk0 =>
  exact Wk.sub ⟨rfl, rfl, rfl, rfl, (by rfl), trivial⟩ ⟨(by rfl), (by (simp only [Int.pow_zero, Int.pow_succ]; rfl)), trivial⟩
 rintro κ _ ⟨i, hi, hl, rfl, rfl⟩
 refine awp_seq fun K4 hK4 => awp_seq fun K5 hK5 => awp_region rfl (o_mv (Nv i) rfl (o_mv (Nv k) rfl ?_))
 refine n_lss i k gn rfl rfl ?_
 refine aops_end (hK5 _ ?_)
 refine awp_condQ (q := i < k) rfl (fun h1 => ?_) (fun h1 => ?_)
 ·refine awp_skip (hK4 _ (awp_seq fun K6 hK6 => ?_))
  refine awp_block ?_
  refine awp_regionD rfl ?_
  refine o_loadA [bp ((b ^ i) < 0), .sl 1 (ns .i64 (digs (b ^ i).natAbs))] gn f14_ rfl rfl rfl rfl rfl ?_
  refine o_mv (Iv b) rfl ?_
  refine o_ct (c_rOf b (by omega) (by omega)) gn f45_ rfl ?_
  refine o_ct (c_rMul (b ^ i) b (by omega) (by omega)) gn f66_ rfl ?_
  refine o_store [(2, .var 47 [Fv, Zv]), (3, oZ 47 .i64 ((b ^ i) * b))] gn f13_ rfl rfl rfl rfl rfl rfl ?_
  refine aops_end ⟨by kernel_rfl, ?_⟩
  refine hK6 _ (awp_region rfl (o_mv (Nv i) rfl ?_))
  refine n_add i 1 gn rfl rfl (by simp only [topOf]; omega) ?_
  refine o_as (Nv (i + 1)) rfl (aops_end ?_)
  refine ⟨_, _, ?lt, ⟨i + 1, (by omega), (by have := len_mulZ (b ^ i) b; rw [Int.pow_succ]; omega), rfl, rfl⟩, ?wk⟩
  case lt => omega
  case wk => exact Wk.sub ⟨rfl, rfl, rfl, rfl, (by rfl), trivial⟩ ⟨rfl, (by (simp only [Int.pow_zero, Int.pow_succ]; rfl)), trivial⟩
 ·refine awp_exit ?_
  refine hK2 _ (awp_seq fun K7 hK7 => awp_region rfl ?_)
  refine o_loadA [bp ((b ^ i) < 0), .sl 1 (ns .i64 (digs (b ^ i).natAbs))] gn f14_ rfl rfl rfl rfl rfl ?_
  refine o_store [(2, oZ 47 .i64 (b ^ i)), (3, oZ 47 .i64 (b ^ i))] gn f13_ rfl rfl rfl rfl rfl rfl ?_
  refine aops_end (hK7 _ ?_)
  refine awp_ret ?_
  refine post_ret ⟨[intR (b ^ i)], ⟨⟨2, oZ 47 .i64 (b ^ i), rfl, rfl, rfl, Or.inl ⟨f14_, AV.le_refl _⟩⟩, trivial⟩, rfl, ?_⟩
  exact congrArg intR (by rw [show k = i by omega])

theorem c_tSameInts (x y : List Int) (hb : x.length ≤ 17592186044416) : ECalls cx 81 [Lv x, Lv y] (bp (x = y)) := by
 refine ecalls_of_awp Tryz.func81 (c := _) rfl (Nat.le_of_ble_eq_true rfl) ?_
 show awp cx 26 _ (postF cx Tryz.f81 _) ⟨[(0, Lv x), (1, Lv y)], []⟩
 refine awp_seq fun K0 hK0 => awp_region rfl (o_as Fv rfl (aops_end (hK0 _ (awp_seq fun K1 hK1 => awp_seq fun K2 hK2 => awp_region rfl (o_mv (Lv x) rfl ?_)))))
 refine i_len x gn f2_ rfl ?_
 refine o_mv (Lv y) rfl ?_
 refine i_len y gn f2_ rfl ?_
 refine n_neq (x.length) (y.length) gn rfl rfl ?_
 refine aops_end (hK2 _ ?_)
 refine awp_condQ (q := (x.length) ≠ (y.length)) rfl (fun h1 => ?_) (fun h1 => ?_)
 ·refine awp_seq fun K3 hK3 => awp_region rfl (o_as Fv rfl (aops_end (hK3 _ ?_)))
  refine awp_ret ?_
  refine post_ret ⟨[Fv], ⟨AV.le_refl _, trivial⟩, rfl, ?_⟩
  exact (bl_bp (b := false) (by constructor <;> intro h <;> first | (exfalso; subst h; exact h1 rfl) | cases h)).symm
 ·refine awp_skip (hK1 _ (awp_seq fun K4 hK4 => awp_seq fun K5 hK5 => awp_region rfl (o_as (Nv 0) rfl (aops_end (hK5 _ ?_)))))
  refine awp_block ?_
  refine awp_loopR (fun κ σ => ∃ (i : Nat), (i ≤ x.length) ∧ (∀ k, k < i → x.getD k 0 = y.getD k 0) ∧ (x.length - i) = κ ∧ σ = ⟨[(0, Lv x), (1, Lv y), (5, Nv i)], []⟩) ⟨_, _, ⟨0, (by omega), (fun k hk => by omega), rfl, rfl⟩, ?wk0⟩ ?rd0
  case wk0 =>
   exact Wk.sub ⟨rfl, rfl, (by rfl), trivial⟩ trivial
  rintro κ _ ⟨i, hi, hv, rfl, rfl⟩
  refine awp_seq fun K6 hK6 => awp_seq fun K7 hK7 => awp_region rfl (o_mv (Nv i) rfl (o_mv (Lv x) rfl ?_))
  refine i_len x gn f2_ rfl ?_
  refine n_lss i (x.length) gn rfl rfl ?_
  refine aops_end (hK7 _ ?_)
  refine awp_condQ (q := i < (x.length)) rfl (fun h2 => ?_) (fun h2 => ?_)
  ·refine awp_skip (hK6 _ (awp_seq fun K8 hK8 => ?_))
   refine awp_block ?_
   refine awp_seq fun K9 hK9 => awp_regionD rfl (o_mv (Lv x) rfl (o_mv (Nv i) rfl ?_))
   refine i_index x i gn f10_ rfl rfl (by omega) ?_
   refine i_loadI x i gn f11_ rfl (by omega) ?_
   refine o_mv (Lv y) rfl (o_mv (Nv i) rfl ?_)
   refine i_index y i gn f10_ rfl rfl (by omega) ?_
   refine i_loadI y i gn f11_ rfl (by omega) ?_
   refine o_neq (a := (x.getD i 0)) (c := (y.getD i 0)) gn rfl rfl ?_
   refine aops_end ⟨by kernel_rfl, ?_⟩
   refine hK9 _ ?_
   refine awp_condQ (q := (x.getD i 0) ≠ (y.getD i 0)) rfl (fun h3 => ?_) (fun h3 => ?_)
   ·refine awp_seq fun K10 hK10 => awp_region rfl (o_as Fv rfl (aops_end (hK10 _ ?_)))
    refine awp_ret ?_
    refine post_ret ⟨[Fv], ⟨AV.le_refl _, trivial⟩, rfl, ?_⟩
    exact (bl_bp (b := false) (by constructor <;> intro h <;> first | (exfalso; subst h; exact h3 rfl) | cases h)).symm
   ·refine awp_skip (hK8 _ (awp_region rfl (o_mv (Nv i) rfl ?_)))
    refine n_add i 1 gn rfl rfl (by simp only [topOf]; omega) ?_
    refine o_as (Nv (i + 1)) rfl (aops_end ?_)
    refine ⟨_, _, ?lt, ⟨i + 1, (by omega), (fun k hk => by by_cases e : k = i; subst e; exact Decidable.not_not.1 h3; exact hv k (by omega)), rfl, rfl⟩, ?wk⟩
    case lt => omega
    case wk => exact Wk.sub ⟨rfl, rfl, (by rfl), trivial⟩ trivial
  ·refine awp_exit ?_
   refine hK4 _ (awp_seq fun K11 hK11 => awp_region rfl (o_as Tv rfl (aops_end (hK11 _ ?_))))
   refine awp_ret ?_
   refine post_ret ⟨[Tv], ⟨AV.le_refl _, trivial⟩, rfl, ?_⟩
   exact (bl_bp (b := true) ⟨fun _ => list_extZ (by omega) (fun k hk => hv k (by omega)), fun _ => rfl⟩).symm

theorem c_tDepth (m : MapM) (hM : OkM m) : ECalls cx 38 [mapV m, Nv 65536] (Nv (dpt m)) := by
 refine ecalls_of_awp Tryz.func38 (c := _) rfl (Nat.le_of_ble_eq_true rfl) ?_
 show awp cx 19 _ (postF cx Tryz.f38 _) ⟨[(0, mapV m), (1, Nv 65536)], []⟩
 have hM2 := hM
 obtain ⟨o1, o2, o3, o4, o5⟩ := hM2
 refine awp_seq fun K0 hK0 => awp_region rfl ?_
 refine o_box 2 [Iv m.mod, Lv m.mul, Lv m.add] gn rfl rfl ?_
 refine o_as (Nv 0) rfl (aops_end (hK0 _ (awp_seq fun K1 hK1 => awp_region rfl (o_as (Nv 0) rfl (aops_end (hK1 _ (awp_seq fun K2 hK2 => awp_seq fun K3 hK3 => awp_region rfl ?_)))))))
 refine o_fieldRef 0 gn f60_ rfl rfl ?_
 refine o_loadS (Iv m.mod) gn f11_ rfl rfl rfl ?_
 refine n_as (v' := (Iv (m.mod ^ (0 + 1)))) (by exact congrArg (fun z => AV.lit (.int .i64 z)) (by rw [Nat.zero_add, Int.pow_one])) ?_
 refine o_as (Iv (m.mod ^ (0 + 1))) rfl (aops_end (hK3 _ ?_))
 refine awp_block ?_
 refine awp_loopR (fun κ σ => ∃ (i : Nat), (m.mod ^ i ≤ 65536) ∧ (17 - i) = κ ∧ σ = ⟨[(1, Nv 65536), (2, .ref 2 0), (5, Nv i), (6, Iv (m.mod ^ (i + 1)))], [(2, oM 24 m)]⟩) ⟨_, _, ⟨0, (by rw [Int.pow_zero]; decide), rfl, rfl⟩, ?wk0⟩ ?rd0
 case wk0 =>
  exact Wk.sub ⟨rfl, rfl, (by rfl), (by rfl), trivial⟩ ⟨rfl, trivial⟩
 rintro κ _ ⟨i, hb, rfl, rfl⟩
 have hi16 := may_16 hM hb
 have hpp : 0 < m.mod ^ i := Int.pow_pos (by omega)
 have hpp1 : 0 < m.mod ^ (i + 1) := Int.pow_pos (by omega)
 have hpe : m.mod ^ (i + 1) = m.mod ^ i * m.mod := Int.pow_succ _ _
 have hmb := Int.mul_le_mul hb o2 (show (0 : Int) ≤ m.mod by omega) (by decide)
 refine awp_seq fun K4 hK4 => awp_seq fun K5 hK5 => awp_region rfl (o_mv (Iv (m.mod ^ (i + 1))) rfl (o_mv (Nv 65536) rfl ?_))
 refine o_leq (a := (m.mod ^ (i + 1))) (c := ((65536 : Nat) : Int)) gn rfl rfl ?_
 refine aops_end (hK5 _ ?_)
 refine awp_condQ (q := (m.mod ^ (i + 1)) ≤ ((65536 : Nat) : Int)) rfl (fun h1 => ?_) (fun h1 => ?_)
 ·have hi17 := may_16 hM (k := i + 1) (by omega)
  have hmb2 := Int.mul_le_mul (show m.mod ^ (i + 1) ≤ 65536 by omega) o2 (show (0 : Int) ≤ m.mod by omega) (by decide)
  have hml2 := Int.mul_pos hpp1 (show 0 < m.mod by omega)
  refine awp_skip (hK4 _ (awp_seq fun K6 hK6 => ?_))
  refine awp_block ?_
  refine awp_region rfl (o_mv (Nv i) rfl ?_)
  refine n_add i 1 gn rfl rfl (by simp only [topOf]; omega) ?_
  refine o_as (Nv (i + 1)) rfl (aops_end (hK6 _ (awp_region rfl (o_mv (Iv (m.mod ^ (i + 1))) rfl ?_))))
  refine o_fieldRef 0 gn f60_ rfl rfl ?_
  refine o_loadS (Iv m.mod) gn f11_ rfl rfl rfl ?_
  refine o_mul (a := (m.mod ^ (i + 1))) (c := m.mod) gn rfl rfl (by exact wrap64 (by omega) (by omega)) ?_
  refine n_as (v' := (Iv (m.mod ^ (i + 1 + 1)))) (by exact congrArg (fun z => AV.lit (.int .i64 z)) (Int.pow_succ _ _).symm) ?_
  refine o_as (Iv (m.mod ^ (i + 1 + 1))) rfl (aops_end ?_)
  refine ⟨_, _, ?lt, ⟨i + 1, (by omega), rfl, rfl⟩, ?wk⟩
  case lt => omega
  case wk => exact Wk.sub ⟨rfl, rfl, (by rfl), (by rfl), trivial⟩ ⟨rfl, trivial⟩
 ·refine awp_exit ?_
  refine hK2 _ (awp_seq fun K7 hK7 => awp_region rfl (o_mv (Nv i) rfl (o_as (Nv i) rfl (aops_end (hK7 _ ?_)))))
  refine awp_ret ?_
  refine post_ret ⟨[Nv i], ⟨AV.le_refl _, trivial⟩, rfl, ?_⟩
  exact congrArg (nm _) (dpt_eq hM hb (by omega))

theorem c_tSifts  : ECalls cx 36 [] (.lit (.bool true)) := by
 refine ecalls_of_awp Tryz.func36 (c := _) rfl (Nat.le_of_ble_eq_true rfl) ?_
 show awp cx 36 _ (postF cx Tryz.f36 _) ⟨[], []⟩
 refine awp_seq fun K0 hK0 => awp_region rfl (o_as Fv rfl (aops_end (hK0 _ (awp_seq fun K1 hK1 => awp_region rfl ?_))))
 refine o_ct c_sCollatz gn f159_ rfl ?_
 refine o_call [mapV (kinM 3 1), Nv 3] (.tup [.sl 6 (gcells cL ([ex1, ex2])), Lv ([3, 7]), Nv 0]) gn f160_ rfl (by have h := c_sSieveL (kinM 3 1) 3 okM_col may_col3; rw [ex_F, ex_L] at h; exact h) ?_
 refine o_mv (.tup [.sl 6 (gcells cL ([ex1, ex2])), Lv ([3, 7]), Nv 0]) rfl (o_extract (.sl 6 (gcells cL ([ex1, ex2]))) gn rfl rfl (o_extract (Lv ([3, 7])) gn rfl rfl (o_extract (Nv 0) gn rfl rfl (o_as (.sl 6 (gcells cL ([ex1, ex2]))) rfl (o_as (Lv ([3, 7])) rfl (o_as (Nv 0) rfl (aops_end (hK1 _ (awp_seq fun K2 hK2 => awp_region rfl (o_mv (Nv 0) rfl ?_))))))))))
 refine n_eql 0 0 gn rfl rfl ?_
 refine n_as (v' := Tv) (by exact bpy (by rfl)) ?_
 refine o_mv Tv rfl (o_move (.sl 6 (gcells cL ([ex1, ex2]))) (Gd.yes rfl rfl rfl) rfl ?_)
 refine g_len cL ([ex1, ex2]) cL_len (Gd.yes rfl rfl rfl) f127_ rfl ?_
 refine n_eql (([ex1, ex2]).length) 2 (Gd.yes rfl rfl rfl) rfl rfl ?_
 refine n_as (v' := Tv) (by exact bpy (by rfl)) ?_
 refine o_pickT Tv gn rfl rfl rfl ?_
 refine o_mv Tv rfl (o_move (.sl 6 (gcells cL ([ex1, ex2]))) (Gd.yes rfl rfl rfl) rfl ?_)
 refine g_index cL ([ex1, ex2]) 1 cL_len rfl (Gd.yes rfl rfl rfl) f110_ rfl rfl (by decide) ?_
 refine g_field cL ([ex1, ex2]) 1 cL_len (Gd.yes rfl rfl rfl) f124_ rfl (by decide) rfl ?_
 refine g_loadS cL ([ex1, ex2]) 1 default (Iv ((([ex1, ex2]).getD 1 default).rest)) cL_len (Gd.yes rfl rfl rfl) f11_ rfl (by decide) rfl ?_
 refine o_eql (a := ((([ex1, ex2]).getD 1 default).rest)) (c := ((1 : Nat) : Int)) (Gd.yes rfl rfl rfl) rfl rfl ?_
 refine n_as (v' := Tv) (by exact bpy (by rfl)) ?_
 refine o_pickT Tv gn rfl rfl rfl ?_
 refine o_mv Tv rfl (o_move (.sl 6 (gcells cL ([ex1, ex2]))) (Gd.yes rfl rfl rfl) rfl ?_)
 refine g_index cL ([ex1, ex2]) 1 cL_len rfl (Gd.yes rfl rfl rfl) f110_ rfl rfl (by decide) ?_
 refine g_field cL ([ex1, ex2]) 1 cL_len (Gd.yes rfl rfl rfl) f125_ rfl (by decide) rfl ?_
 refine g_loadS cL ([ex1, ex2]) 1 default (Iv ((([ex1, ex2]).getD 1 default).steps)) cL_len (Gd.yes rfl rfl rfl) f11_ rfl (by decide) rfl ?_
 refine o_eql (a := ((([ex1, ex2]).getD 1 default).steps)) (c := ((2 : Nat) : Int)) (Gd.yes rfl rfl rfl) rfl rfl ?_
 refine n_as (v' := Tv) (by exact bpy (by rfl)) ?_
 refine o_pickT Tv gn rfl rfl rfl ?_
 refine o_mv Tv rfl (o_move (Lv ([3, 7])) (Gd.yes rfl rfl rfl) rfl ?_)
 refine o_buildSlice 2 (is .i64 ([((3 : Nat) : Int), ((7 : Nat) : Int)])) [(0, [Nv 3]), (1, [Nv 7])] (Gd.yes rfl rfl rfl) f10_ rfl f26_ rfl rfl rfl rfl rfl rfl rfl ?_
 refine o_callG [(2, 1, (is .i64 ([((3 : Nat) : Int), ((7 : Nat) : Int)])))] [Lv ([3, 7]), (Lv ([((3 : Nat) : Int), ((7 : Nat) : Int)]))] _ (bp (([3, 7] : List Int) = [3, 7])) [] (Gd.yes rfl rfl rfl) f161_ rfl ⟨⟨_, rfl⟩, trivial⟩ rfl rfl (LeL.cons (AV.le_refl _) (LeL.cons (AV.le_refl _) LeL.nil)) (c_tSameInts [3, 7] [3, 7] (by decide)) rfl ?_
 refine n_as (v' := Tv) (by exact bpy (by rfl)) ?_
 refine o_pickT Tv gn rfl rfl rfl ?_
 refine o_as Tv rfl (aops_end (hK2 _ ?_))
 refine awp_ret ?_
 refine post_ret ⟨[Tv], ⟨AV.le_refl _, trivial⟩, rfl, ?_⟩
 rfl

theorem c_tListed (m : MapM) (z : Int) (K : Nat) (hM : OkM m) (hmy : mayS m (K : Int)) (hzl : (digs z.natAbs).length ≤ 1000) : ECalls cx 44 [mapV m, intR z, falV (fndF m z K), Nv K] (.lit (.bool true)) := by
 refine ecalls_of_awp Tryz.func44 (c := _) rfl (Nat.le_of_ble_eq_true rfl) ?_
 show awp cx 73 _ (postF cx Tryz.f44 _) ⟨[(0, mapV m), (1, intR z), (2, falV (fndF m z K)), (3, Nv K)], []⟩
 have hM2 := hM
 obtain ⟨o1, o2, o3, o4, o5⟩ := hM2
 have hkp : m.mod ^ K ≤ 65536 := hmy.2.2
 have hk1 : 1 ≤ K := by have := hmy.2.1; omega
 have hk16 : K ≤ 16 := may_16 hM hkp
 have hVl := vis_len hM K 0 0
 have hpd : m.mod.toNat ^ K ≤ 65536 := toNat_pow hM hkp
 have hFl : (sieF m K).length ≤ 65536 := by unfold sieF; rw [srt_len, srt_len]; omega
 have hLl : (sieL m K).length ≤ 65536 := by unfold sieL; rw [srt_len]; omega
 have hpp : 0 < m.mod ^ K := Int.pow_pos (by omega)
 have hpl := small_len (z := m.mod ^ K) (by omega)
 have hzr0 := Int.emod_nonneg z (show m.mod ^ K ≠ 0 by omega)
 have hzr1 := Int.emod_lt_of_pos z hpp
 have hzrl := small_len (z := z % m.mod ^ K) (by omega)
 refine awp_seq fun K0 hK0 => awp_region rfl ?_
 refine o_box 2 [Iv m.mod, Lv m.mul, Lv m.add] gn rfl rfl ?_
 refine o_box 3 [bp (z < 0), .sl 1 (ns .i64 (digs z.natAbs))] gn rfl rfl ?_
 refine o_box 4 [Iv ((fndF m z K).steps), Iv ((fndF m z K).rest), Sv ((fndF m z K).lmul), Sv ((fndF m z K).ladd), Sv ((fndF m z K).ldiv), Sv ((fndF m z K).bound)] gn rfl rfl ?_
 refine o_as Fv rfl (aops_end (hK0 _ (awp_seq fun K1 hK1 => awp_seq fun K2 hK2 => awp_region rfl ?_)))
 refine o_fieldRef 0 gn f60_ rfl rfl ?_
 refine o_loadS (Iv m.mod) gn f11_ rfl rfl rfl ?_
 refine o_mv (Nv K) rfl ?_
 refine o_ct (c_tPower m.mod K (by omega) (by omega) (by omega)) gn f162_ rfl ?_
 refine o_ct (c_rOf (600 : Int) (by decide) (by decide)) gn f45_ rfl ?_
 refine o_ct (c_rCmp (m.mod ^ K) (600 : Int)) gn f91_ rfl ?_
 refine o_gtr (a := (cmpZ (m.mod ^ K) (600 : Int))) (c := ((0 : Nat) : Int)) gn rfl rfl ?_
 refine aops_end (hK2 _ ?_)
 refine awp_condQ (q := ((0 : Nat) : Int) < (cmpZ (m.mod ^ K) (600 : Int))) rfl (fun h1 => ?_) (fun h1 => ?_)
 ·refine awp_seq fun K3 hK3 => awp_region rfl (o_as Tv rfl (aops_end (hK3 _ ?_)))
  refine awp_ret ?_
  refine post_ret ⟨[Tv], ⟨AV.le_refl _, trivial⟩, rfl, ?_⟩
  rfl
 ·refine awp_skip (hK1 _ (awp_seq fun K4 hK4 => awp_region rfl ?_))
  refine o_loadA [Iv m.mod, Lv m.mul, Lv m.add] gn f64_ rfl rfl rfl rfl rfl ?_
  refine o_mv (Nv K) rfl ?_
  refine o_ct (c_sSieveL m K hM hmy) gn f160_ rfl ?_
  refine o_mv (.tup [.sl 6 (gcells cL (sieF m K)), Lv (sieL m K), Nv 0]) rfl (o_extract (.sl 6 (gcells cL (sieF m K))) gn rfl rfl (o_extract (Lv (sieL m K)) gn rfl rfl (o_extract (Nv 0) gn rfl rfl (o_as (.sl 6 (gcells cL (sieF m K))) rfl (o_as (Lv (sieL m K)) rfl (o_as (Nv 0) rfl (aops_end (hK4 _ (awp_seq fun K5 hK5 => awp_seq fun K6 hK6 => awp_region rfl ?_)))))))))
  refine o_mv (Nv 0) rfl ?_
  refine n_neq 0 0 gn rfl rfl ?_
  refine n_as (v' := Fv) (by exact bpn (fun h => h rfl)) ?_
  refine aops_end (hK6 _ ?_)
  refine awp_condB (b := false) rfl (fun hh => absurd (hh.symm.trans rfl) (by decide)) (fun _ => ?_)
  refine awp_skip (hK5 _ (awp_seq fun K7 hK7 => awp_seq fun K8 hK8 => awp_region rfl (o_as (Nv 0) rfl (aops_end (hK8 _ ?_)))))
  refine awp_block ?_
  refine awp_loopR (fun κ σ => ∃ (i : Nat), (i ≤ (sieF m K).length) ∧ (∀ j, j < i → ¬ sameF ((sieF m K).getD j default) (fndF m z K)) ∧ ((sieF m K).length - i) = κ ∧ σ = ⟨[(3, Nv K), (4, .ref 2 0), (5, .ref 3 0), (6, .ref 4 0), (9, .sl 6 (gcells cL (sieF m K))), (10, Lv (sieL m K)), (12, Nv i)], [(2, oM 24 m), (3, oZ 47 .i64 z), (4, .var 40 [Iv ((fndF m z K).steps), Iv ((fndF m z K).rest), Sv ((fndF m z K).lmul), Sv ((fndF m z K).ladd), Sv ((fndF m z K).ldiv), Sv ((fndF m z K).bound)])]⟩) ⟨_, _, ⟨0, Nat.zero_le _, (fun j hj => by omega), rfl, rfl⟩, ?wk0⟩ ?rd0
  case wk0 =>
   exact Wk.sub ⟨rfl, rfl, rfl, rfl, rfl, rfl, (by rfl), trivial⟩ ⟨rfl, rfl, rfl, trivial⟩
  rintro κ _ ⟨i, hi, hno, rfl, rfl⟩
  refine awp_seq fun K9 hK9 => awp_seq fun K10 hK10 => awp_region rfl (o_mv (Nv i) rfl (o_mv (.sl 6 (gcells cL (sieF m K))) rfl ?_))
  refine g_len cL (sieF m K) cL_len gn f127_ rfl ?_
  refine n_lss i ((sieF m K).length) gn rfl rfl ?_
  refine aops_end (hK10 _ ?_)
  refine awp_condQ (q := i < ((sieF m K).length)) rfl (fun h2 => ?_) (fun h2 => ?_)
  ·refine awp_skip (hK9 _ (awp_seq fun K11 hK11 => ?_))
   refine awp_block ?_
   refine awp_seq fun K12 hK12 => awp_regionD rfl (o_mv (.sl 6 (gcells cL (sieF m K))) rfl (o_mv (Nv i) rfl ?_))
   refine g_index cL (sieF m K) i cL_len rfl gn f110_ rfl rfl (by omega) ?_
   refine g_loadA cL (sieF m K) i default cL_len gn f109_ rfl (by omega) ?_
   refine o_loadA [Iv ((fndF m z K).steps), Iv ((fndF m z K).rest), Sv ((fndF m z K).lmul), Sv ((fndF m z K).ladd), Sv ((fndF m z K).ldiv), Sv ((fndF m z K).bound)] gn f109_ rfl rfl rfl rfl rfl ?_
   refine o_eqlA [.int .i64 (((sieF m K).getD i default).steps), .int .i64 (((sieF m K).getD i default).rest), .string (((sieF m K).getD i default).lmul), .string (((sieF m K).getD i default).ladd), .string (((sieF m K).getD i default).ldiv), .string (((sieF m K).getD i default).bound)] [.int .i64 ((fndF m z K).steps), .int .i64 ((fndF m z K).rest), .string ((fndF m z K).lmul), .string ((fndF m z K).ladd), .string ((fndF m z K).ldiv), .string ((fndF m z K).bound)] ((((sieF m K).getD i default).steps) = ((fndF m z K).steps) ∧ (((sieF m K).getD i default).rest) = ((fndF m z K).rest) ∧ (((sieF m K).getD i default).lmul) = ((fndF m z K).lmul) ∧ (((sieF m K).getD i default).ladd) = ((fndF m z K).ladd) ∧ (((sieF m K).getD i default).ldiv) = ((fndF m z K).ldiv) ∧ (((sieF m K).getD i default).bound) = ((fndF m z K).bound)) gn rfl rfl (eq_api_Fall _ _ _ _ _ _ _ _ _ _ _ _) ?_
   refine aops_end ⟨by kernel_rfl, ?_⟩
   refine hK12 _ ?_
   refine awp_condQ (q := (((sieF m K).getD i default).steps) = ((fndF m z K).steps) ∧ (((sieF m K).getD i default).rest) = ((fndF m z K).rest) ∧ (((sieF m K).getD i default).lmul) = ((fndF m z K).lmul) ∧ (((sieF m K).getD i default).ladd) = ((fndF m z K).ladd) ∧ (((sieF m K).getD i default).ldiv) = ((fndF m z K).ldiv) ∧ (((sieF m K).getD i default).bound) = ((fndF m z K).bound)) rfl (fun h3 => ?_) (fun h3 => ?_)
   ·refine awp_seq fun K13 hK13 => ?_
    have hse := same_eq (show sameF ((sieF m K).getD i default) (fndF m z K) by assumption)
    obtain ⟨s, e1, e2, e3⟩ := sieF_at hM (show i < (sieF m K).length by omega)
    rw [hse] at e1
    refine awp_region rfl ?_
    refine o_fieldRef 0 gn f125_ rfl rfl ?_
    refine o_loadS (Iv ((fndF m z K).steps)) gn f11_ rfl rfl rfl ?_
    refine o_gtr (a := ((fndF m z K).steps)) (c := ((0 : Nat) : Int)) gn rfl rfl ?_
    refine n_as (v' := Tv) (by exact bpy (by omega)) ?_
    refine o_as Tv rfl (aops_end (hK13 _ ?_))
    refine awp_ret ?_
    refine post_ret ⟨[Tv], ⟨AV.le_refl _, trivial⟩, rfl, ?_⟩
    rfl
   ·refine awp_skip (hK11 _ (awp_region rfl (o_mv (Nv i) rfl ?_)))
    refine n_add i 1 gn rfl rfl (by simp only [topOf]; omega) ?_
    refine o_as (Nv (i + 1)) rfl (aops_end ?_)
    refine ⟨_, _, ?lt, ⟨i + 1, (by omega), (fun j hj => by by_cases e : j = i; rw [e]; assumption; exact hno j (by omega)), rfl, rfl⟩, ?wk⟩
    case lt => omega
    case wk => exact Wk.sub ⟨rfl, rfl, rfl, rfl, rfl, rfl, (by rfl), trivial⟩ ⟨rfl, rfl, rfl, trivial⟩
  ·refine awp_exit ?_
   refine hK7 _ (awp_seq fun K14 hK14 => ?_)
   have hnb := lst_no hM (z := z) (k := K) (fun j hj => hno j (by omega))
   have hfz : fndF m z K = zFal := if_pos (Decidable.not_not.1 hnb)
   refine awp_regionD rfl ?_
   refine o_loadA [bp (z < 0), .sl 1 (ns .i64 (digs z.natAbs))] gn f14_ rfl rfl rfl rfl rfl ?_
   refine o_fieldRef 0 gn f60_ rfl rfl ?_
   refine o_loadS (Iv m.mod) gn f11_ rfl rfl rfl ?_
   refine o_mv (Nv K) rfl ?_
   refine o_ct (c_tPower m.mod K (by omega) (by omega) (by omega)) gn f162_ rfl ?_
   refine o_ct (c_rDiv z (m.mod ^ K) (by omega) (by omega) (by omega)) gn f163_ rfl ?_
   refine o_mv (.tup [intR (z / (m.mod ^ K)), intR (z % (m.mod ^ K))]) rfl (o_extract (intR (z / (m.mod ^ K))) gn rfl rfl (o_extract (intR (z % (m.mod ^ K))) gn rfl rfl ?_))
   refine o_alloc 101 [Fv, Zv] gn f9_ rfl rfl rfl ?_
   refine o_alloc 102 [Fv, Zv] gn f9_ rfl rfl rfl ?_
   refine o_store [(102, .var 47 [Fv, Zv]), (101, oZ 47 .i64 (z / (m.mod ^ K))), (2, oM 24 m), (3, oZ 47 .i64 z), (4, .var 40 [Iv ((fndF m z K).steps), Iv ((fndF m z K).rest), Sv ((fndF m z K).lmul), Sv ((fndF m z K).ladd), Sv ((fndF m z K).ldiv), Sv ((fndF m z K).bound)])] gn f13_ rfl rfl rfl rfl rfl rfl ?_
   refine o_store [(102, oZ 47 .i64 (z % (m.mod ^ K))), (101, oZ 47 .i64 (z / (m.mod ^ K))), (2, oM 24 m), (3, oZ 47 .i64 z), (4, .var 40 [Iv ((fndF m z K).steps), Iv ((fndF m z K).rest), Sv ((fndF m z K).lmul), Sv ((fndF m z K).ladd), Sv ((fndF m z K).ldiv), Sv ((fndF m z K).bound)])] gn f13_ rfl rfl rfl rfl rfl rfl ?_
   refine aops_end ⟨by kernel_rfl, ?_⟩
   refine hK14 _ (awp_seq fun K15 hK15 => awp_seq fun K16 hK16 => awp_region rfl (o_as (Nv 0) rfl (aops_end (hK16 _ ?_))))
   refine awp_block ?_
   refine awp_loopR (fun κ σ => ∃ (j : Nat), (j ≤ (sieL m K).length) ∧ (∀ q, q < j → ¬ z % m.mod ^ K = (sieL m K).getD q 0) ∧ ((sieL m K).length - j) = κ ∧ σ = ⟨[(6, .ref 4 0), (10, Lv (sieL m K)), (14, .ref 6 0), (15, Nv j)], [(4, .var 40 [Iv ((fndF m z K).steps), Iv ((fndF m z K).rest), Sv ((fndF m z K).lmul), Sv ((fndF m z K).ladd), Sv ((fndF m z K).ldiv), Sv ((fndF m z K).bound)]), (6, oZ 47 .i64 (z % m.mod ^ K))]⟩) ⟨_, _, ⟨0, Nat.zero_le _, (fun q hq => by omega), rfl, rfl⟩, ?wk1⟩ ?rd1
   case wk1 =>
    exact Wk.trans (Wk.sub (σ' := ⟨[(6, .ref 4 0), (10, Lv (sieL m K)), (14, .ref 102 0), (15, Nv 0)], [(4, .var 40 [Iv ((fndF m z K).steps), Iv ((fndF m z K).rest), Sv ((fndF m z K).lmul), Sv ((fndF m z K).ladd), Sv ((fndF m z K).ldiv), Sv ((fndF m z K).bound)]), (102, oZ 47 .i64 (z % (m.mod ^ K)))]⟩) ⟨rfl, rfl, rfl, rfl, trivial⟩ ⟨rfl, rfl, trivial⟩) (Wk.trans (Wk.ren (id := 102) (id' := 6) rfl) (Wk.sub ⟨rfl, rfl, (by rfl), (by rfl), trivial⟩ ⟨rfl, rfl, trivial⟩))
   rintro κ _ ⟨j, hj, hnl, rfl, rfl⟩
   refine awp_seq fun K17 hK17 => awp_seq fun K18 hK18 => awp_region rfl (o_mv (Nv j) rfl (o_mv (Lv (sieL m K)) rfl ?_))
   refine i_len (sieL m K) gn f2_ rfl ?_
   refine n_lss j ((sieL m K).length) gn rfl rfl ?_
   refine aops_end (hK18 _ ?_)
   refine awp_condQ (q := j < ((sieL m K).length)) rfl (fun h4 => ?_) (fun h4 => ?_)
   ·refine awp_skip (hK17 _ (awp_seq fun K19 hK19 => ?_))
    refine awp_block ?_
    refine awp_seq fun K20 hK20 => ?_
    have hla := sieL_at hM (show j < (sieL m K).length by omega)
    have hlal := small_len (z := (sieL m K).getD j 0) (by omega)
    refine awp_regionD rfl ?_
    refine o_loadA [bp ((z % m.mod ^ K) < 0), .sl 1 (ns .i64 (digs (z % m.mod ^ K).natAbs))] gn f14_ rfl rfl rfl rfl rfl ?_
    refine o_mv (Lv (sieL m K)) rfl (o_mv (Nv j) rfl ?_)
    refine i_index (sieL m K) j gn f10_ rfl rfl (by omega) ?_
    refine i_loadI (sieL m K) j gn f11_ rfl (by omega) ?_
    refine o_ct (c_rOf ((sieL m K).getD j 0) (by omega) (by omega)) gn f45_ rfl ?_
    refine o_ct (c_rCmp (z % m.mod ^ K) ((sieL m K).getD j 0)) gn f91_ rfl ?_
    refine o_eql (a := (cmpZ (z % m.mod ^ K) ((sieL m K).getD j 0))) (c := ((0 : Nat) : Int)) gn rfl rfl ?_
    refine n_as (v' := (bp (z % m.mod ^ K = (sieL m K).getD j 0))) (by exact bpc cmpz_eq) ?_
    refine aops_end ⟨by kernel_rfl, ?_⟩
    refine hK20 _ ?_
    refine awp_condQ (q := z % m.mod ^ K = (sieL m K).getD j 0) rfl (fun h5 => ?_) (fun h5 => ?_)
    ·refine awp_seq fun K21 hK21 => awp_region rfl ?_
     refine o_fieldRef 0 gn f125_ rfl rfl ?_
     refine o_loadS (Iv ((fndF m z K).steps)) gn f11_ rfl rfl rfl ?_
     refine o_eql (a := ((fndF m z K).steps)) (c := ((0 : Nat) : Int)) gn rfl rfl ?_
     refine n_as (v' := Tv) (by exact bpy (by rw [hfz]; rfl)) ?_
     refine o_as Tv rfl (aops_end (hK21 _ ?_))
     refine awp_ret ?_
     refine post_ret ⟨[Tv], ⟨AV.le_refl _, trivial⟩, rfl, ?_⟩
     rfl
    ·refine awp_skip (hK19 _ (awp_region rfl (o_mv (Nv j) rfl ?_)))
     refine n_add j 1 gn rfl rfl (by simp only [topOf]; omega) ?_
     refine o_as (Nv (j + 1)) rfl (aops_end ?_)
     refine ⟨_, _, ?lt, ⟨j + 1, (by omega), (fun q hq => by by_cases e : q = j; rw [e]; assumption; exact hnl q (by omega)), rfl, rfl⟩, ?wk⟩
     case lt => omega
     case wk => exact Wk.sub ⟨rfl, rfl, rfl, (by rfl), trivial⟩ ⟨rfl, rfl, trivial⟩
   ·refine awp_exit ?_
    refine hK15 _ (awp_seq fun K22 hK22 => awp_region rfl (o_as Fv rfl (aops_end (hK22 _ ?_))))
    refine awp_ret ?_
    refine post_ret ⟨[Fv], ⟨AV.le_refl _, trivial⟩, rfl, ?_⟩
    exact absurd (lst_left hM hnb (fun q hq => hnl q (by omega))) id

end Go.Proofs.YtjbaamfahkjhgaaGreatDoor

namespace Go.Proofs.YtjbaamfahkjhgaaGreatDoor
open Go Go.Ab Go.Mth
theorem f164_ : callable cx.P 12 = true := by kernel_rfl
theorem f165_ : callable cx.P 36 = true := by kernel_rfl
theorem f166_ : callable cx.P 34 = true := by kernel_rfl
theorem f167_ : tyZero cx.P 9 = some [(Go.Value.string {data := #[]})] := by kernel_rfl
theorem f168_ : callable cx.P 35 = true := by kernel_rfl
theorem f169_ : callable cx.P 38 = true := by kernel_rfl
theorem f170_ : callable cx.P 37 = true := by kernel_rfl
theorem f171_ : callable cx.P 20 = true := by kernel_rfl
theorem f172_ : callable cx.P 17 = true := by kernel_rfl
theorem f173_ : callable cx.P 39 = true := by kernel_rfl
theorem f174_ : callable cx.P 40 = true := by kernel_rfl
theorem f175_ : callable cx.P 27 = true := by kernel_rfl
theorem f176_ : tyField cx.P 40 3 = some (5, 9) := by kernel_rfl
theorem f177_ : tyField cx.P 40 2 = some (2, 38) := by kernel_rfl
theorem f178_ : callable cx.P 43 = true := by kernel_rfl
theorem f179_ : callable cx.P 44 = true := by kernel_rfl
set_option maxRecDepth 100000 in
theorem c_TopFalls (m : MapM) (n : ByteArray) (k : Int) (hn : n.size ≤ 9223372036854775807) (h1m : m.mul.length ≤ 17592186044416) (h2m : m.add.length ≤ 17592186044416) (hkb : -9223372036854775808 ≤ k ∧ k ≤ 9223372036854775807) : ECalls cx 8 [mapV m, Sv n, Iv k] (.lit (.bool true)) := by
 refine ecalls_of_awp Tryz.func8 (c := _) rfl (Nat.le_of_ble_eq_true rfl) ?_
 show awp cx 164 _ (postF cx Tryz.f8 _) ⟨[(0, mapV m), (1, Sv n), (2, Iv k)], []⟩
 refine awp_seq fun K0 hK0 => awp_region rfl ?_
 refine o_box 2 [Iv m.mod, Lv m.mul, Lv m.add] gn rfl rfl ?_
 refine o_as Fv rfl (aops_end (hK0 _ (awp_seq fun K1 hK1 => awp_seq fun K2 hK2 => awp_region rfl ?_)))
 refine o_loadA [Iv m.mod, Lv m.mul, Lv m.add] gn f64_ rfl rfl rfl rfl rfl ?_
 refine o_ct (c_gValid m) gn f164_ rfl ?_
 refine o_not (b := okM m) gn rfl ?_
 refine o_mv (.lit (.bool (!(okM m)))) rfl ?_
 refine o_split (b := !(okM m)) 20 rfl (fun h1 => ?_) (fun h1 => ?_)
 ·refine o_skip rfl rfl h1 (o_skip rfl rfl h1 (o_skip rfl rfl h1 ?_))
  refine o_pickT Tv gn rfl h1 rfl ?_
  refine o_mv Tv rfl (o_skip rfl rfl rfl (o_skip rfl rfl rfl (o_skip rfl rfl rfl (o_skip rfl rfl rfl ?_))))
  refine o_pickT Tv gn rfl rfl rfl ?_
  refine aops_end (hK2 _ ?_)
  refine awp_condB (b := true) rfl (fun _ => ?_) (fun hh => absurd (hh.symm.trans rfl) (by decide))
  refine awp_seq fun K3 hK3 => awp_region rfl ?_
  refine o_ct c_tSifts gn f165_ rfl ?_
  refine o_as Tv rfl (aops_end (hK3 _ ?_))
  refine awp_ret ?_
  refine post_ret ⟨[Tv], ⟨AV.le_refl _, trivial⟩, rfl, ?_⟩
  rfl
 ·refine o_loadA [Iv m.mod, Lv m.mul, Lv m.add] (Gd.yes rfl rfl h1) f64_ rfl rfl rfl rfl rfl ?_
  refine o_call [mapV m] (bp (freeM m)) (Gd.yes rfl rfl h1) f166_ rfl (by have hM' : okM m = true := (by have q := h1; simpa using q); exact c_gRegular m (okM_iff.1 hM')) ?_
  refine o_notP (q := freeM m) (Gd.yes rfl rfl h1) rfl ?_
  refine o_pickF (bp (¬ (freeM m))) gn rfl h1 rfl ?_
  refine o_mv (bp (¬ (freeM m))) rfl ?_
  refine o_splitP (q := ¬ (freeM m)) 25 rfl (fun h2 => ?_) (fun h2 => ?_)
  ·refine o_skip rfl rfl (decide_eq_true h2) (o_skip rfl rfl (decide_eq_true h2) (o_skip rfl rfl (decide_eq_true h2) (o_skip rfl rfl (decide_eq_true h2) ?_)))
   refine o_pickT Tv gn rfl (decide_eq_true h2) rfl ?_
   refine aops_end (hK2 _ ?_)
   refine awp_condB (b := true) rfl (fun _ => ?_) (fun hh => absurd (hh.symm.trans rfl) (by decide))
   refine awp_seq fun K4 hK4 => awp_region rfl ?_
   refine o_ct c_tSifts gn f165_ rfl ?_
   refine o_as Tv rfl (aops_end (hK4 _ ?_))
   refine awp_ret ?_
   refine post_ret ⟨[Tv], ⟨AV.le_refl _, trivial⟩, rfl, ?_⟩
   rfl
  ·refine o_move (Sv n) (Gd.yes rfl rfl (decide_eq_false h2)) rfl ?_
   refine o_buildSlice 3 (sbs ([n])) [(0, [Sv n])] (Gd.yes rfl rfl (decide_eq_false h2)) f156_ rfl f167_ rfl rfl rfl rfl rfl rfl rfl ?_
   refine o_callG [(3, 1, sbs ([n]))] [.sl 1 (sbs ([n]))] _ (bp (ShortS [n])) [(2, oM 24 m)] (Gd.yes rfl rfl (decide_eq_false h2)) f168_ rfl ⟨⟨_, rfl⟩, trivial⟩ rfl rfl (LeL.cons (AV.le_refl _) LeL.nil) (c_tShort [n] (by simp) (fun x hx => by rw [List.mem_singleton.1 hx]; exact hn)) rfl ?_
   refine o_notP (q := ShortS [n]) (Gd.yes rfl rfl (decide_eq_false h2)) rfl ?_
   refine o_pickF (bp (¬ (ShortS [n]))) gn rfl (decide_eq_false h2) rfl ?_
   refine aops_end (hK2 _ ?_)
   refine awp_condQ (q := ¬ (ShortS [n])) rfl (fun h3 => ?_) (fun h3 => ?_)
   ·refine awp_seq fun K5 hK5 => awp_region rfl ?_
    refine o_ct c_tSifts gn f165_ rfl ?_
    refine o_as Tv rfl (aops_end (hK5 _ ?_))
    refine awp_ret ?_
    refine post_ret ⟨[Tv], ⟨AV.le_refl _, trivial⟩, rfl, ?_⟩
    rfl
   ·refine awp_skip (hK1 _ (awp_seq fun K6 hK6 => ?_))
    have hM' : okM m = true := by have q := h1; simpa using q
    have hM := okM_iff.1 hM'
    have hfr : freeM m := Decidable.not_not.1 (show ¬ ¬ freeM m by assumption)
    have hsh : ShortS [n] := Decidable.not_not.1 (show ¬ ¬ ShortS [n] by assumption)
    have ha0 : shortB n = true := hsh 0 (by simp)
    have ho := shortB_ok ha0
    obtain ⟨d1, d2, d3⟩ := dpt_ok hM
    obtain ⟨kk, hkk⟩ : ∃ kk : Nat, ((kk : Nat) : Int) = k % ((dpt m : Nat) : Int) := ⟨(k % ((dpt m : Nat) : Int)).toNat, Int.toNat_of_nonneg (Int.emod_nonneg _ (by omega))⟩
    have hkl := Int.emod_lt_of_pos k (show (0 : Int) < ((dpt m : Nat) : Int) by omega)
    have hkd : kk + 1 ≤ dpt m := by omega
    have hkp : m.mod ^ (kk + 1) ≤ 65536 := by have := pow_le_of hM (j := (kk + 1)) (k := dpt m) hkd; omega
    have hmy : mayS m (((kk + 1) : Nat) : Int) := ⟨hfr, by omega, hkp⟩
    have hd := fd_0 (m := m) (a := n) (k := (((kk + 1) : Nat) : Int)) ⟨hM', ho⟩ hmy
    rw [Int.toNat_natCast] at hd
    have hnl := len_numS (okS_iff.1 ho)
    have hM2 := hM
    obtain ⟨o1, o2, o3, o4, o5⟩ := hM2
    refine awp_region rfl (o_mv (Iv k) rfl ?_)
    refine o_loadA [Iv m.mod, Lv m.mul, Lv m.add] gn f64_ rfl rfl rfl rfl rfl ?_
    refine o_ct (c_tDepth m hM) gn f169_ rfl ?_
    refine o_ct (c_tWrapped k (dpt m) hkb.1 hkb.2 (by omega) (by omega)) gn f170_ rfl ?_
    refine n_as (v' := (Nv kk)) (by exact nm_int hkk.symm) ?_
    refine n_add 1 kk gn rfl rfl (by simp only [topOf]; omega) ?_
    refine n_as (v' := (Nv (kk + 1))) (by exact congrArg (nm _) (by omega)) ?_
    refine o_as (Nv (kk + 1)) rfl (aops_end (hK6 _ (awp_seq fun K7 hK7 => awp_region rfl (o_mv (Sv n) rfl ?_))))
    refine o_ct (c_rParse n (by exact okS_iff.1 (by assumption))) gn f171_ rfl ?_
    refine o_alloc 4 [Fv, Zv] gn f9_ rfl rfl rfl ?_
    refine o_store [(4, oZ 47 .i64 (numS n)), (2, oM 24 m)] gn f13_ rfl rfl rfl rfl rfl rfl ?_
    refine aops_end (hK7 _ (awp_seq fun K8 hK8 => awp_region rfl ?_))
    refine o_loadA [Iv m.mod, Lv m.mul, Lv m.add] gn f64_ rfl rfl rfl rfl rfl ?_
    refine o_mv (Sv n) rfl (o_mv (Nv (kk + 1)) rfl ?_)
    refine o_ct (c_sFind m n (((kk + 1) : Nat) : Int) hn (by omega)) gn f172_ rfl ?_
    refine o_mv (.tup [(falV (fdF m n (((kk + 1) : Nat) : Int))), (bp (fdB m n (((kk + 1) : Nat) : Int))), (Nv (fdE m n (((kk + 1) : Nat) : Int)))]) rfl (o_extract (falV (fdF m n (((kk + 1) : Nat) : Int))) gn rfl rfl ?_)
    refine n_as (v' := (falV (fndF m (numS n) (kk + 1)))) (by exact congrArg falV hd.2.1) ?_
    refine o_extract (bp (fdB m n (((kk + 1) : Nat) : Int))) gn rfl rfl ?_
    refine n_as (v' := (bp (fndB m (numS n) (kk + 1)))) (by exact bpc hd.2.2) ?_
    refine o_extract (Nv (fdE m n (((kk + 1) : Nat) : Int))) gn rfl rfl ?_
    refine n_as (v' := (Nv 0)) (by exact congrArg (nm _) hd.1) ?_
    refine o_alloc 5 [Nv 0, Nv 0, Sv Ev, Sv Ev, Sv Ev, Sv Ev] gn f104_ rfl rfl rfl ?_
    refine o_store [(5, .var 40 [Iv ((fndF m (numS n) (kk + 1)).steps), Iv ((fndF m (numS n) (kk + 1)).rest), Sv ((fndF m (numS n) (kk + 1)).lmul), Sv ((fndF m (numS n) (kk + 1)).ladd), Sv ((fndF m (numS n) (kk + 1)).ldiv), Sv ((fndF m (numS n) (kk + 1)).bound)]), (4, oZ 47 .i64 (numS n)), (2, oM 24 m)] gn f108_ rfl rfl rfl rfl rfl rfl ?_
    refine o_as (bp (fndB m (numS n) (kk + 1))) rfl (o_as (Nv 0) rfl (aops_end (hK8 _ (awp_seq fun K9 hK9 => awp_seq fun K10 hK10 => awp_region rfl (o_mv (Nv 0) rfl ?_)))))
    refine n_neq 0 0 gn rfl rfl ?_
    refine n_as (v' := Fv) (by exact bpn (fun h => h rfl)) ?_
    refine aops_end (hK10 _ ?_)
    refine awp_condB (b := false) rfl (fun hh => absurd (hh.symm.trans rfl) (by decide)) (fun _ => ?_)
    refine awp_skip (hK9 _ (awp_seq fun K11 hK11 => awp_regionD rfl ?_))
    refine o_ct c_vOne gn f173_ rfl ?_
    refine o_loadA [bp ((numS n) < 0), .sl 1 (ns .i64 (digs (numS n).natAbs))] gn f14_ rfl rfl rfl rfl rfl ?_
    refine o_alloc 6 [Fv, Zv, Fv, Zv, Fv, Zv] gn f94_ rfl rfl rfl ?_
    refine o_alloc 7 [Fv, Zv] gn f9_ rfl rfl rfl ?_
    refine o_store [(7, .var 47 [Fv, Zv]), (6, .var 67 [Bv (oneZ.mul), Rv (oneZ.mul), Bv (oneZ.add), Rv (oneZ.add), Bv (oneZ.div), Rv (oneZ.div)]), (5, .var 40 [Iv ((fndF m (numS n) (kk + 1)).steps), Iv ((fndF m (numS n) (kk + 1)).rest), Sv ((fndF m (numS n) (kk + 1)).lmul), Sv ((fndF m (numS n) (kk + 1)).ladd), Sv ((fndF m (numS n) (kk + 1)).ldiv), Sv ((fndF m (numS n) (kk + 1)).bound)]), (4, oZ 47 .i64 (numS n)), (2, oM 24 m)] gn f99_ rfl rfl rfl rfl rfl rfl ?_
    refine o_store [(7, oZ 47 .i64 (numS n)), (6, .var 67 [Bv (oneZ.mul), Rv (oneZ.mul), Bv (oneZ.add), Rv (oneZ.add), Bv (oneZ.div), Rv (oneZ.div)]), (5, .var 40 [Iv ((fndF m (numS n) (kk + 1)).steps), Iv ((fndF m (numS n) (kk + 1)).rest), Sv ((fndF m (numS n) (kk + 1)).lmul), Sv ((fndF m (numS n) (kk + 1)).ladd), Sv ((fndF m (numS n) (kk + 1)).ldiv), Sv ((fndF m (numS n) (kk + 1)).bound)]), (4, oZ 47 .i64 (numS n)), (2, oM 24 m)] gn f13_ rfl rfl rfl rfl rfl rfl ?_
    refine aops_end ⟨by kernel_rfl, ?_⟩
    refine hK11 _ (awp_seq fun K12 hK12 => awp_seq fun K13 hK13 => awp_region rfl (o_as (Nv 1) rfl (aops_end (hK13 _ ?_))))
    refine awp_block ?_
    refine awp_loopR (fun κ σ => ∃ (i : Nat), (i ≤ (kk + 1)) ∧ (ffal m (numS n) i = 0) ∧ ((kk + 1) - i) = κ ∧ σ = ⟨[(2, Nv (kk + 1)), (3, .ref 2 0), (7, .ref 3 0), (8, .ref 4 0), (9, bp (fndB m (numS n) (kk + 1))), (11, .ref 5 0), (12, .ref 6 0), (13, Nv (i + 1))], [(2, oM 24 m), (3, oZ 47 .i64 (numS n)), (4, .var 40 [Iv ((fndF m (numS n) (kk + 1)).steps), Iv ((fndF m (numS n) (kk + 1)).rest), Sv ((fndF m (numS n) (kk + 1)).lmul), Sv ((fndF m (numS n) (kk + 1)).ladd), Sv ((fndF m (numS n) (kk + 1)).ldiv), Sv ((fndF m (numS n) (kk + 1)).bound)]), (5, .var 67 [Bv ((lineZ m (wordZ m (numS n) i)).mul), Rv ((lineZ m (wordZ m (numS n) i)).mul), Bv ((lineZ m (wordZ m (numS n) i)).add), Rv ((lineZ m (wordZ m (numS n) i)).add), Bv ((lineZ m (wordZ m (numS n) i)).div), Rv ((lineZ m (wordZ m (numS n) i)).div)]), (6, oZ 47 .i64 (iterZ m i (numS n)))]⟩) ⟨_, _, ⟨0, Nat.zero_le _, rfl, rfl, rfl⟩, ?wk0⟩ ?rd0
    case wk0 =>
     exact Wk.trans (Wk.sub (σ' := ⟨[(2, Nv (kk + 1)), (3, .ref 2 0), (7, .ref 4 0), (8, .ref 5 0), (9, bp (fndB m (numS n) (kk + 1))), (11, .ref 6 0), (12, .ref 7 0), (13, Nv 1)], [(2, oM 24 m), (4, oZ 47 .i64 (numS n)), (5, .var 40 [Iv ((fndF m (numS n) (kk + 1)).steps), Iv ((fndF m (numS n) (kk + 1)).rest), Sv ((fndF m (numS n) (kk + 1)).lmul), Sv ((fndF m (numS n) (kk + 1)).ladd), Sv ((fndF m (numS n) (kk + 1)).ldiv), Sv ((fndF m (numS n) (kk + 1)).bound)]), (6, .var 67 [Bv (oneZ.mul), Rv (oneZ.mul), Bv (oneZ.add), Rv (oneZ.add), Bv (oneZ.div), Rv (oneZ.div)]), (7, oZ 47 .i64 (numS n))]⟩) ⟨rfl, rfl, rfl, rfl, rfl, rfl, rfl, rfl, trivial⟩ ⟨rfl, rfl, rfl, rfl, rfl, trivial⟩) (Wk.trans (Wk.ren (id := 5) (id' := 900) rfl) (Wk.trans (Wk.ren (id := 6) (id' := 901) rfl) (Wk.trans (Wk.ren (id := 7) (id' := 902) rfl) (Wk.trans (Wk.ren (id := 4) (id' := 3) rfl) (Wk.trans (Wk.ren (id := 900) (id' := 4) rfl) (Wk.trans (Wk.ren (id := 901) (id' := 5) rfl) (Wk.trans (Wk.ren (id := 902) (id' := 6) rfl) (Wk.sub ⟨rfl, rfl, (by rfl), (by rfl), rfl, (by rfl), (by rfl), (by rfl), trivial⟩ ⟨rfl, rfl, rfl, rfl, rfl, trivial⟩))))))))
    rintro κ _ ⟨i, hi, h0, rfl, rfl⟩
    refine awp_seq fun K14 hK14 => awp_seq fun K15 hK15 => awp_region rfl (o_mv (Nv (i + 1)) rfl (o_mv (Nv (kk + 1)) rfl ?_))
    refine n_leq (i + 1) (kk + 1) gn rfl rfl ?_
    refine aops_end (hK15 _ ?_)
    refine awp_condQ (q := (i + 1) ≤ (kk + 1)) rfl (fun h4 => ?_) (fun h4 => ?_)
    ·refine awp_skip (hK14 _ (awp_seq fun K16 hK16 => ?_))
     refine awp_block ?_
     refine awp_seq fun K17 hK17 => ?_
     have hr0 := Int.emod_nonneg (iterZ m i (numS n)) (show m.mod ≠ 0 by omega)
     have hr1 := Int.emod_lt_of_pos (iterZ m i (numS n)) (show 0 < m.mod by omega)
     obtain ⟨l1, l2, l3⟩ := line_len hM _ (wordZ_is hM (numS n) i)
     obtain ⟨k1, k2, k3⟩ := line_len hM _ (wordZ_is hM (numS n) (i + 1))
     rw [wordZ_len] at l1 l2 l3 k1 k2 k3
     have hil := iter_len hM (numS n) i
     have hil2 := iter_len hM (numS n) (i + 1)
     have hs1 := len_subZ (lineZ m (wordZ m (numS n) (i + 1))).mul (lineZ m (wordZ m (numS n) (i + 1))).div
     have hs2 := len_mulZ ((lineZ m (wordZ m (numS n) (i + 1))).mul - (lineZ m (wordZ m (numS n) (i + 1))).div) (numS n)
     have hs3 := len_addZ (((lineZ m (wordZ m (numS n) (i + 1))).mul - (lineZ m (wordZ m (numS n) (i + 1))).div) * (numS n)) (lineZ m (wordZ m (numS n) (i + 1))).add
     have hll := left_iff hM (numS n) (i + 1)
     refine awp_regionD rfl ?_
     refine o_loadA [Iv m.mod, Lv m.mul, Lv m.add] gn f64_ rfl rfl rfl rfl rfl ?_
     refine o_loadA [Bv ((lineZ m (wordZ m (numS n) i)).mul), Rv ((lineZ m (wordZ m (numS n) i)).mul), Bv ((lineZ m (wordZ m (numS n) i)).add), Rv ((lineZ m (wordZ m (numS n) i)).add), Bv ((lineZ m (wordZ m (numS n) i)).div), Rv ((lineZ m (wordZ m (numS n) i)).div)] gn f100_ rfl rfl rfl rfl rfl ?_
     refine o_loadA [Iv m.mod, Lv m.mul, Lv m.add] gn f64_ rfl rfl rfl rfl rfl ?_
     refine o_loadA [bp ((iterZ m i (numS n)) < 0), .sl 1 (ns .i64 (digs (iterZ m i (numS n)).natAbs))] gn f14_ rfl rfl rfl rfl rfl ?_
     refine o_ct (c_gRest m (iterZ m i (numS n)) (by assumption) (by omega)) gn f65_ rfl ?_
     refine o_ct (c_vThen m (lineZ m (wordZ m (numS n) i)) ((iterZ m i (numS n)) % m.mod) hM hr0 hr1 (by omega) (by omega) (by omega)) gn f174_ rfl ?_
     refine n_as (v' := (linR (lineZ m (wordZ m (numS n) (i + 1))))) (by exact congrArg linR (wordZ_next m (numS n) i)) ?_
     refine o_store [(2, oM 24 m), (3, oZ 47 .i64 (numS n)), (4, .var 40 [Iv ((fndF m (numS n) (kk + 1)).steps), Iv ((fndF m (numS n) (kk + 1)).rest), Sv ((fndF m (numS n) (kk + 1)).lmul), Sv ((fndF m (numS n) (kk + 1)).ladd), Sv ((fndF m (numS n) (kk + 1)).ldiv), Sv ((fndF m (numS n) (kk + 1)).bound)]), (5, .var 67 [Bv ((lineZ m (wordZ m (numS n) (i + 1))).mul), Rv ((lineZ m (wordZ m (numS n) (i + 1))).mul), Bv ((lineZ m (wordZ m (numS n) (i + 1))).add), Rv ((lineZ m (wordZ m (numS n) (i + 1))).add), Bv ((lineZ m (wordZ m (numS n) (i + 1))).div), Rv ((lineZ m (wordZ m (numS n) (i + 1))).div)]), (6, oZ 47 .i64 (iterZ m i (numS n)))] gn f99_ rfl rfl rfl rfl rfl rfl ?_
     refine aops_end ⟨by kernel_rfl, ?_⟩
     refine hK17 _ (awp_seq fun K18 hK18 => awp_region rfl ?_)
     refine o_loadA [Iv m.mod, Lv m.mul, Lv m.add] gn f64_ rfl rfl rfl rfl rfl ?_
     refine o_loadA [bp ((iterZ m i (numS n)) < 0), .sl 1 (ns .i64 (digs (iterZ m i (numS n)).natAbs))] gn f14_ rfl rfl rfl rfl rfl ?_
     refine o_ct (c_gStep m (iterZ m i (numS n)) (by assumption) (by omega)) gn f175_ rfl ?_
     refine n_as (v' := (intR (iterZ m (i + 1) (numS n)))) (by exact rfl) ?_
     refine o_store [(2, oM 24 m), (3, oZ 47 .i64 (numS n)), (4, .var 40 [Iv ((fndF m (numS n) (kk + 1)).steps), Iv ((fndF m (numS n) (kk + 1)).rest), Sv ((fndF m (numS n) (kk + 1)).lmul), Sv ((fndF m (numS n) (kk + 1)).ladd), Sv ((fndF m (numS n) (kk + 1)).ldiv), Sv ((fndF m (numS n) (kk + 1)).bound)]), (5, .var 67 [Bv ((lineZ m (wordZ m (numS n) (i + 1))).mul), Rv ((lineZ m (wordZ m (numS n) (i + 1))).mul), Bv ((lineZ m (wordZ m (numS n) (i + 1))).add), Rv ((lineZ m (wordZ m (numS n) (i + 1))).add), Bv ((lineZ m (wordZ m (numS n) (i + 1))).div), Rv ((lineZ m (wordZ m (numS n) (i + 1))).div)]), (6, oZ 47 .i64 (iterZ m (i + 1) (numS n)))] gn f13_ rfl rfl rfl rfl rfl rfl ?_
     refine aops_end (hK18 _ (awp_seq fun K19 hK19 => awp_seq fun K20 hK20 => awp_region rfl ?_))
     refine o_fieldRef 0 gn f95_ rfl rfl ?_
     refine o_loadA [Bv ((lineZ m (wordZ m (numS n) (i + 1))).mul), Rv ((lineZ m (wordZ m (numS n) (i + 1))).mul)] gn f14_ rfl rfl rfl rfl rfl ?_
     refine o_fieldRef 4 gn f97_ rfl rfl ?_
     refine o_loadA [Bv ((lineZ m (wordZ m (numS n) (i + 1))).div), Rv ((lineZ m (wordZ m (numS n) (i + 1))).div)] gn f14_ rfl rfl rfl rfl rfl ?_
     refine o_ct (c_rCmp ((lineZ m (wordZ m (numS n) (i + 1))).mul) ((lineZ m (wordZ m (numS n) (i + 1))).div)) gn f91_ rfl ?_
     refine o_lss (a := (cmpZ ((lineZ m (wordZ m (numS n) (i + 1))).mul) ((lineZ m (wordZ m (numS n) (i + 1))).div))) (c := ((0 : Nat) : Int)) gn rfl rfl ?_
     refine aops_end (hK20 _ ?_)
     refine awp_condQ (q := (cmpZ ((lineZ m (wordZ m (numS n) (i + 1))).mul) ((lineZ m (wordZ m (numS n) (i + 1))).div)) < ((0 : Nat) : Int)) rfl (fun h5 => ?_) (fun h5 => ?_)
     ·refine awp_seq fun K21 hK21 => ?_
      have hfw : fallsW m (wordZ m (numS n) (i + 1)) := lcmp.1 (by assumption)
      have hfa := ffal_hit h0 hfw (show i + 1 ≤ (kk + 1) by omega)
      have hfb : fndB m (numS n) (kk + 1) := by unfold fndB; omega
      have hfd : fndF m (numS n) (kk + 1) = falO ((i + 1 : Nat) : Int) ((numS n) % m.mod ^ (i + 1)) (lineZ m (wordZ m (numS n) (i + 1))) := by have e : fndF m (numS n) (kk + 1) = _ := if_neg (show ¬ ffal m (numS n) (kk + 1) = 0 by omega); rw [e, hfa]
      have hF := hd.2.1.trans hfd
      have hBf : Fit (bndZ (lineZ m (wordZ m (numS n) (i + 1)))) := bnd_fit hM (wordZ_is hM (numS n) (i + 1)) (by rw [wordZ_len]; omega)
      have hBo : okS (txt (bndZ (lineZ m (wordZ m (numS n) (i + 1))))) = true := okS_iff.2 (okS_txt hBf)
      have hBl := fit_len hBf
      have hBz := txt_sz hBf
      have hex := exact_iff hM (numS n) hfw
      have hp1 : 0 < m.mod ^ (i + 1) := Int.pow_pos (by omega)
      have hpb := pow_le_of hM (j := i + 1) (k := (kk + 1)) (by omega)
      have hpl := small_len (z := m.mod ^ (i + 1)) (by omega)
      have hz0 := Int.emod_nonneg (numS n) (show m.mod ^ (i + 1) ≠ 0 by omega)
      have hz1 := Int.emod_lt_of_pos (numS n) hp1
      have hzl := small_len (z := (numS n) % m.mod ^ (i + 1)) (by omega)
      have hzs : OkS ⟨#[48]⟩ := okS_iff.1 ok_zero.1
      refine awp_regionD rfl ?_
      refine o_loadA [bp ((numS n) < 0), .sl 1 (ns .i64 (digs (numS n).natAbs))] gn f14_ rfl rfl rfl rfl rfl ?_
      refine o_fieldRef 0 gn f60_ rfl rfl ?_
      refine o_loadS (Iv m.mod) gn f11_ rfl rfl rfl ?_
      refine o_mv (Nv (i + 1)) rfl ?_
      refine o_ct (c_tPower m.mod (i + 1) (by omega) (by omega) (by omega)) gn f162_ rfl ?_
      refine o_ct (c_rDiv (numS n) (m.mod ^ (i + 1)) (by omega) (by omega) (by omega)) gn f163_ rfl ?_
      refine o_mv (.tup [intR ((numS n) / (m.mod ^ (i + 1))), intR ((numS n) % (m.mod ^ (i + 1)))]) rfl (o_extract (intR ((numS n) / (m.mod ^ (i + 1)))) gn rfl rfl (o_extract (intR ((numS n) % (m.mod ^ (i + 1)))) gn rfl rfl ?_))
      refine o_alloc 101 [Fv, Zv] gn f9_ rfl rfl rfl ?_
      refine o_alloc 102 [Fv, Zv] gn f9_ rfl rfl rfl ?_
      refine o_store [(102, .var 47 [Fv, Zv]), (101, oZ 47 .i64 ((numS n) / (m.mod ^ (i + 1)))), (2, oM 24 m), (3, oZ 47 .i64 (numS n)), (4, .var 40 [Iv ((fndF m (numS n) (kk + 1)).steps), Iv ((fndF m (numS n) (kk + 1)).rest), Sv ((fndF m (numS n) (kk + 1)).lmul), Sv ((fndF m (numS n) (kk + 1)).ladd), Sv ((fndF m (numS n) (kk + 1)).ldiv), Sv ((fndF m (numS n) (kk + 1)).bound)]), (5, .var 67 [Bv ((lineZ m (wordZ m (numS n) (i + 1))).mul), Rv ((lineZ m (wordZ m (numS n) (i + 1))).mul), Bv ((lineZ m (wordZ m (numS n) (i + 1))).add), Rv ((lineZ m (wordZ m (numS n) (i + 1))).add), Bv ((lineZ m (wordZ m (numS n) (i + 1))).div), Rv ((lineZ m (wordZ m (numS n) (i + 1))).div)]), (6, oZ 47 .i64 (iterZ m (i + 1) (numS n)))] gn f13_ rfl rfl rfl rfl rfl rfl ?_
      refine o_store [(102, oZ 47 .i64 ((numS n) % (m.mod ^ (i + 1)))), (101, oZ 47 .i64 ((numS n) / (m.mod ^ (i + 1)))), (2, oM 24 m), (3, oZ 47 .i64 (numS n)), (4, .var 40 [Iv ((fndF m (numS n) (kk + 1)).steps), Iv ((fndF m (numS n) (kk + 1)).rest), Sv ((fndF m (numS n) (kk + 1)).lmul), Sv ((fndF m (numS n) (kk + 1)).ladd), Sv ((fndF m (numS n) (kk + 1)).ldiv), Sv ((fndF m (numS n) (kk + 1)).bound)]), (5, .var 67 [Bv ((lineZ m (wordZ m (numS n) (i + 1))).mul), Rv ((lineZ m (wordZ m (numS n) (i + 1))).mul), Bv ((lineZ m (wordZ m (numS n) (i + 1))).add), Rv ((lineZ m (wordZ m (numS n) (i + 1))).add), Bv ((lineZ m (wordZ m (numS n) (i + 1))).div), Rv ((lineZ m (wordZ m (numS n) (i + 1))).div)]), (6, oZ 47 .i64 (iterZ m (i + 1) (numS n)))] gn f13_ rfl rfl rfl rfl rfl rfl ?_
      refine aops_end ⟨by kernel_rfl, ?_⟩
      refine hK21 _ (awp_seq fun K22 hK22 => awp_region rfl ?_)
      refine o_ct (c_rParse ⟨#[48]⟩ hzs) gn f171_ rfl ?_
      refine o_alloc 103 [Fv, Zv] gn f9_ rfl rfl rfl ?_
      refine o_store [(103, oZ 47 .i64 (numS ⟨#[48]⟩)), (102, oZ 47 .i64 ((numS n) % (m.mod ^ (i + 1)))), (101, oZ 47 .i64 ((numS n) / (m.mod ^ (i + 1)))), (2, oM 24 m), (3, oZ 47 .i64 (numS n)), (4, .var 40 [Iv ((fndF m (numS n) (kk + 1)).steps), Iv ((fndF m (numS n) (kk + 1)).rest), Sv ((fndF m (numS n) (kk + 1)).lmul), Sv ((fndF m (numS n) (kk + 1)).ladd), Sv ((fndF m (numS n) (kk + 1)).ldiv), Sv ((fndF m (numS n) (kk + 1)).bound)]), (5, .var 67 [Bv ((lineZ m (wordZ m (numS n) (i + 1))).mul), Rv ((lineZ m (wordZ m (numS n) (i + 1))).mul), Bv ((lineZ m (wordZ m (numS n) (i + 1))).add), Rv ((lineZ m (wordZ m (numS n) (i + 1))).add), Bv ((lineZ m (wordZ m (numS n) (i + 1))).div), Rv ((lineZ m (wordZ m (numS n) (i + 1))).div)]), (6, oZ 47 .i64 (iterZ m (i + 1) (numS n)))] gn f13_ rfl rfl rfl rfl rfl rfl ?_
      refine aops_end (hK22 _ (awp_seq fun K23 hK23 => awp_seq fun K24 hK24 => awp_region rfl ?_))
      refine o_fieldRef 5 gn f176_ rfl rfl ?_
      refine o_loadS (Sv ((fndF m (numS n) (kk + 1)).bound)) gn f157_ rfl rfl rfl ?_
      refine n_as (v' := (Sv (txt (bndZ (lineZ m (wordZ m (numS n) (i + 1))))))) (by exact str_as (congrArg Fal.bound hfd)) ?_
      refine o_ct (c_rValid (txt (bndZ (lineZ m (wordZ m (numS n) (i + 1))))) (by assumption)) gn f158_ rfl ?_
      refine n_as (v' := Tv) (by exact congrArg (fun b => AV.lit (.bool b)) hBo) ?_
      refine aops_end (hK24 _ ?_)
      refine awp_condB (b := true) rfl (fun _ => ?_) (fun hh => absurd (hh.symm.trans rfl) (by decide))
      refine awp_region rfl ?_
      refine o_fieldRef 5 gn f176_ rfl rfl ?_
      refine o_loadS (Sv ((fndF m (numS n) (kk + 1)).bound)) gn f157_ rfl rfl rfl ?_
      refine n_as (v' := (Sv (txt (bndZ (lineZ m (wordZ m (numS n) (i + 1))))))) (by exact str_as (congrArg Fal.bound hfd)) ?_
      refine o_ct (c_rParse (txt (bndZ (lineZ m (wordZ m (numS n) (i + 1))))) (by exact okS_iff.1 (by assumption))) gn f171_ rfl ?_
      refine n_as (v' := (intR (bndZ (lineZ m (wordZ m (numS n) (i + 1)))))) (by exact congrArg intR (numS_txt _)) ?_
      refine o_store [(103, oZ 47 .i64 (bndZ (lineZ m (wordZ m (numS n) (i + 1))))), (102, oZ 47 .i64 ((numS n) % (m.mod ^ (i + 1)))), (101, oZ 47 .i64 ((numS n) / (m.mod ^ (i + 1)))), (2, oM 24 m), (3, oZ 47 .i64 (numS n)), (4, .var 40 [Iv ((fndF m (numS n) (kk + 1)).steps), Iv ((fndF m (numS n) (kk + 1)).rest), Sv ((fndF m (numS n) (kk + 1)).lmul), Sv ((fndF m (numS n) (kk + 1)).ladd), Sv ((fndF m (numS n) (kk + 1)).ldiv), Sv ((fndF m (numS n) (kk + 1)).bound)]), (5, .var 67 [Bv ((lineZ m (wordZ m (numS n) (i + 1))).mul), Rv ((lineZ m (wordZ m (numS n) (i + 1))).mul), Bv ((lineZ m (wordZ m (numS n) (i + 1))).add), Rv ((lineZ m (wordZ m (numS n) (i + 1))).add), Bv ((lineZ m (wordZ m (numS n) (i + 1))).div), Rv ((lineZ m (wordZ m (numS n) (i + 1))).div)]), (6, oZ 47 .i64 (iterZ m (i + 1) (numS n)))] gn f13_ rfl rfl rfl rfl rfl rfl ?_
      refine aops_end (hK23 _ (awp_seq fun K25 hK25 => awp_regionD rfl (o_mv (bp (fndB m (numS n) (kk + 1))) rfl ?_)))
      refine n_as (v' := Tv) (by exact bpy hfb) ?_
      refine o_mv Tv rfl ?_
      refine o_fieldRef 0 (Gd.yes rfl rfl rfl) f125_ rfl rfl ?_
      refine o_loadS (Iv ((fndF m (numS n) (kk + 1)).steps)) (Gd.yes rfl rfl rfl) f11_ rfl rfl rfl ?_
      refine n_as (v' := (Nv (i + 1))) (by exact congrArg (fun z => AV.lit (.int .i64 z)) (congrArg Fal.steps hfd)) ?_
      refine o_move (Nv (i + 1)) (Gd.yes rfl rfl rfl) rfl ?_
      refine n_eql (i + 1) (i + 1) (Gd.yes rfl rfl rfl) rfl rfl ?_
      refine n_as (v' := Tv) (by exact bpy rfl) ?_
      refine o_pickT Tv gn rfl rfl rfl ?_
      refine o_mv Tv rfl ?_
      refine o_loadA [bp (((numS n) % (m.mod ^ (i + 1))) < 0), .sl 1 (ns .i64 (digs ((numS n) % (m.mod ^ (i + 1))).natAbs))] (Gd.yes rfl rfl rfl) f14_ rfl rfl rfl rfl rfl ?_
      refine o_fieldRef 1 (Gd.yes rfl rfl rfl) f124_ rfl rfl ?_
      refine o_loadS (Iv ((fndF m (numS n) (kk + 1)).rest)) (Gd.yes rfl rfl rfl) f11_ rfl rfl rfl ?_
      refine n_as (v' := (Iv ((numS n) % m.mod ^ (i + 1)))) (by exact congrArg (fun z => AV.lit (.int .i64 z)) (congrArg Fal.rest hfd)) ?_
      refine o_ct (c_rOf ((numS n) % m.mod ^ (i + 1)) (by omega) (by omega)) (Gd.yes rfl rfl rfl) f45_ rfl ?_
      refine o_ct (c_rCmp ((numS n) % (m.mod ^ (i + 1))) ((numS n) % m.mod ^ (i + 1))) (Gd.yes rfl rfl rfl) f91_ rfl ?_
      refine o_eql (a := (cmpZ ((numS n) % (m.mod ^ (i + 1))) ((numS n) % m.mod ^ (i + 1)))) (c := ((0 : Nat) : Int)) (Gd.yes rfl rfl rfl) rfl rfl ?_
      refine n_as (v' := Tv) (by exact bpy (cmpz_eq.2 rfl)) ?_
      refine o_pickT Tv gn rfl rfl rfl ?_
      refine o_mv Tv rfl ?_
      refine o_fieldRef 5 (Gd.yes rfl rfl rfl) f176_ rfl rfl ?_
      refine o_loadS (Sv ((fndF m (numS n) (kk + 1)).bound)) (Gd.yes rfl rfl rfl) f157_ rfl rfl rfl ?_
      refine n_as (v' := (Sv (txt (bndZ (lineZ m (wordZ m (numS n) (i + 1))))))) (by exact str_as (congrArg Fal.bound hfd)) ?_
      refine o_ct (c_rValid (txt (bndZ (lineZ m (wordZ m (numS n) (i + 1))))) (by assumption)) (Gd.yes rfl rfl rfl) f158_ rfl ?_
      refine n_as (v' := Tv) (by exact congrArg (fun b => AV.lit (.bool b)) hBo) ?_
      refine o_pickT Tv gn rfl rfl rfl ?_
      refine o_mv Tv rfl ?_
      refine o_loadA [bp ((iterZ m (i + 1) (numS n)) < 0), .sl 1 (ns .i64 (digs (iterZ m (i + 1) (numS n)).natAbs))] (Gd.yes rfl rfl rfl) f14_ rfl rfl rfl rfl rfl ?_
      refine o_loadA [bp ((numS n) < 0), .sl 1 (ns .i64 (digs (numS n).natAbs))] (Gd.yes rfl rfl rfl) f14_ rfl rfl rfl rfl rfl ?_
      refine o_ct (c_rCmp (iterZ m (i + 1) (numS n)) (numS n)) (Gd.yes rfl rfl rfl) f91_ rfl ?_
      refine o_lss (a := (cmpZ (iterZ m (i + 1) (numS n)) (numS n))) (c := ((0 : Nat) : Int)) (Gd.yes rfl rfl rfl) rfl rfl ?_
      refine o_loadA [bp ((numS n) < 0), .sl 1 (ns .i64 (digs (numS n).natAbs))] (Gd.yes rfl rfl rfl) f14_ rfl rfl rfl rfl rfl ?_
      refine o_loadA [bp ((bndZ (lineZ m (wordZ m (numS n) (i + 1)))) < 0), .sl 1 (ns .i64 (digs (bndZ (lineZ m (wordZ m (numS n) (i + 1)))).natAbs))] (Gd.yes rfl rfl rfl) f14_ rfl rfl rfl rfl rfl ?_
      refine o_ct (c_rCmp (numS n) (bndZ (lineZ m (wordZ m (numS n) (i + 1))))) (Gd.yes rfl rfl rfl) f91_ rfl ?_
      refine o_gtr (a := (cmpZ (numS n) (bndZ (lineZ m (wordZ m (numS n) (i + 1)))))) (c := ((0 : Nat) : Int)) (Gd.yes rfl rfl rfl) rfl rfl ?_
      refine o_eqlB (a := (decide ((cmpZ (iterZ m (i + 1) (numS n)) (numS n)) < ((0 : Nat) : Int)))) (c := (decide (((0 : Nat) : Int) < (cmpZ (numS n) (bndZ (lineZ m (wordZ m (numS n) (i + 1)))))))) (Gd.yes rfl rfl rfl) rfl rfl f30_ ?_
      refine n_as (v' := Tv) (by exact bpy (decide_eq_decide.2 hex)) ?_
      refine o_pickT Tv gn rfl rfl rfl ?_
      refine o_mv Tv rfl ?_
      refine o_fieldRef 2 (Gd.yes rfl rfl rfl) f177_ rfl rfl ?_
      refine o_loadA [Sv ((fndF m (numS n) (kk + 1)).lmul), Sv ((fndF m (numS n) (kk + 1)).ladd), Sv ((fndF m (numS n) (kk + 1)).ldiv)] (Gd.yes rfl rfl rfl) f90_ rfl rfl rfl rfl rfl ?_
      refine n_as (v' := (.agg [Sv ((lineT (lineZ m (wordZ m (numS n) (i + 1)))).mul), Sv ((lineT (lineZ m (wordZ m (numS n) (i + 1)))).add), Sv ((lineT (lineZ m (wordZ m (numS n) (i + 1)))).div)])) (by exact congrArg (fun f : Fal => AV.agg [.lit (.string f.lmul), .lit (.string f.ladd), .lit (.string f.ldiv)]) hfd) ?_
      refine o_loadA [Bv ((lineZ m (wordZ m (numS n) (i + 1))).mul), Rv ((lineZ m (wordZ m (numS n) (i + 1))).mul), Bv ((lineZ m (wordZ m (numS n) (i + 1))).add), Rv ((lineZ m (wordZ m (numS n) (i + 1))).add), Bv ((lineZ m (wordZ m (numS n) (i + 1))).div), Rv ((lineZ m (wordZ m (numS n) (i + 1))).div)] (Gd.yes rfl rfl rfl) f100_ rfl rfl rfl rfl rfl ?_
      refine o_ct (c_vText (lineZ m (wordZ m (numS n) (i + 1))) (by omega) (by omega) (by omega)) (Gd.yes rfl rfl rfl) f178_ rfl ?_
      refine o_eqlA [.string ((lineT (lineZ m (wordZ m (numS n) (i + 1)))).mul), .string ((lineT (lineZ m (wordZ m (numS n) (i + 1)))).add), .string ((lineT (lineZ m (wordZ m (numS n) (i + 1)))).div)] [.string ((lineT (lineZ m (wordZ m (numS n) (i + 1)))).mul), .string ((lineT (lineZ m (wordZ m (numS n) (i + 1)))).add), .string ((lineT (lineZ m (wordZ m (numS n) (i + 1)))).div)] (((lineT (lineZ m (wordZ m (numS n) (i + 1)))).mul) = ((lineT (lineZ m (wordZ m (numS n) (i + 1)))).mul) ∧ ((lineT (lineZ m (wordZ m (numS n) (i + 1)))).add) = ((lineT (lineZ m (wordZ m (numS n) (i + 1)))).add) ∧ ((lineT (lineZ m (wordZ m (numS n) (i + 1)))).div) = ((lineT (lineZ m (wordZ m (numS n) (i + 1)))).div)) (Gd.yes rfl rfl rfl) rfl rfl (eq_api_Line _ _ _ _ _ _) ?_
      refine n_as (v' := Tv) (by exact bpy ⟨rfl, rfl, rfl⟩) ?_
      refine o_pickT Tv gn rfl rfl rfl ?_
      refine o_mv Tv rfl ?_
      refine o_loadA [Iv m.mod, Lv m.mul, Lv m.add] (Gd.yes rfl rfl rfl) f64_ rfl rfl rfl rfl rfl ?_
      refine o_loadA [bp ((numS n) < 0), .sl 1 (ns .i64 (digs (numS n).natAbs))] (Gd.yes rfl rfl rfl) f14_ rfl rfl rfl rfl rfl ?_
      refine o_loadA [Iv ((fndF m (numS n) (kk + 1)).steps), Iv ((fndF m (numS n) (kk + 1)).rest), Sv ((fndF m (numS n) (kk + 1)).lmul), Sv ((fndF m (numS n) (kk + 1)).ladd), Sv ((fndF m (numS n) (kk + 1)).ldiv), Sv ((fndF m (numS n) (kk + 1)).bound)] (Gd.yes rfl rfl rfl) f109_ rfl rfl rfl rfl rfl ?_
      refine o_move (Nv (kk + 1)) (Gd.yes rfl rfl rfl) rfl ?_
      refine o_ct (c_tListed m (numS n) (kk + 1) hM hmy (by omega)) (Gd.yes rfl rfl rfl) f179_ rfl ?_
      refine o_pickT Tv gn rfl rfl rfl ?_
      refine o_mv Tv rfl ?_
      refine o_ct c_tSifts (Gd.yes rfl rfl rfl) f165_ rfl ?_
      refine o_pickT Tv gn rfl rfl rfl ?_
      refine o_as Tv rfl ?_
      refine aops_end ⟨by kernel_rfl, ?_⟩
      refine hK25 _ ?_
      refine awp_ret ?_
      refine post_ret ⟨[Tv], ⟨AV.le_refl _, trivial⟩, rfl, ?_⟩
      rfl
     ·refine awp_skip (hK19 _ (awp_seq fun K26 hK26 => awp_regionD rfl ?_))
      refine o_loadA [bp ((iterZ m (i + 1) (numS n)) < 0), .sl 1 (ns .i64 (digs (iterZ m (i + 1) (numS n)).natAbs))] gn f14_ rfl rfl rfl rfl rfl ?_
      refine o_loadA [bp ((numS n) < 0), .sl 1 (ns .i64 (digs (numS n).natAbs))] gn f14_ rfl rfl rfl rfl rfl ?_
      refine o_ct (c_rCmp (iterZ m (i + 1) (numS n)) (numS n)) gn f91_ rfl ?_
      refine o_lss (a := (cmpZ (iterZ m (i + 1) (numS n)) (numS n))) (c := ((0 : Nat) : Int)) gn rfl rfl ?_
      refine o_fieldRef 0 gn f95_ rfl rfl ?_
      refine o_loadA [Bv ((lineZ m (wordZ m (numS n) (i + 1))).mul), Rv ((lineZ m (wordZ m (numS n) (i + 1))).mul)] gn f14_ rfl rfl rfl rfl rfl ?_
      refine o_fieldRef 4 gn f97_ rfl rfl ?_
      refine o_loadA [Bv ((lineZ m (wordZ m (numS n) (i + 1))).div), Rv ((lineZ m (wordZ m (numS n) (i + 1))).div)] gn f14_ rfl rfl rfl rfl rfl ?_
      refine o_ct (c_rSub ((lineZ m (wordZ m (numS n) (i + 1))).mul) ((lineZ m (wordZ m (numS n) (i + 1))).div) (by omega) (by omega)) gn f93_ rfl ?_
      refine o_loadA [bp ((numS n) < 0), .sl 1 (ns .i64 (digs (numS n).natAbs))] gn f14_ rfl rfl rfl rfl rfl ?_
      refine o_ct (c_rMul (((lineZ m (wordZ m (numS n) (i + 1))).mul) - ((lineZ m (wordZ m (numS n) (i + 1))).div)) (numS n) (by omega) (by omega)) gn f66_ rfl ?_
      refine o_fieldRef 2 gn f96_ rfl rfl ?_
      refine o_loadA [Bv ((lineZ m (wordZ m (numS n) (i + 1))).add), Rv ((lineZ m (wordZ m (numS n) (i + 1))).add)] gn f14_ rfl rfl rfl rfl rfl ?_
      refine o_ct (c_rAdd ((((lineZ m (wordZ m (numS n) (i + 1))).mul) - ((lineZ m (wordZ m (numS n) (i + 1))).div)) * (numS n)) ((lineZ m (wordZ m (numS n) (i + 1))).add) (by omega) (by omega)) gn f38_ rfl ?_
      refine o_ct (c_rSign (((((lineZ m (wordZ m (numS n) (i + 1))).mul) - ((lineZ m (wordZ m (numS n) (i + 1))).div)) * (numS n)) + ((lineZ m (wordZ m (numS n) (i + 1))).add))) gn f21_ rfl ?_
      refine o_lss (a := (sgn (((((lineZ m (wordZ m (numS n) (i + 1))).mul) - ((lineZ m (wordZ m (numS n) (i + 1))).div)) * (numS n)) + ((lineZ m (wordZ m (numS n) (i + 1))).add)))) (c := ((0 : Nat) : Int)) gn rfl rfl ?_
      refine o_neqB (a := (decide ((cmpZ (iterZ m (i + 1) (numS n)) (numS n)) < ((0 : Nat) : Int)))) (c := (decide ((sgn (((((lineZ m (wordZ m (numS n) (i + 1))).mul) - ((lineZ m (wordZ m (numS n) (i + 1))).div)) * (numS n)) + ((lineZ m (wordZ m (numS n) (i + 1))).add))) < ((0 : Nat) : Int)))) gn rfl rfl f30_ ?_
      refine n_as (v' := Fv) (by exact bpn (fun h => h (decide_eq_decide.2 hll))) ?_
      refine aops_end ⟨by kernel_rfl, ?_⟩
      refine hK26 _ ?_
      refine awp_condB (b := false) rfl (fun hh => absurd (hh.symm.trans rfl) (by decide)) (fun _ => ?_)
      refine awp_skip (hK16 _ (awp_region rfl (o_mv (Nv (i + 1)) rfl ?_)))
      refine n_add (i + 1) 1 gn rfl rfl (by simp only [topOf]; omega) ?_
      refine o_as (Nv ((i + 1) + 1)) rfl (aops_end ?_)
      refine ⟨_, _, ?lt, ⟨i + 1, (by omega), (ffal_next h0 (fun e => absurd (lcmp.2 e) (by assumption))), rfl, rfl⟩, ?wk⟩
      case lt => omega
      case wk => exact Wk.sub ⟨rfl, rfl, rfl, rfl, rfl, rfl, rfl, (by rfl), trivial⟩ ⟨rfl, rfl, rfl, rfl, rfl, trivial⟩
    ·refine awp_exit ?_
     refine hK12 _ (awp_seq fun K27 hK27 => ?_)
     have hik : i = (kk + 1) := by omega
     have hnb : ¬ fndB m (numS n) (kk + 1) := fun e => e (by rw [← hik]; exact h0)
     refine awp_region rfl (o_mv (bp (fndB m (numS n) (kk + 1))) rfl ?_)
     refine o_notP (q := fndB m (numS n) (kk + 1)) gn rfl ?_
     refine n_as (v' := Tv) (by exact bpy hnb) ?_
     refine o_mv Tv rfl ?_
     refine o_loadA [Iv m.mod, Lv m.mul, Lv m.add] (Gd.yes rfl rfl rfl) f64_ rfl rfl rfl rfl rfl ?_
     refine o_loadA [bp ((numS n) < 0), .sl 1 (ns .i64 (digs (numS n).natAbs))] (Gd.yes rfl rfl rfl) f14_ rfl rfl rfl rfl rfl ?_
     refine o_loadA [Iv ((fndF m (numS n) (kk + 1)).steps), Iv ((fndF m (numS n) (kk + 1)).rest), Sv ((fndF m (numS n) (kk + 1)).lmul), Sv ((fndF m (numS n) (kk + 1)).ladd), Sv ((fndF m (numS n) (kk + 1)).ldiv), Sv ((fndF m (numS n) (kk + 1)).bound)] (Gd.yes rfl rfl rfl) f109_ rfl rfl rfl rfl rfl ?_
     refine o_move (Nv (kk + 1)) (Gd.yes rfl rfl rfl) rfl ?_
     refine o_ct (c_tListed m (numS n) (kk + 1) hM hmy (by omega)) (Gd.yes rfl rfl rfl) f179_ rfl ?_
     refine o_pickT Tv gn rfl rfl rfl ?_
     refine o_mv Tv rfl ?_
     refine o_ct c_tSifts (Gd.yes rfl rfl rfl) f165_ rfl ?_
     refine o_pickT Tv gn rfl rfl rfl ?_
     refine o_as Tv rfl (aops_end (hK27 _ ?_))
     refine awp_ret ?_
     refine post_ret ⟨[Tv], ⟨AV.le_refl _, trivial⟩, rfl, ?_⟩
     rfl

end Go.Proofs.YtjbaamfahkjhgaaGreatDoor

namespace Go.Proofs.YtjbaamfahkjhgaaGreatDoor.topFalls
open Go Go.Ab Go.Mth Go.ChangeShapes Go.WideShapes Go.ChangeAt Go.RowKit
theorem reads (os : Os) {H : Type} (enc : TypeId × Value → H) : ∃ places, DataW.whole enc Tryz.prog ((World.laidAll Tryz.prog os laid5).forCall (fun _ _ => 0) ⟨#[], #[.agg #[.int .i64 0, .slice none 0 0, .slice none 0 0], .string ByteArray.empty, .int .i64 0], []⟩).memory Tryz.f8.params.toList Rows.topFallsSpec.vars false (#[.agg #[.int .i64 0, .slice none 0 0, .slice none 0 0], .string ByteArray.empty, .int .i64 0] : Array Value).toList 8 = some ([.agg [.lit (.int .i64 0), .nil, .nil], .lit (.string []), .lit (.int .i64 0)], [], places) := ⟨[], by kernel_rfl⟩
theorem met (os : Os) : laidMetH Tryz.prog laid5 ((World.laidAll Tryz.prog os laid5).forCall (fun _ _ => 0) ⟨#[], #[.agg #[.int .i64 0, .slice none 0 0, .slice none 0 0], .string ByteArray.empty, .int .i64 0], []⟩).memory := (MakeChecks.laidMetH_plain _ _ _ (by kernel_rfl)).mpr (laidMet_laidAll _ (by kernel_rfl) (by kernel_rfl))
theorem specs {H : Type} (ds : List (DataW H)) (h : ds.length = 3) : (Rows.topFallsSpec.fn H ds).results = [.lit (.bool true)] ∧ (Rows.topFallsSpec.fn H ds).args = ds ∧ (Rows.topFallsSpec.fn H ds).vars = [] := by
 rcases ds with _ | ⟨d0, _ | ⟨d1, _ | ⟨d2, _ | ⟨e, t⟩⟩⟩⟩ <;> simp at h <;> exact ⟨rfl, rfl, rfl⟩
set_option maxRecDepth 100000 in
theorem opened {H : Type} (enc : TypeId × Value → H) (W : World) (base : Nat) (args : Array Value) (ds : List (DataW H)) (ps : List MemPlace) (hval : ∀ (j : Nat) t v, (#[24, 9, 3] : Array TypeId)[j]? = some t → args[j]? = some v → Value.okWide Tryz.prog W .any base t v)
  (hA : DataW.TrodAll enc Tryz.prog W 0 (fun _ => true) true [24, 9, 3] args.toList ds ps) (hsz : (DataW.weightsEach Tryz.prog [24, 9, 3] ds).all (· ≤ reachBytes) = true) : ∃ xs, RepL (memOf W) xs noLoc args.toList ∧ ECalls cx 8 xs (.lit (.bool true)) := by
 obtain ⟨v0, vs0, d0, ds0, p0, q0, hargs, rfl, rfl, h0, r0⟩ := trodAll_cons hA
 obtain ⟨v1, vs1, d1, ds1, p1, q1, rfl, rfl, rfl, h1, r1⟩ := trodAll_cons r0
 obtain ⟨v2, vs2, d2, ds2, p2, q2, rfl, rfl, rfl, h2, r2⟩ := trodAll_cons r1
 obtain ⟨rfl, rfl, rfl⟩ := trodAll_nil r2
 obtain rfl : args = #[v0, v1, v2] := by cases args; simp_all
 obtain ⟨m0, e0, b0, c0⟩ := rep_map (hval 0 24 v0 rfl rfl) h0 (fun n hn => by simpa using List.all_eq_true.1 hsz n (DataW.weights_mem_each (j := 0) rfl rfl n hn))
 obtain ⟨a1, e1, b1⟩ := rep_str (hval 1 9 v1 rfl rfl) h1
 obtain ⟨k2, e2, b2⟩ := rep_int (hval 2 3 v2 rfl rfl) h2
 exact ⟨[mapV m0, .lit (.string a1), .lit (.int .i64 k2)], RepL.cons e0 (RepL.cons e1 (RepL.cons e2 (by simp only [RepL]))), c_TopFalls m0 a1 k2 b1 b0 c0 b2⟩
set_option maxRecDepth 100000 in
theorem lifted (os : Os) (started : os.Started) (H : Type) (enc : TypeId × Value → H) (F : Stop.Interp) :
  ReturnsInHanded {} Tryz.checked os 8 .any ((OpenSpec.ofChange Rows.topFallsSpec).preRow enc Tryz.prog Tryz.f8 Rows.topFallsRow.domain false Rows.topFallsRow.laid) (((OpenSpec.ofChange Rows.topFallsSpec).at F).post enc Tryz.prog Tryz.f8 false true false false) := by
 obtain ⟨places, hx⟩ := reads os enc
 refine lifted_of (C := Tryz.checked) started cx rfl ownT (by kernel_rfl) Tryz.func8 (witness_laid #[.agg #[.int .i64 0, .slice none 0 0, .slice none 0 0], .string ByteArray.empty, .int .i64 0] (by kernel_rfl) (by kernel_rfl) (by kernel_rfl) (OpenSpec.preRow_of_cond 8 hx (by kernel_rfl) (fun k hk => by cases hk) (by kernel_rfl) (met os))) laidOutT (by kernel_rfl) (tb := 4) (by kernel_rfl) u4T rfl (fun ds h => specs ds (h.trans (by kernel_rfl))) (fun W h => tabG_of h) ?_
 intro W base args ds ps hval hA hsz
 exact opened enc W base args ds ps hval hA hsz
theorem said : Rows.TopFallsSaid :=
 OpenClaim.holds_of_cond 8 Tryz.f8 rfl rfl rfl rfl rfl rfl rfl ⟨rfl, rfl, rfl, rfl, rfl⟩ rfl rfl rfl rfl rfl (by kernel_rfl) Tryz.func8 (by kernel_rfl)
  (of_decide_eq_true (by kernel_rfl)) (by unfold Func.isWrapper; first | (rw [if_pos (by decide +kernel)]; kernel_rfl) | (rw [if_neg (by decide +kernel)]; exact ⟨rfl, rfl⟩))
  (fun os started H enc _ F => by rw [OpenClaim.pre_eq_preRow]; exact lifted os started H enc F)
theorem plain (f : FuncId) (fn : Func) (hf : Tryz.pinned.checked.prog.funcNamed "katabasis/katabasistop.TopFalls" = some f) (hfn : Tryz.pinned.checked.prog.funcs[f]? = some fn) :
  true = Tryz.pinned.checked.prog.looks [] ∧ ∀ (j : Nat) t, fn.params[j]? = some t → Tryz.pinned.checked.prog.wantsStandIn t = false := by
 obtain rfl : f = 8 := Option.some.inj ((show Tryz.prog.funcNamed "katabasis/katabasistop.TopFalls" = some 8 by kernel_rfl).symm.trans hf) |>.symm
 obtain rfl : fn = Tryz.f8 := (Option.some.inj (Tryz.func8.symm.trans hfn)).symm
 refine ⟨by kernel_rfl, fun j t ht => ?_⟩
 rw [Tryz.params8] at ht
 have : t = 24 ∨ t = 9 ∨ t = 3 := by have h := Array.mem_of_getElem? ht; simp at h; first | exact h | (rcases h with h | h | h | h <;> simp [h]) | (rcases h with h | h | h <;> simp [h]) | (rcases h with h | h <;> simp [h])
 rcases this with rfl | rfl | rfl
 ·exact (show Tryz.prog.wantsStandIn 24 = false by kernel_rfl)
 ·exact (show Tryz.prog.wantsStandIn 9 = false by kernel_rfl)
 ·exact (show Tryz.prog.wantsStandIn 3 = false by kernel_rfl)
end Go.Proofs.YtjbaamfahkjhgaaGreatDoor.topFalls
namespace Go.Proofs.YtjbaamfahkjhgaaGreatDoor
open Go
theorem topFalls_holds : Rows.TopFallsCardSaid :=
 Claim7.holds_tied_plain_at .later [] _ _ _ _ topFalls.said (fun _ h => by cases h) (by kernel_rfl) (fun _ h => by cases h) topFalls_row_tie rfl ⟨rfl, rfl⟩ (by kernel_rfl) rfl topFalls.plain (by kernel_rfl)
#print axioms topFalls_holds
end Go.Proofs.YtjbaamfahkjhgaaGreatDoor

