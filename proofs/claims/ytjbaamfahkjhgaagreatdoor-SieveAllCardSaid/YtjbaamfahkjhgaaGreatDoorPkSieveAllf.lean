/- The law 'katabasislaw04.SieveAll' is true for every map, string and number: each number has the rest of exactly one fall, which Find returns, or a rest that is left, and not both; falls and rests are in order. Its condition: none but the row's own (the listed tables of the library). -/
import Derived.Test.YtjbaamfahkjhgaaGreatDoorPkSieveAlle
set_option linter.unusedVariables false
set_option linter.unusedSimpArgs false
namespace Go.Mth
open Go Go.Ab
def fAt (m : MapM) (i : Nat) (x : Int) : Fal := falO ((i : Nat) : Int) x (lineZ m (wordZ m x i))
theorem visT_mem1 {g : Nat → List Fal × List Int} {f : Fal} : ∀ {T : Nat}, f ∈ (visT g T).1 ↔ ∃ t, t < T ∧ f ∈ (g t).1
 | 0 => by simp [visT]
 | T + 1 => by
  rw [visT]
  simp only [List.mem_append]
  rw [visT_mem1]
  constructor
  ·rintro (⟨t, h1, h2⟩ | h)
   ·exact ⟨t, by omega, h2⟩
   ·exact ⟨T, by omega, h⟩
  ·rintro ⟨t, h1, h2⟩
   rcases Nat.lt_or_ge t T with h | h
   ·exact .inl ⟨t, h, h2⟩
   ·right; rw [show T = t by omega]; exact h2
theorem visT_mem2 {g : Nat → List Fal × List Int} {f : Int} : ∀ {T : Nat}, f ∈ (visT g T).2 ↔ ∃ t, t < T ∧ f ∈ (g t).2
 | 0 => by simp [visT]
 | T + 1 => by
  rw [visT]
  simp only [List.mem_append]
  rw [visT_mem2]
  constructor
  ·rintro (⟨t, h1, h2⟩ | h)
   ·exact ⟨t, by omega, h2⟩
   ·exact ⟨T, by omega, h⟩
  ·rintro ⟨t, h1, h2⟩
   rcases Nat.lt_or_ge t T with h | h
   ·exact .inl ⟨t, h, h2⟩
   ·right; rw [show T = t by omega]; exact h2
theorem digit {b : Int} (hb : 2 ≤ b) (x : Int) (n : Nat) : ∃ t : Nat, t < b.toNat ∧ x % b ^ (n + 1) = x % b ^ n + ((t : Nat) : Int) * b ^ n := by
 have hp : 0 < b ^ n := Int.pow_pos (by omega)
 have hp1 : 0 < b ^ (n + 1) := Int.pow_pos (by omega)
 have hs : b ^ (n + 1) = b ^ n * b := Int.pow_succ b n
 have h0 := Int.emod_nonneg x (show b ^ (n + 1) ≠ 0 by omega)
 have h1 := Int.emod_lt_of_pos x hp1
 have hm : x % b ^ (n + 1) % b ^ n = x % b ^ n := Int.emod_emod_of_dvd _ ⟨b, hs⟩
 have he := Int.emod_add_mul_ediv (x % b ^ (n + 1)) (b ^ n)
 have q0 : 0 ≤ x % b ^ (n + 1) / b ^ n := Int.ediv_nonneg h0 (Int.le_of_lt hp)
 have q1 : x % b ^ (n + 1) / b ^ n < b := Int.ediv_lt_of_lt_mul hp (by rw [Int.mul_comm, ← hs]; exact h1)
 refine ⟨(x % b ^ (n + 1) / b ^ n).toNat, by omega, ?_⟩
 rw [Int.toNat_of_nonneg q0, Int.mul_comm, ← hm]
 omega
theorem ffal_n {m : MapM} {r : Int} {n : Nat} (hff : ∀ j, j + 1 = n → ffal m r j = 0) (h : ¬ fallN m r n) : ffal m r n = 0 := by
 cases n with
 | zero => rfl
 | succ j => exact ffal_next (hff j rfl) fun e => h ⟨by omega, e⟩
theorem at_n {m : MapM} {r x : Int} {n : Nat} (hx0 : 0 ≤ x) (hx1 : x < m.mod ^ n) (hr : x % m.mod ^ n = r) : x = r := by rw [← hr, Int.emod_eq_of_lt hx0 hx1]
theorem vis_mem {m : MapM} (hm : OkM m) : ∀ (d n : Nat) (r : Int), 0 ≤ r → r < m.mod ^ n → (∀ j, j + 1 = n → ffal m r j = 0) →
  (∀ f, f ∈ (visA m d n r).1 ↔ ∃ (i : Nat) (x : Int), (n ≤ i ∧ i ≤ n + d ∧ 1 ≤ i) ∧ (0 ≤ x ∧ x < m.mod ^ i) ∧ x % m.mod ^ n = r ∧ ffal m x i = i ∧ f = fAt m i x) ∧
  (∀ x, x ∈ (visA m d n r).2 ↔ (0 ≤ x ∧ x < m.mod ^ (n + d)) ∧ x % m.mod ^ n = r ∧ ffal m x (n + d) = 0) := by
 intro d
 induction d with
 | zero =>
  intro n r h0 h1 hff
  by_cases hf : fallN m r n
  ·rw [vis_fall hf]
   obtain ⟨j, rfl⟩ : ∃ j, n = j + 1 := ⟨n - 1, by have := hf.1; omega⟩
   have hh := ffal_hit (hff j rfl) hf.2 (Nat.le_refl _)
   refine ⟨fun f => ?_, fun x => ?_⟩
   ·constructor
    ·intro h
     rw [List.mem_singleton] at h
     exact ⟨j + 1, r, ⟨by omega, by omega, by omega⟩, ⟨h0, h1⟩, Int.emod_eq_of_lt h0 h1, hh, h⟩
    ·rintro ⟨i, x, ⟨a1, a2, a3⟩, ⟨x0, x1⟩, hr, hi, rfl⟩
     obtain rfl : i = j + 1 := by omega
     rw [at_n x0 x1 hr, List.mem_singleton]; rfl
   ·constructor
    ·intro h; simp at h
    ·rintro ⟨⟨x0, x1⟩, hr, hi⟩
     rw [at_n x0 x1 hr, Nat.add_zero, hh] at hi
     omega
  ·rw [vis_left hf rfl]
   have hz := ffal_n hff hf
   refine ⟨fun f => ?_, fun x => ?_⟩
   ·constructor
    ·intro h; simp at h
    ·rintro ⟨i, x, ⟨a1, a2, a3⟩, ⟨x0, x1⟩, hr, hi, rfl⟩
     obtain rfl : i = n := by omega
     rw [at_n x0 x1 hr, hz] at hi
     omega
   ·rw [List.mem_singleton]
    constructor
    ·rintro rfl; exact ⟨⟨h0, h1⟩, Int.emod_eq_of_lt h0 h1, hz⟩
    ·rintro ⟨⟨x0, x1⟩, hr, hi⟩; exact at_n x0 x1 hr
 | succ d ih =>
  intro n r h0 h1 hff
  have h2 := hm.1
  have hp : 0 < m.mod ^ n := Int.pow_pos (by omega)
  by_cases hf : fallN m r n
  ·rw [vis_fall hf]
   obtain ⟨j, rfl⟩ : ∃ j, n = j + 1 := ⟨n - 1, by have := hf.1; omega⟩
   have hh := ffal_hit (hff j rfl) hf.2 (Nat.le_refl _)
   have same : ∀ x : Int, x % m.mod ^ (j + 1) = r → fallsW m (wordZ m x (j + 1)) := fun x hx => by
    rw [← word_mod hm x (Nat.le_refl (j + 1)), hx]; exact hf.2
   refine ⟨fun f => ?_, fun x => ?_⟩
   ·constructor
    ·intro h
     rw [List.mem_singleton] at h
     exact ⟨j + 1, r, ⟨by omega, by omega, by omega⟩, ⟨h0, h1⟩, Int.emod_eq_of_lt h0 h1, hh, h⟩
    ·rintro ⟨i, x, ⟨a1, a2, a3⟩, ⟨x0, x1⟩, hr, hi, rfl⟩
     have hy := ffal_yes (m := m) (z := x) (k := i) (by omega)
     have : ¬ j + 1 < i := fun e => hy.2 (j + 1) (by omega) (by omega) (same x hr)
     obtain rfl : i = j + 1 := by omega
     rw [at_n x0 x1 hr, List.mem_singleton]; rfl
   ·constructor
    ·intro h; simp at h
    ·rintro ⟨⟨x0, x1⟩, hr, hi⟩
     exact absurd (same x hr) (ffal_zero hi (j + 1) (by omega) (by omega))
  ·rw [vis_more hf rfl]
   have hz := ffal_n hff hf
   unfold visU
   have hq : ∀ t : Nat, t < m.mod.toNat → (0 ≤ r + ((t : Nat) : Int) * m.mod ^ n ∧ r + ((t : Nat) : Int) * m.mod ^ n < m.mod ^ (n + 1)) ∧ (r + ((t : Nat) : Int) * m.mod ^ n) % m.mod ^ n = r ∧ ∀ j, j + 1 = n + 1 → ffal m (r + ((t : Nat) : Int) * m.mod ^ n) j = 0 := fun t ht => by
    have e : (r + ((t : Nat) : Int) * m.mod ^ n) % m.mod ^ n = r := by rw [Int.add_mul_emod_self_right, Int.emod_eq_of_lt h0 h1]
    refine ⟨vis_rest hm h0 h1 ht, e, fun j hj => ?_⟩
    obtain rfl : j = n := by omega
    rw [← ffal_mod hm, e]; exact hz
   have key : ∀ x : Int, ∃ t : Nat, t < m.mod.toNat ∧ x % m.mod ^ (n + 1) = x % m.mod ^ n + ((t : Nat) : Int) * m.mod ^ n := fun x => digit h2 x n
   refine ⟨fun f => ?_, fun x => ?_⟩
   ·rw [visT_mem1]
    constructor
    ·rintro ⟨t, ht, hft⟩
     obtain ⟨⟨q0, q1⟩, q2, q3⟩ := hq t ht
     obtain ⟨i, x, ⟨a1, a2, a3⟩, hx, hr, hi, he⟩ := ((ih (n + 1) _ q0 q1 q3).1 f).1 hft
     refine ⟨i, x, ⟨by omega, by omega, a3⟩, hx, ?_, hi, he⟩
     rw [← mod_mod x (show n ≤ n + 1 by omega), hr, q2]
    ·rintro ⟨i, x, ⟨a1, a2, a3⟩, ⟨x0, x1⟩, hr, hi, he⟩
     have hin : ¬ i = n := fun e => by
      subst e
      rw [at_n x0 x1 hr, hz] at hi
      omega
     obtain ⟨t, ht, ex⟩ := key x
     obtain ⟨⟨q0, q1⟩, q2, q3⟩ := hq t ht
     refine ⟨t, ht, ((ih (n + 1) _ q0 q1 q3).1 f).2 ⟨i, x, ⟨by omega, by omega, a3⟩, ⟨x0, x1⟩, by rw [ex, hr], hi, he⟩⟩
   ·rw [visT_mem2]
    constructor
    ·rintro ⟨t, ht, hft⟩
     obtain ⟨⟨q0, q1⟩, q2, q3⟩ := hq t ht
     obtain ⟨hx, hr, hi⟩ := ((ih (n + 1) _ q0 q1 q3).2 x).1 hft
     rw [show n + 1 + d = n + (d + 1) by omega] at hx hi
     refine ⟨hx, ?_, hi⟩
     rw [← mod_mod x (show n ≤ n + 1 by omega), hr, q2]
    ·rintro ⟨hx, hr, hi⟩
     obtain ⟨t, ht, ex⟩ := key x
     obtain ⟨⟨q0, q1⟩, q2, q3⟩ := hq t ht
     refine ⟨t, ht, ((ih (n + 1) _ q0 q1 q3).2 x).2 ?_⟩
     rw [show n + 1 + d = n + (d + 1) by omega]
     exact ⟨hx, by rw [ex, hr], hi⟩
theorem visT_pw1 {g : Nat → List Fal × List Int} {Q : Fal → Fal → Prop} : ∀ {T : Nat}, (∀ t, t < T → (g t).1.Pairwise Q) → (∀ s t, s < t → t < T → ∀ a ∈ (g s).1, ∀ b ∈ (g t).1, Q a b) → (visT g T).1.Pairwise Q
 | 0, _, _ => List.Pairwise.nil
 | T + 1, h1, h2 => by
  rw [visT]
  refine List.pairwise_append.2 ⟨visT_pw1 (fun t ht => h1 t (by omega)) (fun s t hs ht => h2 s t hs (by omega)), h1 T (by omega), fun a ha b hb => ?_⟩
  obtain ⟨s, hs, ha⟩ := visT_mem1.1 ha
  exact h2 s T hs (by omega) a ha b hb
theorem visT_pw2 {g : Nat → List Fal × List Int} {Q : Int → Int → Prop} : ∀ {T : Nat}, (∀ t, t < T → (g t).2.Pairwise Q) → (∀ s t, s < t → t < T → ∀ a ∈ (g s).2, ∀ b ∈ (g t).2, Q a b) → (visT g T).2.Pairwise Q
 | 0, _, _ => List.Pairwise.nil
 | T + 1, h1, h2 => by
  rw [visT]
  refine List.pairwise_append.2 ⟨visT_pw2 (fun t ht => h1 t (by omega)) (fun s t hs ht => h2 s t hs (by omega)), h1 T (by omega), fun a ha b hb => ?_⟩
  obtain ⟨s, hs, ha⟩ := visT_mem2.1 ha
  exact h2 s T hs (by omega) a ha b hb
theorem rt_ne {m : MapM} (hm : OkM m) {r : Int} {n s t : Nat} (h : s < t) : r + ((s : Nat) : Int) * m.mod ^ n ≠ r + ((t : Nat) : Int) * m.mod ^ n := fun e => by
 have hp : 0 < m.mod ^ n := Int.pow_pos (by have := hm.1; omega)
 have : ((s : Nat) : Int) = ((t : Nat) : Int) := Int.eq_of_mul_eq_mul_right (by omega) (show ((s : Nat) : Int) * m.mod ^ n = ((t : Nat) : Int) * m.mod ^ n by omega)
 omega
theorem vis_pw {m : MapM} (hm : OkM m) : ∀ (d n : Nat) (r : Int), 0 ≤ r → r < m.mod ^ n → (∀ j, j + 1 = n → ffal m r j = 0) →
  (visA m d n r).1.Pairwise (fun a b => a.rest ≠ b.rest) ∧ (visA m d n r).2.Pairwise (fun a b => a ≠ b) := by
 intro d
 induction d with
 | zero =>
  intro n r h0 h1 hff
  by_cases hf : fallN m r n
  ·rw [vis_fall hf]; exact ⟨by simp, by simp⟩
  ·rw [vis_left hf rfl]; exact ⟨by simp, by simp⟩
 | succ d ih =>
  intro n r h0 h1 hff
  by_cases hf : fallN m r n
  ·rw [vis_fall hf]; exact ⟨by simp, by simp⟩
  ·rw [vis_more hf rfl]
   have hz := ffal_n hff hf
   unfold visU
   have hq : ∀ t : Nat, t < m.mod.toNat → (0 ≤ r + ((t : Nat) : Int) * m.mod ^ n ∧ r + ((t : Nat) : Int) * m.mod ^ n < m.mod ^ (n + 1)) ∧ ∀ j, j + 1 = n + 1 → ffal m (r + ((t : Nat) : Int) * m.mod ^ n) j = 0 := fun t ht => by
    have e : (r + ((t : Nat) : Int) * m.mod ^ n) % m.mod ^ n = r := by rw [Int.add_mul_emod_self_right, Int.emod_eq_of_lt h0 h1]
    refine ⟨vis_rest hm h0 h1 ht, fun j hj => ?_⟩
    obtain rfl : j = n := by omega
    rw [← ffal_mod hm, e]; exact hz
   constructor
   ·refine visT_pw1 (fun t ht => (ih _ _ (hq t ht).1.1 (hq t ht).1.2 (hq t ht).2).1) fun s t hs ht a ha b hb e => ?_
    obtain ⟨i, x, -, -, hx, -, rfl⟩ := ((vis_mem hm d _ _ (hq s (by omega)).1.1 (hq s (by omega)).1.2 (hq s (by omega)).2).1 a).1 ha
    obtain ⟨j, y, -, -, hy, -, rfl⟩ := ((vis_mem hm d _ _ (hq t ht).1.1 (hq t ht).1.2 (hq t ht).2).1 b).1 hb
    have e : x = y := e
    rw [e, hy] at hx
    exact rt_ne hm hs hx.symm
   ·refine visT_pw2 (fun t ht => (ih _ _ (hq t ht).1.1 (hq t ht).1.2 (hq t ht).2).2) fun s t hs ht a ha b hb e => ?_
    have hx := ((vis_mem hm d _ _ (hq s (by omega)).1.1 (hq s (by omega)).1.2 (hq s (by omega)).2).2 a).1 ha
    have hy := ((vis_mem hm d _ _ (hq t ht).1.1 (hq t ht).1.2 (hq t ht).2).2 b).1 hb
    rw [e] at hx
    exact rt_ne hm hs (hx.2.1.symm.trans hy.2.1)
theorem insS_perm {α : Type} (key : α → Int) (x : α) : ∀ l : List α, (insS key x l).Perm (x :: l)
 | [] => List.Perm.refl _
 | y :: r => by
  rw [insS]
  split
  ·exact ((insS_perm key x r).cons y).trans (List.Perm.swap x y r)
  ·exact List.Perm.refl _
theorem srt_perm {α : Type} (key : α → Int) : ∀ l : List α, (srt key l).Perm l
 | [] => List.Perm.refl _
 | x :: r => (insS_perm key x _).trans ((srt_perm key r).cons x)
def lexF (a b : Fal) : Prop := a.steps < b.steps ∨ a.steps = b.steps ∧ a.rest < b.rest
theorem sieF_strict {m : MapM} (hm : OkM m) (k : Nat) : (sieF m k).Pairwise lexF := by
 have h := (vis_pw hm k 0 0 (Int.le_refl _) (by rw [Int.pow_zero]; decide) (fun j hj => by omega)).1
 have h1 : (sieF m k).Pairwise (fun a b => a.rest ≠ b.rest) := (((srt_perm _ _).trans (srt_perm _ _)).pairwise_iff (fun e => Ne.symm e)).2 h
 have h2 : (sieF m k).Pairwise (fun a b => a.steps < b.steps ∨ a.steps = b.steps ∧ a.rest ≤ b.rest) := srt_lex srt_srt
 refine (h1.and h2).imp fun {a b} h => ?_
 obtain ⟨q, e | ⟨e, e2⟩⟩ := h
 ·exact .inl e
 ·exact .inr ⟨e, by omega⟩
theorem sieL_strict {m : MapM} (hm : OkM m) (k : Nat) : (sieL m k).Pairwise (fun a b => a < b) := by
 have h := (vis_pw hm k 0 0 (Int.le_refl _) (by rw [Int.pow_zero]; decide) (fun j hj => by omega)).2
 have h1 : (sieL m k).Pairwise (fun a b => a ≠ b) := ((srt_perm _ _).pairwise_iff (fun e => Ne.symm e)).2 h
 have h2 : (sieL m k).Pairwise (fun a b => a ≤ b) := srt_srt (key := fun x : Int => x)
 exact (h1.and h2).imp fun {a b} h => by omega
theorem sieF_mem {m : MapM} (hm : OkM m) (k : Nat) (f : Fal) : f ∈ sieF m k ↔ ∃ (i : Nat) (x : Int), (1 ≤ i ∧ i ≤ k) ∧ (0 ≤ x ∧ x < m.mod ^ i) ∧ ffal m x i = i ∧ f = fAt m i x := by
 unfold sieF
 rw [srt_mem, srt_mem, (vis_mem hm k 0 0 (Int.le_refl _) (by rw [Int.pow_zero]; decide) (fun j hj => by omega)).1]
 constructor
 ·rintro ⟨i, x, ⟨a1, a2, a3⟩, hx, -, hi, he⟩; exact ⟨i, x, ⟨a3, by omega⟩, hx, hi, he⟩
 ·rintro ⟨i, x, ⟨a1, a2⟩, hx, hi, he⟩; exact ⟨i, x, ⟨by omega, by omega, a1⟩, hx, by rw [Int.pow_zero, Int.emod_one], hi, he⟩
theorem sieL_mem {m : MapM} (hm : OkM m) (k : Nat) (x : Int) : x ∈ sieL m k ↔ (0 ≤ x ∧ x < m.mod ^ k) ∧ ffal m x k = 0 := by
 unfold sieL
 rw [srt_mem, (vis_mem hm k 0 0 (Int.le_refl _) (by rw [Int.pow_zero]; decide) (fun j hj => by omega)).2, Nat.zero_add]
 constructor
 ·rintro ⟨hx, -, hi⟩; exact ⟨hx, hi⟩
 ·rintro ⟨hx, hi⟩; exact ⟨hx, by rw [Int.pow_zero, Int.emod_one], hi⟩
end Go.Mth

namespace Go.Mth
open Go Go.Ab
theorem hit_iff {m : MapM} (hm : OkM m) {z : Int} {k : Nat} {f : Fal} (h : f ∈ sieF m k) : z % m.mod ^ f.steps.toNat = f.rest ↔ fndB m z k ∧ f = fndF m z k := by
 obtain ⟨i, x, ⟨i1, i2⟩, ⟨x0, x1⟩, hi, rfl⟩ := (sieF_mem hm k f).1 h
 show z % m.mod ^ ((i : Nat) : Int).toNat = x ↔ _
 rw [Int.toNat_natCast]
 constructor
 ·intro e
  have h1 : ffal m z i = i := by rw [← ffal_mod hm, e]; exact hi
  have h2 : ffal m z k = i := (ffal_keep (by omega) i2).trans h1
  refine ⟨by unfold fndB; omega, ?_⟩
  unfold fndF fAt
  rw [if_neg (by omega), h2, e, ← word_mod hm z (Nat.le_refl i), e]
 ·rintro ⟨hb, e⟩
  have hb' : ffal m z k ≠ 0 := hb
  have e2 : fndF m z k = falO (ffal m z k : Nat) (z % m.mod ^ ffal m z k) (lineZ m (wordZ m z (ffal m z k))) := if_neg hb'
  rw [e2] at e
  have e3 : ((i : Nat) : Int) = ((ffal m z k : Nat) : Int) := congrArg Fal.steps e
  have e4 : x = z % m.mod ^ ffal m z k := congrArg Fal.rest e
  rw [show i = ffal m z k by omega, e4]
theorem fnd_mem {m : MapM} (hm : OkM m) {z : Int} {k : Nat} (hb : fndB m z k) : fndF m z k ∈ sieF m k := by
 have hb' : ffal m z k ≠ 0 := hb
 have hp : 0 < m.mod ^ ffal m z k := Int.pow_pos (by have := hm.1; omega)
 have hle := ffal_le m z k
 refine (sieF_mem hm k _).2 ⟨ffal m z k, z % m.mod ^ ffal m z k, ⟨by omega, hle⟩, ⟨Int.emod_nonneg _ (by omega), Int.emod_lt_of_pos _ hp⟩, ?_, ?_⟩
 ·rw [ffal_mod hm]
  have hy := ffal_yes hb'
  obtain ⟨j, hj⟩ : ∃ j, ffal m z k = j + 1 := ⟨ffal m z k - 1, by omega⟩
  rw [hj] at hy ⊢
  have h0 : ffal m z j = 0 := by
   refine Decidable.byContradiction fun e => ?_
   have := ffal_keep e (show j ≤ k by omega)
   have := ffal_le m z j
   omega
  exact ffal_hit h0 hy.1 (Nat.le_refl _)
 ·have e2 : fndF m z k = falO (ffal m z k : Nat) (z % m.mod ^ ffal m z k) (lineZ m (wordZ m z (ffal m z k))) := if_neg hb'
  rw [e2]; unfold fAt; rw [word_mod hm z (Nat.le_refl _)]
noncomputable def cntF (m : MapM) (z : Int) (k i : Nat) : Nat := by classical exact if fndB m z k ∧ fndF m z k ∈ (sieF m k).take i then 1 else 0
noncomputable def cntL (m : MapM) (z : Int) (k i : Nat) : Nat := by classical exact if z % m.mod ^ k ∈ (sieL m k).take i then 1 else 0
theorem pw_take {α : Type} {R : α → α → Prop} (hi : ∀ a, ¬ R a a) {l : List α} (h : l.Pairwise R) {i : Nat} (hl : i < l.length) : l[i] ∉ l.take i := fun hm => by
 obtain ⟨j, hj, e⟩ := List.getElem_of_mem hm
 rw [List.length_take] at hj
 rw [List.getElem_take] at e
 have := List.pairwise_iff_getElem.1 h j i (by omega) hl (by omega)
 rw [e] at this
 exact hi _ this
theorem getD_get {α : Type} {l : List α} {i : Nat} {d : α} (h : i < l.length) : l.getD i d = l[i] := by rw [List.getD_eq_getElem?_getD, List.getElem?_eq_getElem h]; rfl
theorem cntF_y {m : MapM} (hm : OkM m) {z : Int} {k i : Nat} (hi : i < (sieF m k).length) (h : z % m.mod ^ ((sieF m k).getD i default).steps.toNat = ((sieF m k).getD i default).rest) : cntF m z k i = 0 ∧ cntF m z k (i + 1) = 1 ∧ fndB m z k ∧ (sieF m k).getD i default = fndF m z k := by
 rw [getD_get hi] at h ⊢
 have q := (hit_iff hm (List.getElem_mem hi)).1 h
 have n := pw_take (R := lexF) (fun a h => by rcases h with h | ⟨h, h2⟩ <;> omega) (sieF_strict hm k) hi
 refine ⟨?_, ?_, q.1, q.2⟩
 ·unfold cntF; rw [if_neg]; rintro ⟨-, e⟩; rw [← q.2] at e; exact n e
 ·unfold cntF; rw [if_pos]; refine ⟨q.1, ?_⟩; rw [← q.2, List.take_succ_eq_append_getElem hi]; exact List.mem_append_right _ (List.mem_singleton.2 rfl)
theorem cntF_n {m : MapM} (hm : OkM m) {z : Int} {k i : Nat} (hi : i < (sieF m k).length) (h : ¬ z % m.mod ^ ((sieF m k).getD i default).steps.toNat = ((sieF m k).getD i default).rest) : cntF m z k (i + 1) = cntF m z k i := by
 rw [getD_get hi] at h
 have q := (not_congr (hit_iff hm (List.getElem_mem hi))).1 h
 unfold cntF
 rw [List.take_succ_eq_append_getElem hi]
 have e : (fndB m z k ∧ fndF m z k ∈ (sieF m k).take i ++ [(sieF m k)[i]]) ↔ (fndB m z k ∧ fndF m z k ∈ (sieF m k).take i) := by
  rw [List.mem_append, List.mem_singleton]
  constructor
  ·rintro ⟨a, b | b⟩
   ·exact ⟨a, b⟩
   ·exact absurd ⟨a, b.symm⟩ q
  ·rintro ⟨a, b⟩; exact ⟨a, .inl b⟩
 simp only [e]
theorem cntL_y {m : MapM} (hm : OkM m) {z : Int} {k i : Nat} (hi : i < (sieL m k).length) (h : (sieL m k).getD i 0 = z % m.mod ^ k) : cntL m z k (i + 1) = cntL m z k i + 1 := by
 rw [getD_get hi] at h
 have n := pw_take (R := fun a b : Int => a < b) (fun a h => by omega) (sieL_strict hm k) hi
 unfold cntL
 rw [if_pos (by rw [List.take_succ_eq_append_getElem hi, ← h]; exact List.mem_append_right _ (List.mem_singleton.2 rfl)), if_neg (by rw [← h]; exact n)]
theorem cntL_n {m : MapM} {z : Int} {k i : Nat} (hi : i < (sieL m k).length) (h : ¬ (sieL m k).getD i 0 = z % m.mod ^ k) : cntL m z k (i + 1) = cntL m z k i := by
 rw [getD_get hi] at h
 unfold cntL
 rw [List.take_succ_eq_append_getElem hi]
 have e : (z % m.mod ^ k ∈ (sieL m k).take i ++ [(sieL m k)[i]]) ↔ (z % m.mod ^ k ∈ (sieL m k).take i) := by
  rw [List.mem_append, List.mem_singleton]
  exact ⟨fun e => e.resolve_right (fun e => h e.symm), .inl⟩
 simp only [e]
theorem cnt_end {m : MapM} (hm : OkM m) {z : Int} {k : Nat} : cntF m z k (sieF m k).length + cntL m z k (sieL m k).length = 1 ∧ (cntF m z k (sieF m k).length = 1 ↔ fndB m z k) := by
 have hp : 0 < m.mod ^ k := Int.pow_pos (by have := hm.1; omega)
 have hL : z % m.mod ^ k ∈ sieL m k ↔ ¬ fndB m z k := by
  rw [sieL_mem hm, ffal_mod hm]
  exact ⟨fun e h => h e.2, fun e => ⟨⟨Int.emod_nonneg _ (by omega), Int.emod_lt_of_pos _ hp⟩, Decidable.not_not.1 e⟩⟩
 unfold cntF cntL
 rw [List.take_length, List.take_length]
 by_cases hb : fndB m z k
 ·rw [if_pos ⟨hb, fnd_mem hm hb⟩, if_neg (by rw [hL]; exact fun h => h hb)]
  exact ⟨rfl, fun _ => hb, fun _ => rfl⟩
 ·rw [if_neg (fun e => hb e.1), if_pos (hL.2 hb)]
  exact ⟨rfl, fun h => by omega, fun h => absurd h hb⟩
theorem cnt_0 {m : MapM} {z : Int} {k : Nat} : cntF m z k 0 = 0 ∧ cntL m z k 0 = 0 := by
 unfold cntF cntL; simp
theorem sieF_at {m : MapM} (hm : OkM m) {k i : Nat} (hi : i < (sieF m k).length) : ∃ s : Nat, ((sieF m k).getD i default).steps = s ∧ 1 ≤ s ∧ s ≤ k := by
 rw [getD_get hi]
 obtain ⟨s, x, ⟨h1, h2⟩, -, -, e⟩ := (sieF_mem hm k _).1 (List.getElem_mem hi)
 rw [e]; exact ⟨s, rfl, h1, h2⟩
theorem sieF_lt {m : MapM} (hm : OkM m) {k i : Nat} (hi : i < (sieF m k).length) (h0 : 0 < i) : ((sieF m k).getD (i - 1) default).steps < ((sieF m k).getD i default).steps ∨ ((sieF m k).getD (i - 1) default).steps = ((sieF m k).getD i default).steps ∧ ((sieF m k).getD (i - 1) default).rest < ((sieF m k).getD i default).rest := by
 rw [getD_get hi, getD_get (show i - 1 < _ by omega)]
 exact List.pairwise_iff_getElem.1 (sieF_strict hm k) (i - 1) i (by omega) hi (by omega)
theorem sieL_lt {m : MapM} (hm : OkM m) {k i : Nat} (hi : i < (sieL m k).length) (h0 : 0 < i) : (sieL m k).getD (i - 1) 0 < (sieL m k).getD i 0 := by
 rw [getD_get hi, getD_get (show i - 1 < _ by omega)]
 exact List.pairwise_iff_getElem.1 (sieL_strict hm k) (i - 1) i (by omega) hi (by omega)
theorem cnt_le {m : MapM} {z : Int} {k i : Nat} : cntF m z k i ≤ 1 ∧ cntL m z k i ≤ 1 := by
 unfold cntF cntL
 exact ⟨by split <;> omega, by split <;> omega⟩
end Go.Mth

namespace Go.Proofs.YtjbaamfahkjhgaaGreatDoor
open Go Go.Ab Go.Mth
theorem f147_ : callable cx.P 14 = true := by kernel_rfl
theorem f148_ : callable cx.P 18 = true := by kernel_rfl
theorem f149_ : callable cx.P 20 = true := by kernel_rfl
theorem f150_ : callable cx.P 21 = true := by kernel_rfl
theorem f151_ : callable cx.P 13 = true := by kernel_rfl
theorem c_SieveAll_y (m : MapM) (n : ByteArray) (K : Nat) (hM : OkM m) (hmy : mayS m (K : Int)) (ho : okS n = true) (hn : n.size ≤ 9223372036854775807) (h1m : m.mul.length ≤ 17592186044416) (h2m : m.add.length ≤ 17592186044416) : ECalls cx 5 [mapV m, Sv n, Nv K] (.lit (.bool true)) := by
 refine ecalls_of_awp Tryz.func5 (c := _) rfl (Nat.le_of_ble_eq_true rfl) ?_
 show awp cx 211 _ (postF cx Tryz.f5 _) ⟨[(0, mapV m), (1, Sv n), (2, Nv K)], []⟩
 have hM' := okM_iff.2 hM
 have hkp : m.mod ^ K ≤ 65536 := hmy.2.2
 have hk16 : K ≤ 16 := may_16 hM hkp
 have hVl := vis_len hM K 0 0
 have hpd : m.mod.toNat ^ K ≤ 65536 := toNat_pow hM hkp
 have hFl : (sieF m K).length ≤ 65536 := by unfold sieF; rw [srt_len, srt_len]; omega
 have hLl : (sieL m K).length ≤ 65536 := by unfold sieL; rw [srt_len]; omega
 have hd := fd_0 (m := m) (a := n) (k := (K : Int)) ⟨hM', ho⟩ hmy
 rw [Int.toNat_natCast] at hd
 have hnl := len_numS (okS_iff.1 ho)
 have hM2 := hM
 obtain ⟨o1, o2, o3, o4, o5⟩ := hM2
 have hce := cnt_end hM (z := (numS n)) (k := K)
 refine awp_seq fun K0 hK0 => awp_region rfl ?_
 refine o_box 2 [Iv m.mod, Lv m.mul, Lv m.add] Gd.none rfl rfl ?_
 refine o_as Fv rfl ?_
 refine aops_end (hK0 _ (awp_seq fun K1 hK1 => awp_seq fun K2 hK2 => awp_region rfl ?_))
 refine o_loadA [Iv m.mod, Lv m.mul, Lv m.add] Gd.none f66_ rfl rfl rfl rfl rfl ?_
 refine o_mv (Nv K) rfl ?_
 refine o_ct (c_may m ((K : Nat) : Int) (by omega)) Gd.none f147_ rfl ?_
 refine n_as (v' := Tv) (by exact bpy ⟨hM', hmy⟩) ?_
 refine o_not (b := true) Gd.none rfl ?_
 refine o_mv Fv rfl ?_
 refine o_move (Sv n) (Gd.yes rfl rfl rfl) rfl ?_
 refine o_ct (c_rValid n (by assumption)) (Gd.yes rfl rfl rfl) f148_ rfl ?_
 refine n_as (v' := Tv) (by exact congrArg (fun b => AV.lit (.bool b)) ho) ?_
 refine o_not (b := true) (Gd.yes rfl rfl rfl) rfl ?_
 refine o_pickF Fv Gd.none rfl rfl rfl ?_
 refine aops_end (hK2 _ ?_)
 refine awp_condB (b := false) rfl (fun hh => absurd (hh.symm.trans rfl) (by decide)) (fun _ => ?_)
 refine awp_skip (hK1 _ (awp_seq fun K3 hK3 => awp_region rfl ?_))
 refine o_loadA [Iv m.mod, Lv m.mul, Lv m.add] Gd.none f66_ rfl rfl rfl rfl rfl ?_
 refine o_mv (Nv K) rfl ?_
 refine o_ct (c_sSieveL m K hM hmy) Gd.none f142_ rfl ?_
 refine o_mv (.tup [.sl 6 (gcells cL (sieF m K)), Lv (sieL m K), Nv 0]) rfl ?_
 refine o_extract (.sl 6 (gcells cL (sieF m K))) Gd.none rfl rfl ?_
 refine o_extract (Lv (sieL m K)) Gd.none rfl rfl ?_
 refine o_extract (Nv 0) Gd.none rfl rfl ?_
 refine o_as (.sl 6 (gcells cL (sieF m K))) rfl ?_
 refine o_as (Lv (sieL m K)) rfl ?_
 refine o_as (Nv 0) rfl ?_
 refine aops_end (hK3 _ (awp_seq fun K4 hK4 => awp_region rfl ?_))
 refine o_loadA [Iv m.mod, Lv m.mul, Lv m.add] Gd.none f66_ rfl rfl rfl rfl rfl ?_
 refine o_mv (Sv n) rfl (o_mv (Nv K) rfl ?_)
 refine o_ct (c_sFind m n ((K : Nat) : Int) (by assumption) (by omega)) Gd.none f143_ rfl ?_
 refine o_mv (.tup [(falV (fdF m n ((K : Nat) : Int))), (bp (fdB m n ((K : Nat) : Int))), (Nv (fdE m n ((K : Nat) : Int)))]) rfl ?_
 refine o_extract (falV (fdF m n ((K : Nat) : Int))) Gd.none rfl rfl ?_
 refine o_extract (bp (fdB m n ((K : Nat) : Int))) Gd.none rfl rfl ?_
 refine n_as (v' := (bp (fndB m (numS n) K))) (by exact bpc hd.2.2) ?_
 refine o_extract (Nv (fdE m n ((K : Nat) : Int))) Gd.none rfl rfl ?_
 refine n_as (v' := (Nv 0)) (by exact congrArg (nm _) hd.1) ?_
 refine o_alloc 3 [Nv 0, Nv 0, Sv Ev, Sv Ev, Sv Ev, Sv Ev] Gd.none f87_ rfl rfl rfl ?_
 refine o_store [(3, (.var 40 [(Iv ((fdF m n ((K : Nat) : Int)).steps)), (Iv ((fdF m n ((K : Nat) : Int)).rest)), (Sv ((fdF m n ((K : Nat) : Int)).lmul)), (Sv ((fdF m n ((K : Nat) : Int)).ladd)), (Sv ((fdF m n ((K : Nat) : Int)).ldiv)), (Sv ((fdF m n ((K : Nat) : Int)).bound))])), (2, oM 24 m)] Gd.none f91_ rfl rfl rfl rfl rfl rfl ?_
 refine o_as (bp (fndB m (numS n) K)) rfl ?_
 refine o_as (Nv 0) rfl ?_
 refine aops_end (hK4 _ (awp_seq fun K5 hK5 => awp_seq fun K6 hK6 => awp_region rfl (o_mv (Nv 0) rfl ?_)))
 refine n_neq 0 0 Gd.none rfl rfl ?_
 refine n_as (v' := Fv) (by exact bpn (fun h => h rfl)) ?_
 refine o_mv Fv rfl ?_
 refine o_move (Nv 0) (Gd.yes rfl rfl rfl) rfl ?_
 refine n_neq 0 0 (Gd.yes rfl rfl rfl) rfl rfl ?_
 refine n_as (v' := Fv) (by exact bpn (fun h => h rfl)) ?_
 refine o_pickF Fv Gd.none rfl rfl rfl ?_
 refine aops_end (hK6 _ ?_)
 refine awp_condB (b := false) rfl (fun hh => absurd (hh.symm.trans rfl) (by decide)) (fun _ => ?_)
 refine awp_skip (hK5 _ (awp_seq fun K7 hK7 => awp_region rfl (o_mv (Sv n) rfl ?_)))
 refine o_ct (c_rParse n (by exact okS_iff.1 (by assumption))) Gd.none f149_ rfl ?_
 refine o_alloc 4 [Fv, Zv] Gd.none f9_ rfl rfl rfl ?_
 refine o_store [(4, oZ 47 .i64 (numS n)), (3, (.var 40 [(Iv ((fdF m n ((K : Nat) : Int)).steps)), (Iv ((fdF m n ((K : Nat) : Int)).rest)), (Sv ((fdF m n ((K : Nat) : Int)).lmul)), (Sv ((fdF m n ((K : Nat) : Int)).ladd)), (Sv ((fdF m n ((K : Nat) : Int)).ldiv)), (Sv ((fdF m n ((K : Nat) : Int)).bound))])), (2, oM 24 m)] Gd.none f13_ rfl rfl rfl rfl rfl rfl ?_
 refine aops_end (hK7 _ (awp_seq fun K8 hK8 => awp_region rfl ?_))
 refine o_as (Nv 0) rfl ?_
 refine n_as (v' := (Nv (cntF m (numS n) K 0))) (by exact congrArg (nm _) cnt_0.1.symm) ?_
 refine o_as (Nv 1) rfl ?_
 refine n_as (v' := (Iv (m.mod ^ 0))) (by exact congrArg (fun z => AV.lit (.int .i64 z)) (Int.pow_zero _).symm) ?_
 refine o_as (Nv 0) rfl ?_
 refine aops_end (hK8 _ (awp_seq fun K9 hK9 => awp_seq fun K10 hK10 => awp_region rfl ?_))
 refine o_as (Nv 0) rfl ?_
 refine aops_end (hK10 _ ?_)
 refine awp_block ?_
 refine awp_loopR (fun κ σ => ∃ (i : Nat), ∃ (t : Nat), (i ≤ (sieF m K).length) ∧ ((i = 0 ∧ t = 0) ∨ (0 < i ∧ ((t : Nat) : Int) = ((sieF m K).getD (i - 1) default).steps)) ∧ ((sieF m K).length - i) = κ ∧ σ = ⟨[(1, Sv n), (2, Nv K), (3, .ref 2 0), (7, .sl 6 (gcells cL (sieF m K))), (8, Lv (sieL m K)), (10, .ref 3 0), (11, bp (fndB m (numS n) K)), (13, .ref 4 0), (14, Nv (cntF m (numS n) K i)), (15, Iv (m.mod ^ t)), (16, Nv t), (17, Nv i)], [(2, oM 24 m), (3, (.var 40 [(Iv ((fdF m n (K : Int)).steps)), (Iv ((fdF m n (K : Int)).rest)), (Sv ((fdF m n (K : Int)).lmul)), (Sv ((fdF m n (K : Int)).ladd)), (Sv ((fdF m n (K : Int)).ldiv)), (Sv ((fdF m n (K : Int)).bound))])), (4, oZ 47 .i64 (numS n))]⟩) ⟨_, _, ⟨0, 0, Nat.zero_le _, .inl ⟨rfl, rfl⟩, rfl, rfl⟩, ?wk0⟩ ?rd0
 case wk0 =>
  exact Wk.sub ⟨rfl, rfl, rfl, rfl, rfl, rfl, rfl, rfl, (by rfl), (by rfl), (by rfl), (by rfl), trivial⟩ ⟨rfl, rfl, rfl, trivial⟩
 rintro κ _ ⟨i, t, hi, ht, rfl, rfl⟩
 refine awp_seq fun K11 hK11 => awp_seq fun K12 hK12 => awp_region rfl (o_mv (Nv i) rfl (o_mv (.sl 6 (gcells cL (sieF m K))) rfl ?_))
 refine g_len cL (sieF m K) cL_len Gd.none f113_ rfl ?_
 refine n_lss i ((sieF m K).length) Gd.none rfl rfl ?_
 refine aops_end (hK12 _ ?_)
 refine awp_condQ (q := i < ((sieF m K).length)) rfl (fun h1 => ?_) (fun h1 => ?_)
 ·refine awp_skip (hK11 _ (awp_seq fun K13 hK13 => ?_))
  refine awp_block ?_
  refine awp_seq fun K14 hK14 => ?_
  refine awp_seqJ (J := fun σ => True ∧ σ = ⟨[(1, Sv n), (2, Nv K), (3, .ref 2 0), (7, .sl 6 (gcells cL (sieF m K))), (8, Lv (sieL m K)), (10, .ref 3 0), (11, bp (fndB m (numS n) K)), (13, .ref 4 0), (14, Nv (cntF m (numS n) K i)), (15, Iv (m.mod ^ t)), (16, Nv t), (17, Nv i), (123, Fv)], [(2, oM 24 m), (3, (.var 40 [(Iv ((fdF m n (K : Int)).steps)), (Iv ((fdF m n (K : Int)).rest)), (Sv ((fdF m n (K : Int)).lmul)), (Sv ((fdF m n (K : Int)).ladd)), (Sv ((fdF m n (K : Int)).ldiv)), (Sv ((fdF m n (K : Int)).bound))])), (4, oZ 47 .i64 (numS n))]⟩) ?ja1 ?jb1
  case ja1 =>
   have hcle := cnt_le (m := m) (z := (numS n)) (k := K) (i := i)
   have hiF : i < (sieF m K).length := by omega
   obtain ⟨s, hse, hs1, hs2⟩ := sieF_at hM hiF
   have hlt := fun h0 => sieF_lt hM hiF h0
   have hse2 : ((sieF m K).getD i default).steps = ((s : Nat) : Int) := hse
   refine awp_regionD rfl (o_mv (.sl 6 (gcells cL (sieF m K))) rfl (o_mv (Nv i) rfl ?_))
   refine g_index cL (sieF m K) i cL_len rfl Gd.none f96_ rfl rfl (by omega) ?_
   refine g_field cL (sieF m K) i cL_len Gd.none f111_ rfl (by omega) rfl ?_
   refine g_loadS cL (sieF m K) i default (Iv (((sieF m K).getD i default).steps)) cL_len Gd.none f11_ rfl (by omega) rfl ?_
   refine n_as (v' := (Nv s)) (by exact congrArg (fun z => AV.lit (.int .i64 z)) hse) ?_
   refine n_lss s 1 Gd.none rfl rfl ?_
   refine n_as (v' := Fv) (by exact bpn (by omega)) ?_
   refine o_mv Fv rfl ?_
   refine o_move (.sl 6 (gcells cL (sieF m K))) (Gd.yes rfl rfl rfl) rfl ?_
   refine o_move (Nv i) (Gd.yes rfl rfl rfl) rfl ?_
   refine g_index cL (sieF m K) i cL_len rfl (Gd.yes rfl rfl rfl) f96_ rfl rfl (by omega) ?_
   refine g_field cL (sieF m K) i cL_len (Gd.yes rfl rfl rfl) f111_ rfl (by omega) rfl ?_
   refine g_loadS cL (sieF m K) i default (Iv (((sieF m K).getD i default).steps)) cL_len (Gd.yes rfl rfl rfl) f11_ rfl (by omega) rfl ?_
   refine n_as (v' := (Nv s)) (by exact congrArg (fun z => AV.lit (.int .i64 z)) hse) ?_
   refine o_move (Nv K) (Gd.yes rfl rfl rfl) rfl ?_
   refine n_gtr s K (Gd.yes rfl rfl rfl) rfl rfl ?_
   refine n_as (v' := Fv) (by exact bpn (by omega)) ?_
   refine o_pickF Fv Gd.none rfl rfl rfl ?_
   refine o_mv Fv rfl ?_
   refine o_move (Nv i) (Gd.yes rfl rfl rfl) rfl ?_
   refine n_gtr i 0 (Gd.yes rfl rfl rfl) rfl rfl ?_
   refine o_move (bp (0 < i)) (Gd.yes rfl rfl rfl) rfl ?_
   refine o_splitP (q := 0 < i) 81 rfl (fun h2 => ?_) (fun h2 => ?_)
   ·refine o_move (.sl 6 (gcells cL (sieF m K))) (Gd.yes rfl rfl (decide_eq_true h2)) rfl ?_
    refine o_move (Nv i) (Gd.yes rfl rfl (decide_eq_true h2)) rfl ?_
    refine g_index cL (sieF m K) i cL_len rfl (Gd.yes rfl rfl (decide_eq_true h2)) f96_ rfl rfl (by omega) ?_
    refine g_field cL (sieF m K) i cL_len (Gd.yes rfl rfl (decide_eq_true h2)) f111_ rfl (by omega) rfl ?_
    refine g_loadS cL (sieF m K) i default (Iv (((sieF m K).getD i default).steps)) cL_len (Gd.yes rfl rfl (decide_eq_true h2)) f11_ rfl (by omega) rfl ?_
    refine o_move (.sl 6 (gcells cL (sieF m K))) (Gd.yes rfl rfl (decide_eq_true h2)) rfl ?_
    refine o_move (Nv i) (Gd.yes rfl rfl (decide_eq_true h2)) rfl ?_
    refine n_sub i 1 (Gd.yes rfl rfl (decide_eq_true h2)) rfl rfl (by omega) (by simp only [topOf]; omega) ?_
    refine g_index cL (sieF m K) (i - 1) cL_len rfl (Gd.yes rfl rfl (decide_eq_true h2)) f96_ rfl rfl (by omega) ?_
    refine g_field cL (sieF m K) (i - 1) cL_len (Gd.yes rfl rfl (decide_eq_true h2)) f111_ rfl (by omega) rfl ?_
    refine g_loadS cL (sieF m K) (i - 1) default (Iv (((sieF m K).getD (i - 1) default).steps)) cL_len (Gd.yes rfl rfl (decide_eq_true h2)) f11_ rfl (by omega) rfl ?_
    refine o_lss (a := (((sieF m K).getD i default).steps)) (c := (((sieF m K).getD (i - 1) default).steps)) (Gd.yes rfl rfl (decide_eq_true h2)) rfl rfl ?_
    refine n_as (v' := Fv) (by exact bpn (by have := hlt (by omega); omega)) ?_
    refine o_move Fv (Gd.yes rfl rfl (decide_eq_true h2)) rfl ?_
    refine o_move (.sl 6 (gcells cL (sieF m K))) (Gd.yes rfl rfl rfl) rfl ?_
    refine o_move (Nv i) (Gd.yes rfl rfl rfl) rfl ?_
    refine g_index cL (sieF m K) i cL_len rfl (Gd.yes rfl rfl rfl) f96_ rfl rfl (by omega) ?_
    refine g_field cL (sieF m K) i cL_len (Gd.yes rfl rfl rfl) f111_ rfl (by omega) rfl ?_
    refine g_loadS cL (sieF m K) i default (Iv (((sieF m K).getD i default).steps)) cL_len (Gd.yes rfl rfl rfl) f11_ rfl (by omega) rfl ?_
    refine o_move (.sl 6 (gcells cL (sieF m K))) (Gd.yes rfl rfl rfl) rfl ?_
    refine o_move (Nv i) (Gd.yes rfl rfl rfl) rfl ?_
    refine n_sub i 1 (Gd.yes rfl rfl rfl) rfl rfl (by omega) (by simp only [topOf]; omega) ?_
    refine g_index cL (sieF m K) (i - 1) cL_len rfl (Gd.yes rfl rfl rfl) f96_ rfl rfl (by omega) ?_
    refine g_field cL (sieF m K) (i - 1) cL_len (Gd.yes rfl rfl rfl) f111_ rfl (by omega) rfl ?_
    refine g_loadS cL (sieF m K) (i - 1) default (Iv (((sieF m K).getD (i - 1) default).steps)) cL_len (Gd.yes rfl rfl rfl) f11_ rfl (by omega) rfl ?_
    refine o_eql (a := (((sieF m K).getD i default).steps)) (c := (((sieF m K).getD (i - 1) default).steps)) (Gd.yes rfl rfl rfl) rfl rfl ?_
    refine o_move (bp ((((sieF m K).getD i default).steps) = (((sieF m K).getD (i - 1) default).steps))) (Gd.yes rfl rfl rfl) rfl ?_
    refine o_splitP (q := (((sieF m K).getD i default).steps) = (((sieF m K).getD (i - 1) default).steps)) 107 rfl (fun h3 => ?_) (fun h3 => ?_)
    ·refine o_move (.sl 6 (gcells cL (sieF m K))) (Gd.yes rfl rfl (decide_eq_true h3)) rfl ?_
     refine o_move (Nv i) (Gd.yes rfl rfl (decide_eq_true h3)) rfl ?_
     refine g_index cL (sieF m K) i cL_len rfl (Gd.yes rfl rfl (decide_eq_true h3)) f96_ rfl rfl (by omega) ?_
     refine g_field cL (sieF m K) i cL_len (Gd.yes rfl rfl (decide_eq_true h3)) f110_ rfl (by omega) rfl ?_
     refine g_loadS cL (sieF m K) i default (Iv (((sieF m K).getD i default).rest)) cL_len (Gd.yes rfl rfl (decide_eq_true h3)) f11_ rfl (by omega) rfl ?_
     refine o_move (.sl 6 (gcells cL (sieF m K))) (Gd.yes rfl rfl (decide_eq_true h3)) rfl ?_
     refine o_move (Nv i) (Gd.yes rfl rfl (decide_eq_true h3)) rfl ?_
     refine n_sub i 1 (Gd.yes rfl rfl (decide_eq_true h3)) rfl rfl (by omega) (by simp only [topOf]; omega) ?_
     refine g_index cL (sieF m K) (i - 1) cL_len rfl (Gd.yes rfl rfl (decide_eq_true h3)) f96_ rfl rfl (by omega) ?_
     refine g_field cL (sieF m K) (i - 1) cL_len (Gd.yes rfl rfl (decide_eq_true h3)) f110_ rfl (by omega) rfl ?_
     refine g_loadS cL (sieF m K) (i - 1) default (Iv (((sieF m K).getD (i - 1) default).rest)) cL_len (Gd.yes rfl rfl (decide_eq_true h3)) f11_ rfl (by omega) rfl ?_
     refine o_leq (a := (((sieF m K).getD i default).rest)) (c := (((sieF m K).getD (i - 1) default).rest)) (Gd.yes rfl rfl (decide_eq_true h3)) rfl rfl ?_
     refine n_as (v' := Fv) (by exact bpn (by have := hlt (by omega); omega)) ?_
     refine o_pickT Fv (Gd.yes rfl rfl rfl) rfl (decide_eq_true h3) rfl ?_
     refine o_pickF Fv (Gd.yes rfl rfl (decide_eq_true h2)) rfl rfl rfl ?_
     refine o_pickT Fv (Gd.yes rfl rfl rfl) rfl (decide_eq_true h2) rfl ?_
     refine o_pickF Fv Gd.none rfl rfl rfl ?_
     refine aops_end ⟨by kernel_rfl, ?_⟩
     exact ⟨_, ⟨trivial, rfl⟩, Wk.sub ⟨rfl, rfl, rfl, rfl, rfl, rfl, rfl, rfl, rfl, rfl, rfl, rfl, rfl, trivial⟩ ⟨rfl, rfl, rfl, trivial⟩⟩
    ·refine o_skip rfl rfl (decide_eq_false h3) ?_
     refine o_skip rfl rfl (decide_eq_false h3) ?_
     refine o_skip rfl rfl (decide_eq_false h3) ?_
     refine o_skip rfl rfl (decide_eq_false h3) ?_
     refine o_skip rfl rfl (decide_eq_false h3) ?_
     refine o_skip rfl rfl (decide_eq_false h3) ?_
     refine o_skip rfl rfl (decide_eq_false h3) ?_
     refine o_skip rfl rfl (decide_eq_false h3) ?_
     refine o_skip rfl rfl (decide_eq_false h3) ?_
     refine o_skip rfl rfl (decide_eq_false h3) ?_
     refine o_skip rfl rfl (decide_eq_false h3) ?_
     refine o_skip rfl rfl (decide_eq_false h3) ?_
     refine o_pickF Fv (Gd.yes rfl rfl rfl) rfl (decide_eq_false h3) rfl ?_
     refine o_pickF Fv (Gd.yes rfl rfl (decide_eq_true h2)) rfl rfl rfl ?_
     refine o_pickT Fv (Gd.yes rfl rfl rfl) rfl (decide_eq_true h2) rfl ?_
     refine o_pickF Fv Gd.none rfl rfl rfl ?_
     refine aops_end ⟨by kernel_rfl, ?_⟩
     exact ⟨_, ⟨trivial, rfl⟩, Wk.sub ⟨rfl, rfl, rfl, rfl, rfl, rfl, rfl, rfl, rfl, rfl, rfl, rfl, rfl, trivial⟩ ⟨rfl, rfl, rfl, trivial⟩⟩
   ·refine o_skip rfl rfl (decide_eq_false h2) ?_
    refine o_skip rfl rfl (decide_eq_false h2) ?_
    refine o_skip rfl rfl (decide_eq_false h2) ?_
    refine o_skip rfl rfl (decide_eq_false h2) ?_
    refine o_skip rfl rfl (decide_eq_false h2) ?_
    refine o_skip rfl rfl (decide_eq_false h2) ?_
    refine o_skip rfl rfl (decide_eq_false h2) ?_
    refine o_skip rfl rfl (decide_eq_false h2) ?_
    refine o_skip rfl rfl (decide_eq_false h2) ?_
    refine o_skip rfl rfl (decide_eq_false h2) ?_
    refine o_skip rfl rfl (decide_eq_false h2) ?_
    refine o_skip rfl rfl (decide_eq_false h2) ?_
    refine o_skip rfl rfl (decide_eq_false h2) ?_
    refine o_skipU rfl rfl ?_
    refine o_skipU rfl rfl ?_
    refine o_skipU rfl rfl ?_
    refine o_skipU rfl rfl ?_
    refine o_skipU rfl rfl ?_
    refine o_skipU rfl rfl ?_
    refine o_skipU rfl rfl ?_
    refine o_skipU rfl rfl ?_
    refine o_skipU rfl rfl ?_
    refine o_skipU rfl rfl ?_
    refine o_skipU rfl rfl ?_
    refine o_skipU rfl rfl ?_
    refine o_skipU rfl rfl ?_
    refine o_skipU rfl rfl ?_
    refine o_skipU rfl rfl ?_
    refine o_skipU rfl rfl ?_
    refine o_skipU rfl rfl ?_
    refine o_skipU rfl rfl ?_
    refine o_skipU rfl rfl ?_
    refine o_skipU rfl rfl ?_
    refine o_skipU rfl rfl ?_
    refine o_skipU rfl rfl ?_
    refine o_skipU rfl rfl ?_
    refine o_skipU rfl rfl ?_
    refine o_skipU rfl rfl ?_
    refine o_skipU rfl rfl ?_
    refine o_skip rfl rfl (decide_eq_false h2) ?_
    refine o_pickF Fv (Gd.yes rfl rfl rfl) rfl (decide_eq_false h2) rfl ?_
    refine o_pickF Fv Gd.none rfl rfl rfl ?_
    refine aops_end ⟨by kernel_rfl, ?_⟩
    exact ⟨_, ⟨trivial, rfl⟩, Wk.sub ⟨rfl, rfl, rfl, rfl, rfl, rfl, rfl, rfl, rfl, rfl, rfl, rfl, rfl, trivial⟩ ⟨rfl, rfl, rfl, trivial⟩⟩
  rintro _ ⟨-, rfl⟩
  have hcle := cnt_le (m := m) (z := (numS n)) (k := K) (i := i)
  have hiF : i < (sieF m K).length := by omega
  obtain ⟨s, hse, hs1, hs2⟩ := sieF_at hM hiF
  have hlt := fun h0 => sieF_lt hM hiF h0
  have hse2 : ((sieF m K).getD i default).steps = ((s : Nat) : Int) := hse
  refine awp_condB (b := false) rfl (fun hh => absurd (hh.symm.trans rfl) (by decide)) (fun _ => ?_)
  refine awp_skip (hK14 _ (awp_seq fun K15 hK15 => ?_))
  refine awp_block ?_
  refine awp_loopR (fun κ σ => ∃ (u : Nat), (u ≤ s) ∧ (s - u) = κ ∧ σ = ⟨[(1, Sv n), (2, Nv K), (3, .ref 2 0), (7, .sl 6 (gcells cL (sieF m K))), (8, Lv (sieL m K)), (10, .ref 3 0), (11, bp (fndB m (numS n) K)), (13, .ref 4 0), (14, Nv (cntF m (numS n) K i)), (15, Iv (m.mod ^ u)), (16, Nv u), (17, Nv i)], [(2, oM 24 m), (3, (.var 40 [(Iv ((fdF m n (K : Int)).steps)), (Iv ((fdF m n (K : Int)).rest)), (Sv ((fdF m n (K : Int)).lmul)), (Sv ((fdF m n (K : Int)).ladd)), (Sv ((fdF m n (K : Int)).ldiv)), (Sv ((fdF m n (K : Int)).bound))])), (4, oZ 47 .i64 (numS n))]⟩) ⟨_, _, ⟨t, (by have := hlt; omega), rfl, rfl⟩, ?wk2⟩ ?rd2
  case wk2 =>
   exact Wk.sub ⟨rfl, rfl, rfl, rfl, rfl, rfl, rfl, rfl, rfl, (by rfl), (by rfl), rfl, trivial⟩ ⟨rfl, rfl, rfl, trivial⟩
  rintro κ _ ⟨u, hu, rfl, rfl⟩
  have hpp : 0 < m.mod ^ u := Int.pow_pos (by omega)
  have hpu := pow_le_of hM (j := u) (k := K) (by omega)
  have hmb := Int.mul_le_mul (show m.mod ^ u ≤ 65536 by omega) o2 (show (0 : Int) ≤ m.mod by omega) (by decide)
  have hml := Int.mul_pos hpp (show 0 < m.mod by omega)
  refine awp_seq fun K16 hK16 => awp_seq fun K17 hK17 => awp_region rfl (o_mv (Nv u) rfl (o_mv (.sl 6 (gcells cL (sieF m K))) rfl (o_mv (Nv i) rfl ?_)))
  refine g_index cL (sieF m K) i cL_len rfl Gd.none f96_ rfl rfl (by omega) ?_
  refine g_field cL (sieF m K) i cL_len Gd.none f111_ rfl (by omega) rfl ?_
  refine g_loadS cL (sieF m K) i default (Iv (((sieF m K).getD i default).steps)) cL_len Gd.none f11_ rfl (by omega) rfl ?_
  refine n_as (v' := (Nv s)) (by exact congrArg (fun z => AV.lit (.int .i64 z)) hse) ?_
  refine n_lss u s Gd.none rfl rfl ?_
  refine aops_end (hK17 _ ?_)
  refine awp_condQ (q := u < s) rfl (fun h4 => ?_) (fun h4 => ?_)
  ·refine awp_skip (hK16 _ ?_)
   refine awp_block ?_
   refine awp_seq fun K18 hK18 => awp_region rfl (o_mv (Iv (m.mod ^ u)) rfl ?_)
   refine o_fieldRef 0 Gd.none f58_ rfl rfl ?_
   refine o_loadS (Iv m.mod) Gd.none f11_ rfl rfl rfl ?_
   refine o_mul (a := (m.mod ^ u)) (c := m.mod) Gd.none rfl rfl (by exact wrap64 (by omega) (by omega)) ?_
   refine n_as (v' := (Iv (m.mod ^ (u + 1)))) (by exact congrArg (fun z => AV.lit (.int .i64 z)) (Int.pow_succ _ _).symm) ?_
   refine o_as (Iv (m.mod ^ (u + 1))) rfl ?_
   refine aops_end (hK18 _ (awp_region rfl (o_mv (Nv u) rfl ?_)))
   refine n_add u 1 Gd.none rfl rfl (by simp only [topOf]; omega) ?_
   refine o_as (Nv (u + 1)) rfl ?_
   refine aops_end ?_
   refine ⟨_, _, ?lt, ⟨u + 1, (by omega), rfl, rfl⟩, ?wk⟩
   case lt => omega
   case wk => exact Wk.sub ⟨rfl, rfl, rfl, rfl, rfl, rfl, rfl, rfl, rfl, (by rfl), (by rfl), rfl, trivial⟩ ⟨rfl, rfl, rfl, trivial⟩
  ·refine awp_exit ?_
   refine hK15 _ (awp_seq fun K19 hK19 => ?_)
   have hus : u = s := by omega
   have hpt := pow_le_of hM (j := u) (k := K) (by omega)
   have hp1 : 0 < m.mod ^ u := Int.pow_pos (by omega)
   obtain ⟨P, hP⟩ : ∃ P : Nat, ((P : Nat) : Int) = m.mod ^ u := ⟨(m.mod ^ u).toNat, Int.toNat_of_nonneg (Int.le_of_lt hp1)⟩
   have hst : ((sieF m K).getD i default).steps.toNat = u := by rw [hse, Int.toNat_natCast, hus]
   have hcy := cntF_y (z := (numS n)) hM hiF
   have hcn := cntF_n (z := (numS n)) hM hiF
   rw [hst] at hcy hcn
   refine awp_region rfl ?_
   refine o_loadA [bp ((numS n) < 0), .sl 1 (ns .i64 (digs (numS n).natAbs))] Gd.none f14_ rfl rfl rfl rfl rfl ?_
   refine o_mv (Iv (m.mod ^ u)) rfl ?_
   refine n_as (v' := (Nv P)) (by exact nm_int hP.symm) ?_
   refine o_ct (c_rQR (numS n) P (by omega) (by omega) (by omega)) Gd.none f150_ rfl ?_
   refine o_mv (.tup [(intR ((numS n) / ((P : Nat) : Int))), (Iv ((numS n) % ((P : Nat) : Int)))]) rfl ?_
   refine o_extract (intR ((numS n) / ((P : Nat) : Int))) Gd.none rfl rfl ?_
   refine o_extract (Iv ((numS n) % ((P : Nat) : Int))) Gd.none rfl rfl ?_
   refine n_as (v' := (Iv ((numS n) % m.mod ^ u))) (by exact congrArg (fun z => AV.lit (.int .i64 z)) (by rw [hP])) ?_
   refine o_alloc 301 [Fv, Zv] Gd.none f9_ rfl rfl rfl ?_
   refine o_store [(301, (oZ 47 .i64 ((numS n) / ((P : Nat) : Int)))), (2, oM 24 m), (3, (.var 40 [(Iv ((fdF m n (K : Int)).steps)), (Iv ((fdF m n (K : Int)).rest)), (Sv ((fdF m n (K : Int)).lmul)), (Sv ((fdF m n (K : Int)).ladd)), (Sv ((fdF m n (K : Int)).ldiv)), (Sv ((fdF m n (K : Int)).bound))])), (4, oZ 47 .i64 (numS n))] Gd.none f13_ rfl rfl rfl rfl rfl rfl ?_
   refine o_as (Iv ((numS n) % m.mod ^ u)) rfl ?_
   refine aops_end (hK19 _ (awp_seq fun K20 hK20 => awp_region rfl (o_mv (Iv ((numS n) % m.mod ^ u)) rfl (o_mv (.sl 6 (gcells cL (sieF m K))) rfl (o_mv (Nv i) rfl ?_)))))
   refine g_index cL (sieF m K) i cL_len rfl Gd.none f96_ rfl rfl (by omega) ?_
   refine g_field cL (sieF m K) i cL_len Gd.none f110_ rfl (by omega) rfl ?_
   refine g_loadS cL (sieF m K) i default (Iv (((sieF m K).getD i default).rest)) cL_len Gd.none f11_ rfl (by omega) rfl ?_
   refine o_eql (a := ((numS n) % m.mod ^ u)) (c := (((sieF m K).getD i default).rest)) Gd.none rfl rfl ?_
   refine aops_end (hK20 _ ?_)
   refine awp_condQ (q := ((numS n) % m.mod ^ u) = (((sieF m K).getD i default).rest)) rfl (fun h5 => ?_) (fun h5 => ?_)
   ·refine awp_seq fun K21 hK21 => ?_
    have hcy' := hcy (by assumption)
    refine awp_region rfl (o_mv (Nv (cntF m (numS n) K i)) rfl ?_)
    refine n_add (cntF m (numS n) K i) 1 Gd.none rfl rfl (by simp only [topOf]; omega) ?_
    refine n_as (v' := (Nv (cntF m (numS n) K (i + 1)))) (by exact congrArg (nm _) (by omega)) ?_
    refine o_as (Nv (cntF m (numS n) K (i + 1))) rfl ?_
    refine aops_end (hK21 _ (awp_seq fun K22 hK22 => awp_regionD rfl (o_mv (bp (fndB m (numS n) K)) rfl ?_)))
    refine n_as (v' := Tv) (by exact bpy hcy'.2.2.1) ?_
    refine o_not (b := true) Gd.none rfl ?_
    refine o_mv Fv rfl ?_
    refine o_move (.sl 6 (gcells cL (sieF m K))) (Gd.yes rfl rfl rfl) rfl ?_
    refine o_move (Nv i) (Gd.yes rfl rfl rfl) rfl ?_
    refine g_index cL (sieF m K) i cL_len rfl (Gd.yes rfl rfl rfl) f96_ rfl rfl (by omega) ?_
    refine g_loadA cL (sieF m K) i default cL_len (Gd.yes rfl rfl rfl) f92_ rfl (by omega) ?_
    refine o_loadA [(Iv ((fdF m n (K : Int)).steps)), (Iv ((fdF m n (K : Int)).rest)), (Sv ((fdF m n (K : Int)).lmul)), (Sv ((fdF m n (K : Int)).ladd)), (Sv ((fdF m n (K : Int)).ldiv)), (Sv ((fdF m n (K : Int)).bound))] (Gd.yes rfl rfl rfl) f92_ rfl rfl rfl rfl rfl ?_
    refine o_neqA [.int .i64 (((sieF m K).getD i default).steps), .int .i64 (((sieF m K).getD i default).rest), .string (((sieF m K).getD i default).lmul), .string (((sieF m K).getD i default).ladd), .string (((sieF m K).getD i default).ldiv), .string (((sieF m K).getD i default).bound)] [.int .i64 ((fdF m n (K : Int)).steps), .int .i64 ((fdF m n (K : Int)).rest), .string ((fdF m n (K : Int)).lmul), .string ((fdF m n (K : Int)).ladd), .string ((fdF m n (K : Int)).ldiv), .string ((fdF m n (K : Int)).bound)] ((((sieF m K).getD i default).steps) = ((fdF m n (K : Int)).steps) ∧ (((sieF m K).getD i default).rest) = ((fdF m n (K : Int)).rest) ∧ (((sieF m K).getD i default).lmul) = ((fdF m n (K : Int)).lmul) ∧ (((sieF m K).getD i default).ladd) = ((fdF m n (K : Int)).ladd) ∧ (((sieF m K).getD i default).ldiv) = ((fdF m n (K : Int)).ldiv) ∧ (((sieF m K).getD i default).bound) = ((fdF m n (K : Int)).bound)) (Gd.yes rfl rfl rfl) rfl rfl (eq_api_Fall _ _ _ _ _ _ _ _ _ _ _ _) ?_
    refine n_as (v' := Fv) (by exact bpn (fun h => h (by rw [hcy'.2.2.2, hd.2.1]; exact ⟨rfl, rfl, rfl, rfl, rfl, rfl⟩))) ?_
    refine o_pickF Fv Gd.none rfl rfl rfl ?_
    refine aops_end ⟨by kernel_rfl, ?_⟩
    refine hK22 _ ?_
    refine awp_condB (b := false) rfl (fun hh => absurd (hh.symm.trans rfl) (by decide)) (fun _ => ?_)
    refine awp_skip (hK13 _ (awp_region rfl (o_mv (Nv i) rfl ?_)))
    refine n_add i 1 Gd.none rfl rfl (by simp only [topOf]; omega) ?_
    refine o_as (Nv (i + 1)) rfl ?_
    refine aops_end ?_
    refine ⟨_, _, ?lt, ⟨i + 1, u, (by omega), (.inr ⟨by omega, by rw [Nat.add_sub_cancel]; omega⟩), rfl, rfl⟩, ?wk⟩
    case lt => omega
    case wk => exact Wk.sub ⟨rfl, rfl, rfl, rfl, rfl, rfl, rfl, rfl, (by rfl), (by rfl), (by rfl), (by rfl), trivial⟩ ⟨rfl, rfl, rfl, trivial⟩
   ·refine awp_skip (hK13 _ ?_)
    have hcn' := hcn (by assumption)
    refine awp_region rfl (o_mv (Nv i) rfl ?_)
    refine n_add i 1 Gd.none rfl rfl (by simp only [topOf]; omega) ?_
    refine o_as (Nv (i + 1)) rfl ?_
    refine aops_end ?_
    refine ⟨_, _, ?lt, ⟨i + 1, u, (by omega), (.inr ⟨by omega, by rw [Nat.add_sub_cancel]; omega⟩), rfl, rfl⟩, ?wk⟩
    case lt => omega
    case wk => exact Wk.sub ⟨rfl, rfl, rfl, rfl, rfl, rfl, rfl, rfl, (by exact congrArg (nm _) (by omega)), (by rfl), (by rfl), (by rfl), trivial⟩ ⟨rfl, rfl, rfl, trivial⟩
 ·refine awp_exit ?_
  refine hK9 _ (awp_seq fun K23 hK23 => ?_)
  have hie : i = (sieF m K).length := by omega
  have hpK : 0 < m.mod ^ K := Int.pow_pos (by omega)
  obtain ⟨Q, hQ⟩ : ∃ Q : Nat, ((Q : Nat) : Int) = m.mod ^ K := ⟨(m.mod ^ K).toNat, Int.toNat_of_nonneg (Int.le_of_lt hpK)⟩
  have hrst : rstN m (K : Int) = m.mod ^ K := if_pos ⟨hmy.2.1, hkp⟩
  have hc0 := cnt_0 (m := m) (z := (numS n)) (k := K)
  refine awp_regionD rfl ?_
  refine o_loadA [bp ((numS n) < 0), .sl 1 (ns .i64 (digs (numS n).natAbs))] Gd.none f14_ rfl rfl rfl rfl rfl ?_
  refine o_loadA [Iv m.mod, Lv m.mul, Lv m.add] Gd.none f66_ rfl rfl rfl rfl rfl ?_
  refine o_mv (Nv K) rfl ?_
  refine o_ct (c_vRests m ((K : Nat) : Int) (by assumption) (by omega)) Gd.none f93_ rfl ?_
  refine n_as (v' := (Nv Q)) (by exact nm_int (hrst.trans hQ.symm)) ?_
  refine o_ct (c_rQR (numS n) Q (by omega) (by omega) (by omega)) Gd.none f150_ rfl ?_
  refine o_mv (.tup [(intR ((numS n) / ((Q : Nat) : Int))), (Iv ((numS n) % ((Q : Nat) : Int)))]) rfl ?_
  refine o_extract (intR ((numS n) / ((Q : Nat) : Int))) Gd.none rfl rfl ?_
  refine o_extract (Iv ((numS n) % ((Q : Nat) : Int))) Gd.none rfl rfl ?_
  refine n_as (v' := (Iv ((numS n) % m.mod ^ K))) (by exact congrArg (fun z => AV.lit (.int .i64 z)) (by rw [hQ])) ?_
  refine o_alloc 101 [Fv, Zv] Gd.none f9_ rfl rfl rfl ?_
  refine o_store [(101, (oZ 47 .i64 ((numS n) / ((Q : Nat) : Int)))), (2, oM 24 m), (3, (.var 40 [(Iv ((fdF m n (K : Int)).steps)), (Iv ((fdF m n (K : Int)).rest)), (Sv ((fdF m n (K : Int)).lmul)), (Sv ((fdF m n (K : Int)).ladd)), (Sv ((fdF m n (K : Int)).ldiv)), (Sv ((fdF m n (K : Int)).bound))])), (4, oZ 47 .i64 (numS n))] Gd.none f13_ rfl rfl rfl rfl rfl rfl ?_
  refine o_as (Iv ((numS n) % m.mod ^ K)) rfl ?_
  refine aops_end ⟨by kernel_rfl, ?_⟩
  refine hK23 _ (awp_seq fun K24 hK24 => awp_region rfl ?_)
  refine o_as (Nv 0) rfl ?_
  refine n_as (v' := (Nv (cntL m (numS n) K 0))) (by exact congrArg (nm _) cnt_0.2.symm) ?_
  refine aops_end (hK24 _ (awp_seq fun K25 hK25 => awp_seq fun K26 hK26 => awp_region rfl ?_))
  refine o_as (Nv 0) rfl ?_
  refine aops_end (hK26 _ ?_)
  refine awp_block ?_
  refine awp_loopR (fun κ σ => ∃ (j : Nat), (j ≤ (sieL m K).length) ∧ ((sieL m K).length - j) = κ ∧ σ = ⟨[(8, Lv (sieL m K)), (11, bp (fndB m (numS n) K)), (14, Nv (cntF m (numS n) K i)), (21, Iv ((numS n) % m.mod ^ K)), (22, Nv (cntL m (numS n) K j)), (23, Nv j)], []⟩) ⟨_, _, ⟨0, Nat.zero_le _, rfl, rfl⟩, ?wk3⟩ ?rd3
  case wk3 =>
   exact Wk.sub ⟨rfl, rfl, rfl, rfl, (by rfl), (by rfl), trivial⟩ trivial
  rintro κ _ ⟨j, hj, rfl, rfl⟩
  have hcl := cnt_le (m := m) (z := (numS n)) (k := K) (i := j)
  have hllt := fun (h : j < (sieL m K).length) h0 => sieL_lt hM h h0
  refine awp_seq fun K27 hK27 => awp_seq fun K28 hK28 => awp_region rfl (o_mv (Nv j) rfl (o_mv (Lv (sieL m K)) rfl ?_))
  refine i_len (sieL m K) Gd.none f2_ rfl ?_
  refine n_lss j ((sieL m K).length) Gd.none rfl rfl ?_
  refine aops_end (hK28 _ ?_)
  refine awp_condQ (q := j < ((sieL m K).length)) rfl (fun h6 => ?_) (fun h6 => ?_)
  ·refine awp_skip (hK27 _ (awp_seq fun K29 hK29 => ?_))
   refine awp_block ?_
   refine awp_seq fun K30 hK30 => awp_seq fun K31 hK31 => awp_regionD rfl (o_mv (Nv j) rfl ?_)
   refine n_gtr j 0 Gd.none rfl rfl ?_
   refine o_mv (bp (0 < j)) rfl ?_
   refine o_splitP (q := 0 < j) 178 rfl (fun h7 => ?_) (fun h7 => ?_)
   ·refine o_move (Lv (sieL m K)) (Gd.yes rfl rfl (decide_eq_true h7)) rfl ?_
    refine o_move (Nv j) (Gd.yes rfl rfl (decide_eq_true h7)) rfl ?_
    refine i_index (sieL m K) j (Gd.yes rfl rfl (decide_eq_true h7)) f10_ rfl rfl (by omega) ?_
    refine i_loadI (sieL m K) j (Gd.yes rfl rfl (decide_eq_true h7)) f11_ rfl (by omega) ?_
    refine o_move (Lv (sieL m K)) (Gd.yes rfl rfl (decide_eq_true h7)) rfl ?_
    refine o_move (Nv j) (Gd.yes rfl rfl (decide_eq_true h7)) rfl ?_
    refine n_sub j 1 (Gd.yes rfl rfl (decide_eq_true h7)) rfl rfl (by omega) (by simp only [topOf]; omega) ?_
    refine i_index (sieL m K) (j - 1) (Gd.yes rfl rfl (decide_eq_true h7)) f10_ rfl rfl (by omega) ?_
    refine i_loadI (sieL m K) (j - 1) (Gd.yes rfl rfl (decide_eq_true h7)) f11_ rfl (by omega) ?_
    refine o_leq (a := ((sieL m K).getD j 0)) (c := ((sieL m K).getD (j - 1) 0)) (Gd.yes rfl rfl (decide_eq_true h7)) rfl rfl ?_
    refine n_as (v' := Fv) (by exact bpn (by have := hllt (by omega) (by omega); omega)) ?_
    refine o_pickT Fv Gd.none rfl (decide_eq_true h7) rfl ?_
    refine aops_end ⟨by kernel_rfl, ?_⟩
    refine hK31 _ ?_
    refine awp_condB (b := false) rfl (fun hh => absurd (hh.symm.trans rfl) (by decide)) (fun _ => ?_)
    refine awp_skip (hK30 _ (awp_seq fun K32 hK32 => awp_region rfl (o_mv (Lv (sieL m K)) rfl (o_mv (Nv j) rfl ?_))))
    refine i_index (sieL m K) j Gd.none f10_ rfl rfl (by omega) ?_
    refine i_loadI (sieL m K) j Gd.none f11_ rfl (by omega) ?_
    refine o_mv (Iv ((numS n) % m.mod ^ K)) rfl ?_
    refine o_eql (a := ((sieL m K).getD j 0)) (c := ((numS n) % m.mod ^ K)) Gd.none rfl rfl ?_
    refine aops_end (hK32 _ ?_)
    refine awp_condQ (q := ((sieL m K).getD j 0) = ((numS n) % m.mod ^ K)) rfl (fun h8 => ?_) (fun h8 => ?_)
    ·refine awp_region rfl (o_mv (Nv (cntL m (numS n) K j)) rfl ?_)
     refine n_add (cntL m (numS n) K j) 1 Gd.none rfl rfl (by simp only [topOf]; omega) ?_
     refine n_as (v' := (Nv (cntL m (numS n) K (j + 1)))) (by exact congrArg (nm _) (cntL_y hM (by omega) (by assumption)).symm) ?_
     refine o_as (Nv (cntL m (numS n) K (j + 1))) rfl ?_
     refine aops_end (hK29 _ (awp_region rfl (o_mv (Nv j) rfl ?_)))
     refine n_add j 1 Gd.none rfl rfl (by simp only [topOf]; omega) ?_
     refine o_as (Nv (j + 1)) rfl ?_
     refine aops_end ?_
     refine ⟨_, _, ?lt, ⟨j + 1, (by omega), rfl, rfl⟩, ?wk⟩
     case lt => omega
     case wk => exact Wk.sub ⟨rfl, rfl, rfl, rfl, (by rfl), (by rfl), trivial⟩ trivial
    ·refine awp_skip (hK29 _ ?_)
     have hln := cntL_n (m := m) (z := (numS n)) (k := K) (i := j) (by omega) (by assumption)
     refine awp_region rfl (o_mv (Nv j) rfl ?_)
     refine n_add j 1 Gd.none rfl rfl (by simp only [topOf]; omega) ?_
     refine o_as (Nv (j + 1)) rfl ?_
     refine aops_end ?_
     refine ⟨_, _, ?lt, ⟨j + 1, (by omega), rfl, rfl⟩, ?wk⟩
     case lt => omega
     case wk => exact Wk.sub ⟨rfl, rfl, rfl, rfl, (by exact congrArg (nm _) (by omega)), (by rfl), trivial⟩ trivial
   ·refine o_skip rfl rfl (decide_eq_false h7) ?_
    refine o_skip rfl rfl (decide_eq_false h7) ?_
    refine o_skip rfl rfl (decide_eq_false h7) ?_
    refine o_skip rfl rfl (decide_eq_false h7) ?_
    refine o_skip rfl rfl (decide_eq_false h7) ?_
    refine o_skip rfl rfl (decide_eq_false h7) ?_
    refine o_skip rfl rfl (decide_eq_false h7) ?_
    refine o_skip rfl rfl (decide_eq_false h7) ?_
    refine o_skip rfl rfl (decide_eq_false h7) ?_
    refine o_skip rfl rfl (decide_eq_false h7) ?_
    refine o_pickF Fv Gd.none rfl (decide_eq_false h7) rfl ?_
    refine aops_end ⟨by kernel_rfl, ?_⟩
    refine hK31 _ ?_
    refine awp_condB (b := false) rfl (fun hh => absurd (hh.symm.trans rfl) (by decide)) (fun _ => ?_)
    refine awp_skip (hK30 _ (awp_seq fun K33 hK33 => awp_region rfl (o_mv (Lv (sieL m K)) rfl (o_mv (Nv j) rfl ?_))))
    refine i_index (sieL m K) j Gd.none f10_ rfl rfl (by omega) ?_
    refine i_loadI (sieL m K) j Gd.none f11_ rfl (by omega) ?_
    refine o_mv (Iv ((numS n) % m.mod ^ K)) rfl ?_
    refine o_eql (a := ((sieL m K).getD j 0)) (c := ((numS n) % m.mod ^ K)) Gd.none rfl rfl ?_
    refine aops_end (hK33 _ ?_)
    refine awp_condQ (q := ((sieL m K).getD j 0) = ((numS n) % m.mod ^ K)) rfl (fun h9 => ?_) (fun h9 => ?_)
    ·refine awp_region rfl (o_mv (Nv (cntL m (numS n) K j)) rfl ?_)
     refine n_add (cntL m (numS n) K j) 1 Gd.none rfl rfl (by simp only [topOf]; omega) ?_
     refine n_as (v' := (Nv (cntL m (numS n) K (j + 1)))) (by exact congrArg (nm _) (cntL_y hM (by omega) (by assumption)).symm) ?_
     refine o_as (Nv (cntL m (numS n) K (j + 1))) rfl ?_
     refine aops_end (hK29 _ (awp_region rfl (o_mv (Nv j) rfl ?_)))
     refine n_add j 1 Gd.none rfl rfl (by simp only [topOf]; omega) ?_
     refine o_as (Nv (j + 1)) rfl ?_
     refine aops_end ?_
     refine ⟨_, _, ?lt, ⟨j + 1, (by omega), rfl, rfl⟩, ?wk⟩
     case lt => omega
     case wk => exact Wk.sub ⟨rfl, rfl, rfl, rfl, (by rfl), (by rfl), trivial⟩ trivial
    ·refine awp_skip (hK29 _ ?_)
     have hln := cntL_n (m := m) (z := (numS n)) (k := K) (i := j) (by omega) (by assumption)
     refine awp_region rfl (o_mv (Nv j) rfl ?_)
     refine n_add j 1 Gd.none rfl rfl (by simp only [topOf]; omega) ?_
     refine o_as (Nv (j + 1)) rfl ?_
     refine aops_end ?_
     refine ⟨_, _, ?lt, ⟨j + 1, (by omega), rfl, rfl⟩, ?wk⟩
     case lt => omega
     case wk => exact Wk.sub ⟨rfl, rfl, rfl, rfl, (by exact congrArg (nm _) (by omega)), (by rfl), trivial⟩ trivial
  ·refine awp_exit ?_
   refine hK25 _ (awp_seq fun K34 hK34 => ?_)
   have hje : j = (sieL m K).length := by omega
   rw [← hje, ← hie] at hce
   refine awp_region rfl (o_mv (Nv (cntF m (numS n) K i)) rfl (o_mv (Nv (cntL m (numS n) K j)) rfl ?_))
   refine n_add (cntF m (numS n) K i) (cntL m (numS n) K j) Gd.none rfl rfl (by simp only [topOf]; omega) ?_
   refine n_eql ((cntF m (numS n) K i) + (cntL m (numS n) K j)) 1 Gd.none rfl rfl ?_
   refine n_as (v' := Tv) (by exact bpy (by omega)) ?_
   refine o_mv Tv rfl ?_
   refine o_move (bp (fndB m (numS n) K)) (Gd.yes rfl rfl rfl) rfl ?_
   refine o_move (Nv (cntF m (numS n) K i)) (Gd.yes rfl rfl rfl) rfl ?_
   refine n_eql (cntF m (numS n) K i) 1 (Gd.yes rfl rfl rfl) rfl rfl ?_
   refine o_eqlB (a := (decide (fndB m (numS n) K))) (c := (decide ((cntF m (numS n) K i) = 1))) (Gd.yes rfl rfl rfl) rfl rfl f29_ ?_
   refine n_as (v' := Tv) (by exact bpy (decide_eq_decide.2 hce.2.symm)) ?_
   refine o_pickT Tv Gd.none rfl rfl rfl ?_
   refine o_mv Tv rfl ?_
   refine o_ct c_awake4 (Gd.yes rfl rfl rfl) f151_ rfl ?_
   refine o_pickT Tv Gd.none rfl rfl rfl ?_
   refine o_as Tv rfl ?_
   refine aops_end (hK34 _ ?_)
   refine awp_ret ?_
   refine post_ret ⟨[Tv], ⟨AV.le_refl _, trivial⟩, rfl, ?_⟩
   rfl

theorem c_SieveAll_n (m : MapM) (n : ByteArray) (k : Int) (hkb : k ≤ 9223372036854775807) (hE : ¬ (okM m = true ∧ mayS m k ∧ okS n = true)) (hn : n.size ≤ 9223372036854775807) (h1m : m.mul.length ≤ 17592186044416) (h2m : m.add.length ≤ 17592186044416) : ECalls cx 5 [mapV m, Sv n, Iv k] (.lit (.bool true)) := by
 refine ecalls_of_awp Tryz.func5 (c := _) rfl (Nat.le_of_ble_eq_true rfl) ?_
 show awp cx 211 _ (postF cx Tryz.f5 _) ⟨[(0, mapV m), (1, Sv n), (2, Iv k)], []⟩
 refine awp_seq fun K0 hK0 => awp_region rfl ?_
 refine o_box 2 [Iv m.mod, Lv m.mul, Lv m.add] Gd.none rfl rfl ?_
 refine o_as Fv rfl ?_
 refine aops_end (hK0 _ (awp_seq fun K1 hK1 => awp_seq fun K2 hK2 => awp_region rfl ?_))
 refine o_loadA [Iv m.mod, Lv m.mul, Lv m.add] Gd.none f66_ rfl rfl rfl rfl rfl ?_
 refine o_mv (Iv k) rfl ?_
 refine o_ct (c_may m k (by assumption)) Gd.none f147_ rfl ?_
 refine o_notP (q := okM m = true ∧ mayS m k) Gd.none rfl ?_
 refine o_mv (bp (¬ (okM m = true ∧ mayS m k))) rfl ?_
 refine o_splitP (q := ¬ (okM m = true ∧ mayS m k)) 28 rfl (fun h1 => ?_) (fun h1 => ?_)
 ·refine o_skip rfl rfl (decide_eq_true h1) ?_
  refine o_skip rfl rfl (decide_eq_true h1) ?_
  refine o_skip rfl rfl (decide_eq_true h1) ?_
  refine o_pickT Tv Gd.none rfl (decide_eq_true h1) rfl ?_
  refine aops_end (hK2 _ ?_)
  refine awp_condB (b := true) rfl (fun _ => ?_) (fun hh => absurd (hh.symm.trans rfl) (by decide))
  refine awp_seq fun K3 hK3 => awp_region rfl ?_
  refine o_ct c_awake4 Gd.none f151_ rfl ?_
  refine o_as Tv rfl ?_
  refine aops_end (hK3 _ ?_)
  refine awp_ret ?_
  refine post_ret ⟨[Tv], ⟨AV.le_refl _, trivial⟩, rfl, ?_⟩
  rfl
 ·refine o_move (Sv n) (Gd.yes rfl rfl (decide_eq_false h1)) rfl ?_
  refine o_ct (c_rValid n (by assumption)) (Gd.yes rfl rfl (decide_eq_false h1)) f148_ rfl ?_
  refine o_not (b := okS n) (Gd.yes rfl rfl (decide_eq_false h1)) rfl ?_
  refine n_as (v' := Tv) (by exact bl_eq (by have hmm := Decidable.not_not.1 (show ¬ ¬ (okM m = true ∧ mayS m k) by assumption); have hno : ¬ okS n = true := fun e => hE ⟨hmm.1, hmm.2, e⟩; simpa using hno)) ?_
  refine o_pickF Tv Gd.none rfl (decide_eq_false h1) rfl ?_
  refine aops_end (hK2 _ ?_)
  refine awp_condB (b := true) rfl (fun _ => ?_) (fun hh => absurd (hh.symm.trans rfl) (by decide))
  refine awp_seq fun K4 hK4 => awp_region rfl ?_
  refine o_ct c_awake4 Gd.none f151_ rfl ?_
  refine o_as Tv rfl ?_
  refine aops_end (hK4 _ ?_)
  refine awp_ret ?_
  refine post_ret ⟨[Tv], ⟨AV.le_refl _, trivial⟩, rfl, ?_⟩
  rfl

end Go.Proofs.YtjbaamfahkjhgaaGreatDoor

namespace Go.Proofs.YtjbaamfahkjhgaaGreatDoor.sieveAll
open Go Go.Ab Go.Mth Go.ChangeShapes Go.WideShapes Go.ChangeAt Go.RowKit
theorem c_SieveAll (m : MapM) (n : ByteArray) (k : Int) (hn : n.size ≤ 9223372036854775807) (h1m : m.mul.length ≤ 17592186044416) (h2m : m.add.length ≤ 17592186044416) (hkb : -9223372036854775808 ≤ k ∧ k ≤ 9223372036854775807) : ECalls cx 5 [(mapV m), (AV.lit (.string (n))), (AV.lit (.int .i64 (k)))] (.lit (.bool true)) := by
 by_cases h : okM m = true ∧ mayS m k ∧ okS n = true
 ·have hk1 := h.2.1.2.1
  obtain ⟨K, rfl⟩ : ∃ K : Nat, k = (K : Int) := ⟨k.toNat, by omega⟩
  exact c_SieveAll_y m n K (okM_iff.1 h.1) h.2.1 h.2.2 hn h1m h2m
 ·exact c_SieveAll_n m n k hkb.2 h hn h1m h2m
theorem reads (os : Os) {H : Type} (enc : TypeId × Value → H) : ∃ places, DataW.whole enc Tryz.prog ((World.laidAll Tryz.prog os laid5).forCall (fun _ _ => 0) ⟨#[], #[.agg #[.int .i64 0, .slice none 0 0, .slice none 0 0], .string ByteArray.empty, .int .i64 0], []⟩).memory Tryz.f5.params.toList Rows.sieveAllSpec.vars false (#[.agg #[.int .i64 0, .slice none 0 0, .slice none 0 0], .string ByteArray.empty, .int .i64 0] : Array Value).toList 8 = some ([.agg [.lit (.int .i64 0), .nil, .nil], .lit (.string []), .lit (.int .i64 0)], [], places) := ⟨[], by kernel_rfl⟩
theorem met (os : Os) : laidMetH Tryz.prog laid5 ((World.laidAll Tryz.prog os laid5).forCall (fun _ _ => 0) ⟨#[], #[.agg #[.int .i64 0, .slice none 0 0, .slice none 0 0], .string ByteArray.empty, .int .i64 0], []⟩).memory := (MakeChecks.laidMetH_plain _ _ _ (by kernel_rfl)).mpr (laidMet_laidAll _ (by kernel_rfl) (by kernel_rfl))
theorem specs {H : Type} (ds : List (DataW H)) (h : ds.length = 3) : (Rows.sieveAllSpec.fn H ds).results = [.lit (.bool true)] ∧ (Rows.sieveAllSpec.fn H ds).args = ds ∧ (Rows.sieveAllSpec.fn H ds).vars = [] := by
 rcases ds with _ | ⟨d0, _ | ⟨d1, _ | ⟨d2, _ | ⟨e, t⟩⟩⟩⟩ <;> simp at h <;> exact ⟨rfl, rfl, rfl⟩
set_option maxRecDepth 100000 in
theorem opened {H : Type} (enc : TypeId × Value → H) (W : World) (base : Nat) (args : Array Value) (ds : List (DataW H)) (ps : List MemPlace) (hval : ∀ (j : Nat) t v, (#[24, 9, 3] : Array TypeId)[j]? = some t → args[j]? = some v → Value.okWide Tryz.prog W .any base t v)
  (hA : DataW.TrodAll enc Tryz.prog W 0 (fun _ => true) true [24, 9, 3] args.toList ds ps) (hsz : (DataW.weightsEach Tryz.prog [24, 9, 3] ds).all (· ≤ reachBytes) = true) : ∃ xs, RepL (memOf W) xs noLoc args.toList ∧ ECalls cx 5 xs (.lit (.bool true)) := by
 obtain ⟨v0, vs0, d0, ds0, p0, q0, hargs, rfl, rfl, h0, r0⟩ := trodAll_cons hA
 obtain ⟨v1, vs1, d1, ds1, p1, q1, rfl, rfl, rfl, h1, r1⟩ := trodAll_cons r0
 obtain ⟨v2, vs2, d2, ds2, p2, q2, rfl, rfl, rfl, h2, r2⟩ := trodAll_cons r1
 obtain ⟨rfl, rfl, rfl⟩ := trodAll_nil r2
 obtain rfl : args = #[v0, v1, v2] := by cases args; simp_all
 obtain ⟨m0, e0, b0, c0⟩ := rep_map (hval 0 24 v0 rfl rfl) h0 (fun n hn => by simpa using List.all_eq_true.1 hsz n (DataW.weights_mem_each (j := 0) rfl rfl n hn))
 obtain ⟨a1, e1, b1⟩ := rep_str (hval 1 9 v1 rfl rfl) h1
 obtain ⟨k2, e2, b2⟩ := rep_int (hval 2 3 v2 rfl rfl) h2
 exact ⟨[mapV m0, .lit (.string a1), .lit (.int .i64 k2)], RepL.cons e0 (RepL.cons e1 (RepL.cons e2 (by simp only [RepL]))), c_SieveAll m0 a1 k2 b1 b0 c0 b2⟩
set_option maxRecDepth 100000 in
theorem lifted (os : Os) (started : os.Started) (H : Type) (enc : TypeId × Value → H) (F : Stop.Interp) :
  ReturnsInHanded {} Tryz.checked os 5 .any ((OpenSpec.ofChange Rows.sieveAllSpec).preRow enc Tryz.prog Tryz.f5 Rows.sieveAllRow.domain false Rows.sieveAllRow.laid) (((OpenSpec.ofChange Rows.sieveAllSpec).at F).post enc Tryz.prog Tryz.f5 false true false false) := by
 obtain ⟨places, hx⟩ := reads os enc
 refine lifted_of (C := Tryz.checked) started cx rfl ownT (by kernel_rfl) Tryz.func5 (witness_laid #[.agg #[.int .i64 0, .slice none 0 0, .slice none 0 0], .string ByteArray.empty, .int .i64 0] (by kernel_rfl) (by kernel_rfl) (by kernel_rfl) (OpenSpec.preRow_of_cond 8 hx (by kernel_rfl) (fun k hk => by cases hk) (by kernel_rfl) (met os))) laidOutT (by kernel_rfl) (tb := 4) (by kernel_rfl) u4T rfl (fun ds h => specs ds (h.trans (by kernel_rfl))) (fun W h => tabG_of h) ?_
 intro W base args ds ps hval hA hsz
 exact opened enc W base args ds ps hval hA hsz
theorem said : Rows.SieveAllSaid :=
 OpenClaim.holds_of_cond 5 Tryz.f5 rfl rfl rfl rfl rfl rfl rfl ⟨rfl, rfl, rfl, rfl, rfl⟩ rfl rfl rfl rfl rfl (by kernel_rfl) Tryz.func5 (by kernel_rfl)
  (of_decide_eq_true (by kernel_rfl)) (by unfold Func.isWrapper; first | (rw [if_pos (by decide +kernel)]; kernel_rfl) | (rw [if_neg (by decide +kernel)]; exact ⟨rfl, rfl⟩))
  (fun os started H enc _ F => by rw [OpenClaim.pre_eq_preRow]; exact lifted os started H enc F)
theorem plain (f : FuncId) (fn : Func) (hf : Tryz.pinned.checked.prog.funcNamed "katabasis/katabasislaw04.SieveAll" = some f) (hfn : Tryz.pinned.checked.prog.funcs[f]? = some fn) :
  true = Tryz.pinned.checked.prog.looks [] ∧ ∀ (j : Nat) t, fn.params[j]? = some t → Tryz.pinned.checked.prog.wantsStandIn t = false := by
 obtain rfl : f = 5 := Option.some.inj ((show Tryz.prog.funcNamed "katabasis/katabasislaw04.SieveAll" = some 5 by kernel_rfl).symm.trans hf) |>.symm
 obtain rfl : fn = Tryz.f5 := (Option.some.inj (Tryz.func5.symm.trans hfn)).symm
 refine ⟨by kernel_rfl, fun j t ht => ?_⟩
 rw [Tryz.params5] at ht
 have : t = 24 ∨ t = 9 ∨ t = 3 := by have h := Array.mem_of_getElem? ht; simp at h; first | exact h | (rcases h with h | h | h | h <;> simp [h]) | (rcases h with h | h | h <;> simp [h]) | (rcases h with h | h <;> simp [h])
 rcases this with rfl | rfl | rfl
 ·exact (show Tryz.prog.wantsStandIn 24 = false by kernel_rfl)
 ·exact (show Tryz.prog.wantsStandIn 9 = false by kernel_rfl)
 ·exact (show Tryz.prog.wantsStandIn 3 = false by kernel_rfl)
end Go.Proofs.YtjbaamfahkjhgaaGreatDoor.sieveAll
namespace Go.Proofs.YtjbaamfahkjhgaaGreatDoor
open Go
theorem sieveAll_holds : Rows.SieveAllCardSaid :=
 Claim7.holds_tied_plain_at .later [] _ _ _ _ sieveAll.said (fun _ h => by cases h) (by kernel_rfl) (fun _ h => by cases h) sieveAll_row_tie rfl ⟨rfl, rfl⟩ (by kernel_rfl) rfl sieveAll.plain (by kernel_rfl)
#print axioms sieveAll_holds
end Go.Proofs.YtjbaamfahkjhgaaGreatDoor

