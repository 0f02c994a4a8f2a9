/- What the laws of layer 2 lean on. No walk in sight. -/
import Derived.Test.YtkngglpnejdicaaDoorCz
import Derived.Test.YtkngglpnejdicaaDoorTx
set_option linter.unusedVariables false
namespace Go.Mth
open Go.Ab
theorem fit_of_lt {z : Int} (h : z.natAbs < 1000000000) : Fit z := by
  have := ndig_small h
  unfold Fit
  omega
theorem list_extS {x y : List ByteArray} (hl : x.length = y.length) (h : ∀ k, k < x.length → x.getD k { data := #[] } = y.getD k { data := #[] }) : x = y := by
  refine List.ext_getElem hl fun k h1 h2 => ?_
  have := h k h1
  rw [List.getD_eq_getElem?_getD, List.getD_eq_getElem?_getD, List.getElem?_eq_getElem h1, List.getElem?_eq_getElem h2] at this
  exact this
theorem okM_ex : okM (kinM 3 1) = true := by
  refine okM_yes ⟨by decide, by decide, by decide, by decide, fun r hr => ?_⟩
  have : r = 0 ∨ r = 1 := by simp only [kinM] at hr; omega
  rcases this with rfl | rfl <;> decide
theorem okS_ex : okS ⟨#[55]⟩ = true := by
  refine okS_yes ⟨by decide, by decide, by decide, fun i h1 h2 => ?_⟩
  have : i = 0 := by simp [ByteArray.size] at h2; omega
  subst this
  decide
theorem numS_ex : numS ⟨#[55]⟩ = 7 := by decide
theorem fitE (n : Nat) (h : n < 1000000000) : Fit (n : Int) := fit_of_lt (by omega)
theorem run_ex : runZ (kinM 3 1) 5 7 = 20 := by
  rw [runZ, if_pos (fit_of_lt (by decide)), show stepZ (kinM 3 1) 7 = 11 by decide, runZ, if_pos (fit_of_lt (by decide)), show stepZ (kinM 3 1) 11 = 17 by decide, runZ, if_pos (fit_of_lt (by decide)), show stepZ (kinM 3 1) 17 = 26 by decide,
    runZ, if_pos (fit_of_lt (by decide)), show stepZ (kinM 3 1) 26 = 13 by decide, runZ, if_pos (fit_of_lt (by decide)), show stepZ (kinM 3 1) 13 = 20 by decide, runZ]
theorem orb_ex : orbZ (kinM 3 1) 5 7 = [7, 11, 17, 26, 13, 20] := by
  rw [orbZ, if_pos (fit_of_lt (by decide)), show stepZ (kinM 3 1) 7 = 11 by decide, orbZ, if_pos (fit_of_lt (by decide)), show stepZ (kinM 3 1) 11 = 17 by decide, orbZ, if_pos (fit_of_lt (by decide)), show stepZ (kinM 3 1) 17 = 26 by decide,
    orbZ, if_pos (fit_of_lt (by decide)), show stepZ (kinM 3 1) 26 = 13 by decide, orbZ, if_pos (fit_of_lt (by decide)), show stepZ (kinM 3 1) 13 = 20 by decide, orbZ]
theorem fall_ex : fallZ (kinM 3 1) 7 100 7 1 = (7, 5, 0) := by
  rw [show (100 : Nat) = 99 + 1 by rfl, fallZ_go (fit_of_lt (by decide)) (by decide), show stepZ (kinM 3 1) 7 = 11 by decide, show (99 : Nat) = 98 + 1 by rfl, fallZ_go (fit_of_lt (by decide)) (by decide), show stepZ (kinM 3 1) 11 = 17 by decide,
    show (98 : Nat) = 97 + 1 by rfl, fallZ_go (fit_of_lt (by decide)) (by decide), show stepZ (kinM 3 1) 17 = 26 by decide, show (97 : Nat) = 96 + 1 by rfl, fallZ_go (fit_of_lt (by decide)) (by decide), show stepZ (kinM 3 1) 26 = 13 by decide,
    show (96 : Nat) = 95 + 1 by rfl, fallZ_go (fit_of_lt (by decide)) (by decide), show stepZ (kinM 3 1) 13 = 20 by decide, show (95 : Nat) = 94 + 1 by rfl, fallZ_go (fit_of_lt (by decide)) (by decide), show stepZ (kinM 3 1) 20 = 10 by decide,
    show (94 : Nat) = 93 + 1 by rfl, fallZ_yes (fit_of_lt (by decide)) (by decide), show stepZ (kinM 3 1) 10 = 5 by decide]
theorem txt_ex : [7, 11, 17, 26, 13, 20].map txt = [⟨#[55]⟩, ⟨#[49, 49]⟩, ⟨#[49, 55]⟩, ⟨#[50, 54]⟩, ⟨#[49, 51]⟩, ⟨#[50, 48]⟩] := by
  simp [txt, txtL, decs, strN]
  exact ⟨rfl, rfl, rfl, rfl, rfl, rfl⟩
theorem txt5_ex : txt 5 = ⟨#[53]⟩ := by
  simp [txt, txtL, decs, strN]
  rfl
theorem orbS_ex : (orbS (kinM 3 1) ⟨#[55]⟩ 5).map txt = [⟨#[55]⟩, ⟨#[49, 49]⟩, ⟨#[49, 55]⟩, ⟨#[50, 54]⟩, ⟨#[49, 51]⟩, ⟨#[50, 48]⟩] := by
  unfold orbS
  rw [numS_ex, show (5 : Int).toNat = 5 by rfl, run_ex, if_pos ⟨okM_ex, okS_ex, by decide, by decide, fit_of_lt (by decide)⟩, orb_ex]
  exact txt_ex
theorem orbE_ex : orbE (kinM 3 1) ⟨#[55]⟩ 5 = 0 := by
  unfold orbE
  rw [numS_ex, show (5 : Int).toNat = 5 by rfl, run_ex, if_pos ⟨okM_ex, okS_ex⟩, if_pos (by decide), if_pos (fit_of_lt (by decide))]
theorem fallF_ex : fallF (kinM 3 1) ⟨#[55]⟩ 100 = (7, 5, 0) := by
  unfold fallF
  rw [numS_ex]
  exact fall_ex
theorem fallK_ex : fallK (kinM 3 1) ⟨#[55]⟩ 100 = 7 := by
  unfold fallK
  rw [if_pos ⟨okM_ex, okS_ex, by decide, by decide⟩, fallF_ex]
theorem fallT_ex : fallT (kinM 3 1) ⟨#[55]⟩ 100 = ⟨#[53]⟩ := by
  unfold fallT
  rw [fallF_ex, if_pos ⟨okM_ex, okS_ex, by decide, by decide, rfl⟩]
  exact txt5_ex
theorem fallE_ex : fallE (kinM 3 1) ⟨#[55]⟩ 100 = 0 := by
  unfold fallE
  rw [if_pos ⟨okM_ex, okS_ex⟩, if_pos (by decide), fallF_ex]
theorem ss_as {a b : List ByteArray} (h : a = b) : AV.sl 1 (sbs a) = AV.sl 1 (sbs b) := by rw [h]
theorem str_as {a b : ByteArray} (h : a = b) : AV.lit (.string a) = AV.lit (.string b) := by rw [h]
/-- The reference's orbit and the program's. -/
theorem orbZ_last {m : MapM} : ∀ (k : Nat) (z : Int), (orbZ m k z).getD ((orbZ m k z).length - 1) 0 = runZ m k z ∧ 0 < (orbZ m k z).length
  | 0, z => by simp [orbZ, runZ]
  | k + 1, z => by
    by_cases h : Fit z
    · rw [orbZ, if_pos h, runZ, if_pos h]
      obtain ⟨h1, h2⟩ := orbZ_last k (stepZ m z) (m := m)
      refine ⟨?_, by simp⟩
      rw [← h1]
      simp only [List.length_cons, Nat.add_sub_cancel]
      obtain ⟨j, hj⟩ : ∃ j, (orbZ m k (stepZ m z)).length = j + 1 := ⟨(orbZ m k (stepZ m z)).length - 1, by omega⟩
      rw [hj]
      simp
    · rw [orbZ, if_neg h, runZ, if_neg h]; simp
theorem orbZ_len {m : MapM} : ∀ (k : Nat) (z : Int), (orbZ m k z).length ≤ k + 1
  | 0, z => by simp [orbZ]
  | k + 1, z => by
    rw [orbZ]
    split
    · simp [orbZ_len k]
    · simp
theorem map_getD {l : List Int} {i : Nat} (h : i < l.length) : (l.map txt).getD i { data := #[] } = txt (l.getD i 0) := by simp [List.getD_eq_getElem?_getD, List.getElem?_eq_getElem h]
theorem unformed {m : MapM} {a : ByteArray} (h : (!(okM m && okS a)) = true) : ¬ (okM m = true ∧ okS a = true) := by
  intro ⟨h1, h2⟩
  rw [h1, h2] at h
  cases h
theorem formed2 {m : MapM} {a : ByteArray} (h : (!(okM m && okS a)) = false) : okM m = true ∧ okS a = true := by simpa using h
theorem orbS_no {m : MapM} {a : ByteArray} {K : Int} (h : ¬ (okM m = true ∧ okS a = true ∧ 0 ≤ K ∧ K ≤ 1000 ∧ Fit (runZ m K.toNat (numS a)))) : (orbS m a K).map txt = [] := by unfold orbS; rw [if_neg h]; rfl
theorem orbS_yes {m : MapM} {a : ByteArray} {K : Int} (h : okM m = true ∧ okS a = true ∧ 0 ≤ K ∧ K ≤ 1000 ∧ Fit (runZ m K.toNat (numS a))) : orbS m a K = orbZ m K.toNat (numS a) := by unfold orbS; rw [if_pos h]
theorem orbE_1 {m : MapM} {a : ByteArray} {K : Int} (h : ¬ (okM m = true ∧ okS a = true)) : orbE m a K = 1 := by unfold orbE; rw [if_neg h]
theorem orbE_2 {m : MapM} {a : ByteArray} {K : Int} (h : okM m = true ∧ okS a = true) (h2 : ¬ (0 ≤ K ∧ K ≤ 1000)) : orbE m a K = 2 := by unfold orbE; rw [if_pos h, if_neg h2]
theorem orbE_3 {m : MapM} {a : ByteArray} {K : Int} (h : okM m = true ∧ okS a = true) (h2 : 0 ≤ K ∧ K ≤ 1000) (h3 : ¬ Fit (runZ m K.toNat (numS a))) : orbE m a K = 3 := by unfold orbE; rw [if_pos h, if_pos h2, if_neg h3]
theorem orbE_0 {m : MapM} {a : ByteArray} {K : Int} (h : okM m = true ∧ okS a = true) (h2 : 0 ≤ K ∧ K ≤ 1000) (h3 : Fit (runZ m K.toNat (numS a))) : orbE m a K = 0 := by unfold orbE; rw [if_pos h, if_pos h2, if_pos h3]
theorem runZ_len {m : MapM} (hm : OkM m) : ∀ (k : Nat) {z : Int}, (digs z.natAbs).length ≤ 1000 → (digs (runZ m k z).natAbs).length ≤ 1000
  | 0, z, h => h
  | k + 1, z, h => by
    rw [runZ]
    split
    · rename_i hf
      exact runZ_len hm k (by have := step_len hm (fit_len hf) (by decide); omega)
    · exact h
theorem orbZ_lens {m : MapM} (hm : OkM m) : ∀ (k : Nat) {z : Int} (i : Nat), (digs z.natAbs).length ≤ 1000 → (digs ((orbZ m k z).getD i 0).natAbs).length ≤ 1000
  | 0, z, i, h => by
    cases i with
    | zero => simpa [orbZ] using h
    | succ i => simp [orbZ, digs_zero]
  | k + 1, z, i, h => by
    rw [orbZ]
    split
    · rename_i hf
      cases i with
      | zero => simpa using h
      | succ i => simpa using orbZ_lens hm k i (by have := step_len hm (fit_len hf) (by decide); omega)
    · cases i with
      | zero => simpa using h
      | succ i => simp [digs_zero]
theorem fallK_no {m : MapM} {a : ByteArray} {K : Int} (h : ¬ (okM m = true ∧ okS a = true ∧ 1 ≤ K ∧ K ≤ 20000)) : fallK m a K = 0 := by unfold fallK; rw [if_neg h]
theorem fallT_no {m : MapM} {a : ByteArray} {K : Int} (h : ¬ (okM m = true ∧ okS a = true ∧ 1 ≤ K ∧ K ≤ 20000)) : fallT m a K = { data := #[] } := by unfold fallT; rw [if_neg (fun k => h ⟨k.1, k.2.1, k.2.2.1, k.2.2.2.1⟩)]
theorem fallE_1 {m : MapM} {a : ByteArray} {K : Int} (h : ¬ (okM m = true ∧ okS a = true)) : fallE m a K = 1 := by unfold fallE; rw [if_neg h]
theorem fallE_2 {m : MapM} {a : ByteArray} {K : Int} (h : okM m = true ∧ okS a = true) (h2 : ¬ (1 ≤ K ∧ K ≤ 20000)) : fallE m a K = 2 := by unfold fallE; rw [if_pos h, if_neg h2]
theorem fallE_e {m : MapM} {a : ByteArray} {K : Int} (h : okM m = true ∧ okS a = true) (h2 : 1 ≤ K ∧ K ≤ 20000) : fallE m a K = (fallZ m (numS a) K.toNat (numS a) 1).2.2 := by unfold fallE fallF; rw [if_pos h, if_pos h2]
theorem fallK_e {m : MapM} {a : ByteArray} {K : Int} (h : okM m = true ∧ okS a = true) (h2 : 1 ≤ K ∧ K ≤ 20000) : fallK m a K = (fallZ m (numS a) K.toNat (numS a) 1).1 := by unfold fallK fallF; rw [if_pos ⟨h.1, h.2, h2⟩]
theorem fallT_yes {m : MapM} {a : ByteArray} {K : Int} (h : okM m = true ∧ okS a = true) (h2 : 1 ≤ K ∧ K ≤ 20000) (h3 : (fallZ m (numS a) K.toNat (numS a) 1).2.2 = 0) : fallT m a K = txt (fallZ m (numS a) K.toNat (numS a) 1).2.1 := by unfold fallT fallF; rw [if_pos ⟨h.1, h.2, h2.1, h2.2, h3⟩]
theorem fallT_err {m : MapM} {a : ByteArray} {K : Int} (h3 : (fallZ m (numS a) K.toNat (numS a) 1).2.2 ≠ 0) : fallT m a K = { data := #[] } := by unfold fallT fallF; rw [if_neg (fun k => h3 k.2.2.2.2)]
theorem fallZ_err {m : MapM} {n : Int} : ∀ (k : Nat) (x : Int) (i : Nat), (fallZ m n k x i).2.2 ≠ 0 → (fallZ m n k x i).1 = 0
  | 0, x, i, _ => rfl
  | k + 1, x, i, h => by
    rw [fallZ] at h ⊢
    split
    · rename_i hf
      rw [if_pos hf] at h
      split
      · rename_i hl
        rw [if_pos hl] at h
        exact absurd rfl h
      · rename_i hl
        rw [if_neg hl] at h
        exact fallZ_err k _ _ h
    · rfl
theorem fallZ_len {m : MapM} (hm : OkM m) {n : Int} : ∀ (k : Nat) {x : Int} (i : Nat), (digs x.natAbs).length ≤ 1000 → (digs (fallZ m n k x i).2.1.natAbs).length ≤ 1000
  | 0, x, i, h => by rw [fallZ]; simp [digs_zero]
  | k + 1, x, i, h => by
    rw [fallZ]
    split
    · rename_i hf
      have hl := fit_len hf
      split
      · show (digs (stepZ m x).natAbs).length ≤ 1000
        omega
      · exact fallZ_len hm k _ (by omega)
    · simp [digs_zero]
theorem runZ_fit {m : MapM} {j : Nat} : ∀ {z : Int}, Fit (runZ m j z) → ∀ k, runZ m k (runZ m j z) = runZ m (j + k) z := by
  induction j with
  | zero => intro z h k; rw [Nat.zero_add]; rfl
  | succ j ih =>
    intro z h k
    by_cases hz : Fit z
    · rw [runZ, if_pos hz] at h ⊢
      rw [ih h k, show j + 1 + k = (j + k) + 1 by omega, runZ, if_pos hz]
    · rw [runZ, if_neg hz] at h
      exact absurd h hz
theorem runZ_stuck {m : MapM} {j : Nat} : ∀ {z : Int}, ¬ Fit (runZ m j z) → ∀ k, runZ m (j + k) z = runZ m j z := by
  induction j with
  | zero => intro z h k; rw [Nat.zero_add]; exact runZ_bad h k
  | succ j ih =>
    intro z h k
    by_cases hz : Fit z
    · rw [runZ, if_pos hz] at h ⊢
      rw [show j + 1 + k = (j + k) + 1 by omega, runZ, if_pos hz]
      exact ih h k
    · rw [show j + 1 + k = (j + k) + 1 by omega, runZ, if_neg hz, runZ, if_neg hz]
theorem runS_1 {m : MapM} {a : ByteArray} {K : Int} (h : ¬ (okM m = true ∧ okS a = true)) : runS m a K = { data := #[] } := by unfold runS; rw [if_neg (fun k => h ⟨k.1, k.2.1⟩)]
theorem runS_2 {m : MapM} {a : ByteArray} {K : Int} (h : ¬ (0 ≤ K ∧ K ≤ 20000)) : runS m a K = { data := #[] } := by unfold runS; rw [if_neg (fun k => h k.2.2)]
theorem runS_e {m : MapM} {a : ByteArray} {K : Int} (h : okM m = true ∧ okS a = true) (h2 : 0 ≤ K ∧ K ≤ 20000) : runS m a K = toldS (runZ m K.toNat (numS a)) := by unfold runS; rw [if_pos ⟨h.1, h.2, h2⟩]
theorem runE_1 {m : MapM} {a : ByteArray} {K : Int} (h : ¬ (okM m = true ∧ okS a = true)) : runE m a K = 1 := by unfold runE; rw [if_neg h]
theorem runE_2 {m : MapM} {a : ByteArray} {K : Int} (h : okM m = true ∧ okS a = true) (h2 : ¬ (0 ≤ K ∧ K ≤ 20000)) : runE m a K = 2 := by unfold runE; rw [if_pos h, if_neg h2]
theorem runE_e {m : MapM} {a : ByteArray} {K : Int} (h : okM m = true ∧ okS a = true) (h2 : 0 ≤ K ∧ K ≤ 20000) : runE m a K = toldE (runZ m K.toNat (numS a)) := by unfold runE; rw [if_pos h, if_pos h2]
theorem toldS_no {z : Int} (h : ¬ Fit z) : toldS z = { data := #[] } := by unfold toldS; rw [if_neg h]
theorem toldS_yes {z : Int} (h : Fit z) : toldS z = txt z := by unfold toldS; rw [if_pos h]
theorem toldE_no {z : Int} (h : ¬ Fit z) : toldE z = 3 := by unfold toldE; rw [if_neg h]
theorem toldE_yes {z : Int} (h : Fit z) : toldE z = 0 := by unfold toldE; rw [if_pos h]
theorem toldE_ne {z : Int} (h : toldE z ≠ 0) : ¬ Fit z := fun hf => h (toldE_yes hf)
theorem toldE_eq {z : Int} (h : ¬ toldE z ≠ 0) : Fit z := Decidable.byContradiction fun hf => h (by rw [toldE_no hf]; decide)
theorem run_one {m : MapM} {a : ByteArray} (ha : OkS a) : runZ m (1 : Int).toNat (numS a) = stepZ m (numS a) := by rw [show (1 : Int).toNat = 0 + 1 by rfl, runZ, if_pos (fit_numS ha)]; rfl
theorem txt_sz {z : Int} (h : Fit z) : (txt z).size ≤ 9223372036854775807 := by
  obtain ⟨h1, h2, _⟩ := okS_txt h
  have : sgnAt (txt z) ≤ 1 := by unfold sgnAt; split <;> omega
  omega
theorem runS_txt {m : MapM} {z : Int} {L : Int} (hm : okM m = true) (hz : Fit z) (h2 : 0 ≤ L ∧ L ≤ 20000) : runS m (txt z) L = toldS (runZ m L.toNat z) ∧ runE m (txt z) L = toldE (runZ m L.toNat z) := by
  have ho := okS_iff.2 (okS_txt hz)
  constructor
  · rw [runS_e ⟨hm, ho⟩ h2, numS_txt]
  · rw [runE_e ⟨hm, ho⟩ h2, numS_txt]
theorem E0_app : ({ data := #[] } : ByteArray) ++ ({ data := #[] } : ByteArray) = { data := #[] } := by decide
end Go.Mth
