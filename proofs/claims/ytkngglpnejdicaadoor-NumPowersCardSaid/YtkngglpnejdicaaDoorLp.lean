/- The laws of the first chapter, in numbers. -/
import Derived.Test.YtkngglpnejdicaaDoorLk
set_option linter.unusedVariables false
set_option linter.unusedSimpArgs false
namespace Go.Mth
open Go.Ab
theorem toldE_or (z : Int) : toldE z = 0 ∧ Fit z ∨ toldE z = 3 ∧ ¬ Fit z := by
  by_cases h : Fit z
  · exact .inl ⟨(told_fit h).2, h⟩
  · exact .inr ⟨(told_big h).2, h⟩
theorem fit_pow_le {z : Int} {i j : Nat} (h : Fit (z ^ (i + j))) : Fit (z ^ i) := by
  by_cases hz : z = 0
  · subst hz
    cases i with
    | zero => rw [Int.pow_zero]; exact fit_tiny (by decide)
    | succ i => rw [Int.pow_succ, Int.mul_zero]; exact fit_tiny (by decide)
  · refine fit_le ?_ h
    rw [Int.natAbs_pow, Int.natAbs_pow]
    exact Nat.pow_le_pow_right (by omega) (by omega)
theorem powered {a : ByteArray} {m n : Int} (ha : okS a = true) (hm : 0 ≤ m) (hn : 0 ≤ n) (h : m + n ≤ 10000) :
    (powE a m = 0 ∨ powE a m = 3) ∧ (powE a n = 0 ∨ powE a n = 3) ∧ ((powE a m ≠ 0 ∨ powE a n ≠ 0) → powE a (m + n) = 3) ∧
    (powE a m = 0 → powE a n = 0 → (if okS (powS a m) && okS (powS a n) then toldS (numS (powS a m) * numS (powS a n)) else { data := #[] }) = powS a (m + n) ∧
      (if okS (powS a m) && okS (powS a n) then toldE (numS (powS a m) * numS (powS a n)) else 1) = powE a (m + n)) := by
  have p1 := pow_yes ha (n := m) ⟨hm, by omega⟩
  have p2 := pow_yes ha (n := n) ⟨hn, by omega⟩
  have p3 := pow_yes ha (n := m + n) ⟨by omega, h⟩
  rw [show (m + n).toNat = m.toNat + n.toNat by omega] at p3
  rw [p1.1, p1.2, p2.1, p2.2, p3.1, p3.2]
  have e1 := toldE_or (numS a ^ m.toNat)
  have e2 := toldE_or (numS a ^ n.toNat)
  refine ⟨by omega, by omega, fun hh => ?_, fun h1 h2 => ?_⟩
  · have hf : ¬ Fit (numS a ^ (m.toNat + n.toNat)) := fun hf => by
      have f1 := fit_pow_le hf
      have f2 : Fit (numS a ^ n.toNat) := fit_pow_le (j := m.toNat) (by rw [Nat.add_comm]; exact hf)
      rw [(told_fit f1).2, (told_fit f2).2] at hh
      omega
    exact (told_big hf).2
  · have f1 : Fit (numS a ^ m.toNat) := by rcases e1 with e | e; exact e.2; omega
    have f2 : Fit (numS a ^ n.toNat) := by rcases e2 with e | e; exact e.2; omega
    rw [(told_fit f1).1, (told_fit f2).1, okS_iff.2 (okS_txt f1), okS_iff.2 (okS_txt f2), numS_txt, numS_txt, Int.pow_add]
    exact ⟨rfl, rfl⟩
theorem sum_LR (z w : Int) : sumS (toldS z) (toldS w) = { data := #[] } ∨ sumS (toldS z) (toldS w) = toldS (z + w) := by
  rcases told_or z with ⟨_, h, e⟩ | ⟨_, _, h⟩
  · rcases told_or w with ⟨_, h', e'⟩ | ⟨_, _, h'⟩
    · rw [sum_yes h h', e, e']; exact .inr rfl
    · exact .inl (sum_no (.inr h'))
  · exact .inl (sum_no (.inl h))
theorem pro_LR (z w : Int) : proS (toldS z) (toldS w) = { data := #[] } ∨ proS (toldS z) (toldS w) = toldS (z * w) := by
  rcases told_or z with ⟨_, h, e⟩ | ⟨_, _, h⟩
  · rcases told_or w with ⟨_, h', e'⟩ | ⟨_, _, h'⟩
    · rw [pro_yes h h', e, e']; exact .inr rfl
    · exact .inl (pro_no (.inr h'))
  · exact .inl (pro_no (.inl h))
theorem told_self {a : ByteArray} (h : okS a = true) : toldS (numS a) = a := by rw [(told_fit (fit_numS (okS_iff.1 h))).1, txt_numS (okS_iff.1 h)]
theorem sum_L (z : Int) {c : ByteArray} (hc : okS c = true) : sumS (toldS z) c = { data := #[] } ∨ sumS (toldS z) c = toldS (z + numS c) := by have := sum_LR z (numS c); rwa [told_self hc] at this
theorem sum_R (z : Int) {c : ByteArray} (hc : okS c = true) : sumS c (toldS z) = { data := #[] } ∨ sumS c (toldS z) = toldS (numS c + z) := by have := sum_LR (numS c) z; rwa [told_self hc] at this
theorem pro_L (z : Int) {c : ByteArray} (hc : okS c = true) : proS (toldS z) c = { data := #[] } ∨ proS (toldS z) c = toldS (z * numS c) := by have := pro_LR z (numS c); rwa [told_self hc] at this
theorem pro_R (z : Int) {c : ByteArray} (hc : okS c = true) : proS c (toldS z) = { data := #[] } ∨ proS c (toldS z) = toldS (numS c * z) := by have := pro_LR (numS c) z; rwa [told_self hc] at this
theorem alike_of {x y : ByteArray} {u v : Int} (hx : x = { data := #[] } ∨ x = toldS u) (hy : y = { data := #[] } ∨ y = toldS v) (h : u = v) : alikeS x y := by
  rcases hx with hx | hx
  · exact .inl hx
  · rcases hy with hy | hy
    · exact .inr (.inl hy)
    · exact .inr (.inr (by rw [hx, hy, h]))
variable {a b c : ByteArray}
theorem ring1 (ha : okS a = true) (hb : okS b = true) : sumS a b = sumS b a ∧ proS a b = proS b a := by
  rw [sum_yes ha hb, sum_yes hb ha, pro_yes ha hb, pro_yes hb ha, Int.add_comm, Int.mul_comm]; exact ⟨rfl, rfl⟩
theorem ring2 (ha : okS a = true) (hb : okS b = true) (hc : okS c = true) : alikeS (sumS (sumS a b) c) (sumS a (sumS b c)) ∧ alikeS (proS (proS a b) c) (proS a (proS b c)) := by
  rw [sum_yes ha hb, sum_yes hb hc, pro_yes ha hb, pro_yes hb hc]
  exact ⟨alike_of (sum_L _ hc) (sum_R _ ha) (Int.add_assoc _ _ _), alike_of (pro_L _ hc) (pro_R _ ha) (Int.mul_assoc _ _ _)⟩
theorem ring3 (ha : okS a = true) (hb : okS b = true) (hc : okS c = true) : alikeS (proS a (sumS b c)) (sumS (proS a b) (proS a c)) := by
  rw [sum_yes hb hc, pro_yes ha hb, pro_yes ha hc]
  exact alike_of (pro_R _ ha) (sum_LR _ _) (Int.mul_add _ _ _)
theorem ring4 (ha : okS a = true) (hb : okS b = true) (h : (if okS a && okS b then toldE (numS a + numS b) else 1) = 0) :
    (if okS (if okS a && okS b then toldS (numS a + numS b) else { data := #[] }) && okS b then toldE (numS (if okS a && okS b then toldS (numS a + numS b) else { data := #[] }) - numS b) else 1) = 0 ∧
    (if okS (if okS a && okS b then toldS (numS a + numS b) else { data := #[] }) && okS b then toldS (numS (if okS a && okS b then toldS (numS a + numS b) else { data := #[] }) - numS b) else { data := #[] }) = a := by
  simp only [ha, hb, Bool.and_self, if_true] at h ⊢
  rcases told_or (numS a + numS b) with ⟨_, h1, e⟩ | ⟨h0, _, _⟩
  · rw [h1, e, Int.add_sub_cancel]
    have hf := fit_numS (okS_iff.1 ha)
    exact ⟨(told_fit hf).2, told_self ha⟩
  · rw [(told_big h0).2] at h; exact absurd h (by decide)
theorem ring5 (ha : okS a = true) (hb : okS b = true) (h : ¬ (if okS a && okS b then toldE (numS a + numS b) else 1) = 0) : (if okS a && okS b then toldE (numS a + numS b) else 1) = 3 := by
  rw [ha, hb] at *
  have := toldE_or (numS a + numS b)
  simp only [Bool.and_self, if_true] at *
  omega
/-- Orders. -/
theorem cmpZ_swap (x y : Int) : cmpZ x y = -cmpZ y x := by unfold cmpZ; repeat' split <;> omega
theorem cmpZ_bd (x y : Int) : -1 ≤ cmpZ x y ∧ cmpZ x y ≤ 1 := by unfold cmpZ; repeat' split <;> omega
theorem cmpZ_zero (x y : Int) : cmpZ x y = 0 ↔ x = y := by unfold cmpZ; constructor <;> (repeat' split) <;> omega
theorem cmpZ_sub (x y : Int) : cmpZ (x - y) 0 = cmpZ x y := by unfold cmpZ; repeat' split <;> omega
theorem cmpZ_add (x y z : Int) : cmpZ (x + z) (y + z) = cmpZ x y := by unfold cmpZ; repeat' split <;> omega
theorem ok_zero : okS ⟨#[48]⟩ = true ∧ numS ⟨#[48]⟩ = 0 := ok_of_txt txt_nil (by decide)
theorem order1 (ha : okS a = true) (hb : okS b = true) : (if okS a && okS b then cmpZ (numS a) (numS b) else 0) = -(if okS b && okS a then cmpZ (numS b) (numS a) else 0) := by
  rw [ha, hb]; exact cmpZ_swap _ _
theorem order2 (ha : okS a = true) (hb : okS b = true) : decide ((if okS a && okS b then cmpZ (numS a) (numS b) else 0) = (((0 : Nat) : Int))) = decide (a.toList = b.toList) := by
  rw [ha, hb]
  refine decide_eq_decide.2 ?_
  rw [str_eq]
  exact (cmpZ_zero _ _).trans ⟨fun h => numS_inj (okS_iff.1 ha) (okS_iff.1 hb) h, fun h => by rw [h]⟩
theorem order3 (ha : okS a = true) (hb : okS b = true) (h : (if okS a && okS b then toldE (numS a - numS b) else 1) = 0) :
    (if okS (if okS a && okS b then toldS (numS a - numS b) else { data := #[] }) && okS ⟨#[48]⟩ then 0 else 1) = 0 ∧
    (if okS (if okS a && okS b then toldS (numS a - numS b) else { data := #[] }) && okS ⟨#[48]⟩ then cmpZ (numS (if okS a && okS b then toldS (numS a - numS b) else { data := #[] })) (numS ⟨#[48]⟩) else 0) = (if okS a && okS b then cmpZ (numS a) (numS b) else 0) := by
  rw [ha, hb] at *
  simp only [Bool.and_self, if_true] at *
  rcases told_or (numS a - numS b) with ⟨_, h1, e⟩ | ⟨h0, _, _⟩
  · rw [h1, e, ok_zero.1, ok_zero.2]
    exact ⟨rfl, cmpZ_sub _ _⟩
  · rw [(told_big h0).2] at h; exact absurd h (by decide)
theorem order4 (ha : okS a = true) (hb : okS b = true) (hc : okS c = true) (h1 : ¬ sumS a c = { data := #[] }) (h2 : ¬ sumS b c = { data := #[] }) :
    (if okS (sumS a c) && okS (sumS b c) then 0 else 1) = 0 ∧ (if okS (sumS a c) && okS (sumS b c) then cmpZ (numS (sumS a c)) (numS (sumS b c)) else 0) = (if okS a && okS b then cmpZ (numS a) (numS b) else 0) := by
  rw [sum_yes ha hc] at *
  rw [sum_yes hb hc] at *
  rcases told_or (numS a + numS c) with ⟨_, k1, e1⟩ | ⟨_, h0, _⟩
  · rcases told_or (numS b + numS c) with ⟨_, k2, e2⟩ | ⟨_, h0, _⟩
    · rw [k1, k2, e1, e2, ha, hb]
      exact ⟨rfl, cmpZ_add _ _ _⟩
    · exact absurd h0 h2
  · exact absurd h0 h1
theorem divs_iff {d n : ByteArray} (hd : okS d = true) (hn : okS n = true) (h0 : 0 < numS d) : divsS d n ↔ numS d ∣ numS n := by
  have e := div_yes (a := n) (b := d) ⟨hn, hd⟩ h0
  unfold divsS
  rw [e.2.1, e.2.2, ← txt_nil]
  constructor
  · rintro ⟨_, h⟩; exact Int.dvd_of_emod_eq_zero (txt_inj h)
  · intro h; exact ⟨rfl, by rw [Int.emod_eq_zero_of_dvd h]⟩
noncomputable abbrev gG (a b : ByteArray) : ByteArray := if okS a && okS b then toldS ((Int.gcd (numS a) (numS b) : Nat) : Int) else { data := #[] }
theorem gcd_fit {x y : Int} (hx : Fit x) (hy : Fit y) : Fit ((Int.gcd x y : Nat) : Int) := by
  rcases Nat.eq_zero_or_pos x.natAbs with e | e
  · refine fit_le ?_ hy
    show Nat.gcd x.natAbs y.natAbs ≤ _
    rw [e, Nat.gcd_zero_left]
    exact Nat.le_refl _
  · exact fit_le (Nat.gcd_le_left y.natAbs e) hx
theorem gG_yes (ha : okS a = true) (hb : okS b = true) : gG a b = txt ((Int.gcd (numS a) (numS b) : Nat) : Int) ∧ okS (gG a b) = true ∧ numS (gG a b) = ((Int.gcd (numS a) (numS b) : Nat) : Int) := by
  have hf := gcd_fit (fit_numS (okS_iff.1 ha)) (fit_numS (okS_iff.1 hb))
  have e : gG a b = txt ((Int.gcd (numS a) (numS b) : Nat) : Int) := by
    unfold gG
    rw [ha, hb]
    exact (told_fit hf).1
  rw [e]
  exact ⟨rfl, okS_iff.2 (okS_txt hf), numS_txt _⟩
theorem dvs1 (ha : okS a = true) (hb : okS b = true) : (if okS a && okS b then toldE ((Int.gcd (numS a) (numS b) : Nat) : Int) else 1) = 0 := by
  rw [ha, hb]
  exact (told_fit (gcd_fit (fit_numS (okS_iff.1 ha)) (fit_numS (okS_iff.1 hb)))).2
theorem dvs2 (ha : okS a = true) (hb : okS b = true) (h : gG a b = ⟨#[48]⟩) : a = ⟨#[48]⟩ ∧ b = ⟨#[48]⟩ := by
  have g := (gG_yes ha hb).2.2
  rw [h, ok_zero.2] at g
  have g0 : Nat.gcd (numS a).natAbs (numS b).natAbs = 0 := by
    have : Int.gcd (numS a) (numS b) = 0 := by omega
    exact this
  have h1 := Nat.eq_zero_of_gcd_eq_zero_left g0
  have h2 := Nat.eq_zero_of_gcd_eq_zero_right g0
  exact ⟨numS_inj (okS_iff.1 ha) (okS_iff.1 ok_zero.1) (by rw [ok_zero.2]; omega), numS_inj (okS_iff.1 hb) (okS_iff.1 ok_zero.1) (by rw [ok_zero.2]; omega)⟩
theorem gG_pos (ha : okS a = true) (hb : okS b = true) (h : ¬ gG a b = ⟨#[48]⟩) : 0 < numS (gG a b) := by
  have g := gG_yes ha hb
  rcases Nat.eq_zero_or_pos (Int.gcd (numS a) (numS b)) with e | e
  · exact absurd (by rw [g.1, e]; exact txt_nil) h
  · rw [g.2.2]; omega
theorem dvs3 (ha : okS a = true) (hb : okS b = true) (h : ¬ gG a b = ⟨#[48]⟩) : divsS (gG a b) a ∧ divsS (gG a b) b := by
  have g := gG_yes ha hb
  have h0 := gG_pos ha hb h
  refine ⟨(divs_iff g.2.1 ha h0).2 ?_, (divs_iff g.2.1 hb h0).2 ?_⟩
  · rw [g.2.2]; exact Int.natAbs_dvd_natAbs.1 (show Nat.gcd (numS a).natAbs (numS b).natAbs ∣ _ from Nat.gcd_dvd_left _ _)
  · rw [g.2.2]; exact Int.natAbs_dvd_natAbs.1 (show Nat.gcd (numS a).natAbs (numS b).natAbs ∣ _ from Nat.gcd_dvd_right _ _)
theorem dvs4 (ha : okS a = true) (hb : okS b = true) (hc : okS c = true) (h0 : 0 < numS c) (h1 : divsS c a) (h2 : divsS c b) : divsS c (gG a b) := by
  have g := gG_yes ha hb
  refine (divs_iff hc g.2.1 h0).2 ?_
  rw [g.2.2]
  exact Int.natAbs_dvd_natAbs.1 (show _ ∣ Nat.gcd (numS a).natAbs (numS b).natAbs from Nat.dvd_gcd (Int.natAbs_dvd_natAbs.2 ((divs_iff hc ha h0).1 h1)) (Int.natAbs_dvd_natAbs.2 ((divs_iff hc hb h0).1 h2)))
end Go.Mth
