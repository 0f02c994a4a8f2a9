/- The library's two functions, at the values that the program hands them. -/
import Derived.Test.YtkngglpnejdicaaDoorCx
set_option linter.unusedVariables false
set_option linter.unusedSimpArgs false
namespace Go.Mth
open Go.Ab
theorem decDigits_decs (u : Nat) : Lib.decDigits u = (if u = 0 then [48] else (decs u).reverse).map UInt8.ofNat := by
  induction u using Nat.strongRecOn with
  | _ u ih =>
    rw [Lib.decDigits]
    split
    · rename_i h
      by_cases h0 : u = 0
      · subst h0; simp
      · rw [if_neg h0, decs_pos (by omega), show u / 10 = 0 by omega, decs_zero, show u % 10 = u by omega]; simp
    · rename_i h
      rw [ih (u / 10) (by omega), if_neg (by omega), if_neg (by omega), decs_pos (n := u) (by omega)]
      simp
theorem itoa_txt (x : Nat) : (⟨(Lib.itoa (x : Int)).toArray⟩ : ByteArray) = txt x := by
  unfold Lib.itoa txt txtL strN strOfNums
  rw [if_neg (by omega), Int.toNat_natCast, decDigits_decs]
  by_cases h : x = 0
  · subst h; rfl
  · rw [if_neg h, if_neg (by omega), if_neg (by omega)]
    simp
theorem parse_ok (a : ByteArray) (h : ∀ i, i < a.size → 48 ≤ byt a i ∧ byt a i ≤ 57) (h9 : a.size ≤ 9) : ∀ (l : List UInt8) (s : Nat), a.data.toList.drop s = l → s + l.length = a.size → Lib.parseUintM 4294967295 (dvk a 0 s) l = .ok (dvk a 0 a.size) := by
  intro l
  induction l with
  | nil =>
    intro s hd hs
    rw [Lib.parseUintM, show s = a.size by simpa using hs]
  | cons c r ih =>
    intro s hd hs
    simp only [List.length_cons] at hs
    have hc : byt a s = c.toNat := by
      unfold byt
      have := congrArg (·[0]?) hd
      simp only [List.getElem?_drop, Nat.add_zero, List.getElem?_cons_zero] at this
      rw [List.getD_eq_getElem?_getD, this]; rfl
    have hb := h s (by omega)
    rw [hc] at hb
    have hlt := dvk_lt (a := a) (s := 0) (k := s + 1) fun i _ hi => h i (by omega)
    have hp : 10 ^ (s + 1) ≤ 10 ^ 9 := Nat.pow_le_pow_right (by decide) (by omega)
    have e : dvk a 0 (s + 1) = dvk a 0 s * 10 + (c.toNat - 48) := by rw [dvk, Nat.zero_add, hc]; omega
    rw [Lib.parseUintM, if_pos hb, if_neg (by omega), if_neg (by omega), ← e]
    refine ih (s + 1) ?_ (by omega)
    have := congrArg (List.drop 1) hd
    simpa using this
end Go.Mth
namespace Go.Proofs.YtkngglpnejdicaaDoor
open Go Go.Ab Go.Mth
theorem c_itoa (x : Nat) (hx : x ≤ 9223372036854775807) : ECalls cx 102 [nm .i64 x] (.lit (.string (txt x))) := by
  intro H L vals w hG hH hr
  simp only [RepL, RepV, nm] at hr
  obtain ⟨v, r, rfl, rfl, rfl⟩ := hr
  refine (Tryd.strconv_Itoa (x : Int) (by omega) (by omega) w (tabIs hG hH)).mono ?_
  rintro e w' ⟨rfl, k, os, rfl⟩
  have hold : ∀ b, b < w.heap.size → (Sort.grow (w.drewN k) os).heap[b]? = w.heap[b]? := fun b hb => by
    simp only [Sort.grow, World.drewN]
    rw [Array.getElem?_append_left hb]
  refine ⟨H, _, rfl, by simp only [RepV]; rw [itoa_txt], Ext.refl _ _, fun b o hb => ?_, ⟨rfl, rfl, rfl, by simp [Sort.grow, World.drewN], hold⟩⟩
  rw [hold b (Array.getElem?_eq_some_iff.1 (hH b o hb)).1]
  exact hH b o hb
theorem c_iparse (a : ByteArray) (h0 : 0 < a.size) (h9 : a.size ≤ 9) (h : ∀ i, i < a.size → 48 ≤ byt a i ∧ byt a i ≤ 57) : ECalls cx 110 [.lit (.string a), nm .i64 10, nm .i64 32] (.tup [nm .u64 (dvk a 0 a.size), .lit .nilIface]) := by
  intro H L vals w hG hH hr
  simp only [RepL, RepV, nm] at hr
  obtain ⟨_, _, rfl, rfl, _, _, rfl, rfl, _, _, rfl, rfl, rfl⟩ := hr
  refine (Tryd.internal_strconv_ParseUint_10_b32 a (by omega) (by omega) w).mono ?_
  rintro e w' ⟨rfl, rfl⟩
  have hbl := Lib.bytesWorld_below w 5 a
  refine ⟨H, _, rfl, ?_, Ext.refl _ _, fun b o hb => ?_, hbl⟩
  · have := parse_ok a h h9 a.data.toList 0 rfl (by simp)
    rw [dvk] at this
    rw [this]
    simp only [RepV, RepL, nm, Lib.uintTupleM]
    exact ⟨[_, _], rfl, _, _, rfl, rfl, _, _, rfl, rfl, rfl⟩
  · rw [hbl.block b (Array.getElem?_eq_some_iff.1 (hH b o hb)).1]
    exact hH b o hb
end Go.Proofs.YtkngglpnejdicaaDoor
