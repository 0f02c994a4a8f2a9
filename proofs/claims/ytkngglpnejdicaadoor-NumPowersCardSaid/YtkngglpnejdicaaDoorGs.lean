/- The reference's division: a guess that goes into the number, and what is left. -/
import Derived.Test.YtkngglpnejdicaaDoorLp
set_option linter.unusedVariables false
set_option linter.unusedSimpArgs false
namespace Go.Ab
theorem Wk.cells {C : Ctx} {n : Nat} {σ : St} {i ty : Nat} {cs cs' : List AV} (hs : lookO σ.objs i = some (.var ty cs)) (hl : LeL cs cs') : Wk C n σ ⟨σ.slots, (i, .var ty cs') :: σ.objs⟩ := fun w0 H L a w hr => by
  have conv : ∀ j o, lookO ((i, .var ty cs') :: σ.objs) j = some o → (j = i ∧ o = .var ty cs') ∨ (j ≠ i ∧ σ.sem.μ j = some o) := fun j o ho => by
    simp only [lookO] at ho
    by_cases h2 : j = i
    · subst h2
      simp at ho
      exact .inl ⟨rfl, ho.symm⟩
    · rw [beq_ne (fun e => h2 e.symm)] at ho
      exact .inr ⟨h2, ho⟩
  have hi0 := hr.objs i (.var ty cs) hs
  refine ⟨H, L, Ext.refl _ _, ⟨hr.glob, hr.heap, hr.size, hr.slot, fun j o ho => ?_, fun j k o o' g x x' hjk hj hk => ?_, hr.below, hr.defers⟩⟩
  · rcases conv j o ho with ⟨rfl, rfl⟩ | ⟨h1, h2⟩
    · obtain ⟨g, vs, a1, a2, a3, a4, a5, a6⟩ := hi0
      exact ⟨g, vs, a1, a2, hl.rep a3, a4, a5, a6⟩
    · exact hr.objs j o h2
  · have conv' : ∀ j o, lookO ((i, .var ty cs') :: σ.objs) j = some o → ∃ o', σ.sem.μ j = some o' := fun j o ho => by
      rcases conv j o ho with ⟨rfl, rfl⟩ | ⟨h1, h2⟩
      · exact ⟨_, hs⟩
      · exact ⟨_, h2⟩
    obtain ⟨o1, h1⟩ := conv' j o hj
    obtain ⟨o2, h2⟩ := conv' k o' hk
    exact hr.apart j k o1 o2 g x x' hjk h1 h2
end Go.Ab
namespace Go.Mth
open Go.Ab
def gC (a b : Nat) : Prop := ((digs a).getD ((digs a).length - 1) 0) ≤ ((digs b).getD ((digs b).length - 1) 0) ∧ 0 < (digs a).length - (digs b).length
instance (a b : Nat) : Decidable (gC a b) := inferInstanceAs (Decidable ((digs a).getD ((digs a).length - 1) 0 ≤ ((digs b).getD ((digs b).length - 1) 0) ∧ 0 < (digs a).length - (digs b).length))
def gSh (a b : Nat) : Nat := if gC a b then (digs a).length - (digs b).length - 1 else (digs a).length - (digs b).length
def gTop (a b : Nat) : Nat := if gC a b then ((digs a).getD ((digs a).length - 1) 0) * 1000000000 + (digs a).getD ((digs a).length - 2) 0 else ((digs a).getD ((digs a).length - 1) 0)
def gQ (a b : Nat) : Nat := max (gTop a b / ((digs b).getD ((digs b).length - 1) 0 + 1)) 1
def guessN (a b : Nat) : Nat := 1000000000 ^ gSh a b * gQ a b
theorem top_lo {a : Nat} (h : 0 < (digs a).length) : ((digs a).getD ((digs a).length - 1) 0) * 1000000000 ^ ((digs a).length - 1) ≤ a := by
  have h1 := val_split (digs a) (j := (digs a).length - 1) (by omega)
  have h2 := val_drop_succ (xs := digs a) (j := (digs a).length - 1) (by omega)
  rw [val_drop_all (xs := digs a) (j := (digs a).length - 1 + 1) (by omega), Nat.mul_zero, Nat.add_zero] at h2
  rw [val_digs, h2] at h1
  rw [Nat.mul_comm]
  omega
theorem top_hi {a : Nat} (h : 0 < (digs a).length) : a < ((digs a).getD ((digs a).length - 1) 0 + 1) * 1000000000 ^ ((digs a).length - 1) := by
  have h1 := val_split (digs a) (j := (digs a).length - 1) (by omega)
  have h2 := val_drop_succ (xs := digs a) (j := (digs a).length - 1) (by omega)
  rw [val_drop_all (xs := digs a) (j := (digs a).length - 1 + 1) (by omega), Nat.mul_zero, Nat.add_zero] at h2
  rw [val_digs, h2] at h1
  have h3 := val_lt ((digs_dig a).take ((digs a).length - 1))
  rw [List.length_take, Nat.min_eq_left (by omega)] at h3
  rw [Nat.add_mul, Nat.one_mul, Nat.mul_comm]
  omega
theorem top2_lo {a : Nat} (h : 2 ≤ (digs a).length) : ((digs a).getD ((digs a).length - 1) 0 * 1000000000 + (digs a).getD ((digs a).length - 2) 0) * 1000000000 ^ ((digs a).length - 2) ≤ a := by
  have h1 := val_split (digs a) (j := (digs a).length - 2) (by omega)
  have h2 := val_drop_succ (xs := digs a) (j := (digs a).length - 1) (by omega)
  rw [val_drop_all (xs := digs a) (j := (digs a).length - 1 + 1) (by omega), Nat.mul_zero, Nat.add_zero] at h2
  have h3 := val_drop_succ (xs := digs a) (j := (digs a).length - 2) (by omega)
  rw [show (digs a).length - 2 + 1 = (digs a).length - 1 by omega, h2] at h3
  rw [val_digs, h3] at h1
  rw [Nat.mul_comm, Nat.add_comm (_ * _), Nat.mul_comm ((digs a).getD ((digs a).length - 1) 0)]
  omega
theorem top_pos {a : Nat} (h : 0 < (digs a).length) : 0 < ((digs a).getD ((digs a).length - 1) 0) := by
  have h1 := val_drop_pos (n := a) (j := (digs a).length - 1) (by omega)
  have h2 := val_drop_succ (xs := digs a) (j := (digs a).length - 1) (by omega)
  rw [val_drop_all (xs := digs a) (j := (digs a).length - 1 + 1) (by omega), Nat.mul_zero, Nat.add_zero] at h2
  omega
theorem digs_pos_len {a : Nat} (h : 0 < a) : 0 < (digs a).length := by
  rcases Nat.eq_zero_or_pos ((digs a).length) with e | e
  · have := digs_len_zero.1 e; omega
  · exact e
theorem guess_le {a b : Nat} (hb : 0 < b) (hab : b ≤ a) : 1 ≤ guessN a b ∧ guessN a b * b ≤ a := by
  have hlb := digs_pos_len hb
  have hla := digs_pos_len (show 0 < a by omega)
  have hll : (digs b).length ≤ (digs a).length := digs_len_le hab
  have hq1 : 1 ≤ gQ a b := Nat.le_max_right _ _
  have hbh := top_hi hlb
  refine ⟨?_, ?_⟩
  · have := Nat.mul_le_mul (show 1 ≤ 1000000000 ^ gSh a b from Nat.pow_pos (by decide)) hq1
    unfold guessN; omega
  · have htop : gTop a b * 1000000000 ^ (gSh a b + ((digs b).length - 1)) ≤ a := by
      unfold gTop gSh
      split
      · rename_i h
        have := h.2
        rw [show (digs a).length - (digs b).length - 1 + ((digs b).length - 1) = (digs a).length - 2 by omega]
        exact top2_lo (by omega)
      · rw [show (digs a).length - (digs b).length + ((digs b).length - 1) = (digs a).length - 1 by omega]
        exact top_lo hla
    by_cases hc : ((digs b).getD ((digs b).length - 1) 0) + 1 ≤ gTop a b
    · have hq : gQ a b * ((digs b).getD ((digs b).length - 1) 0 + 1) ≤ gTop a b := by
        have h1 : 1 ≤ gTop a b / ((digs b).getD ((digs b).length - 1) 0 + 1) := Nat.div_pos hc (by omega)
        have h2 : gQ a b = gTop a b / ((digs b).getD ((digs b).length - 1) 0 + 1) := Nat.max_eq_left h1
        rw [h2]; exact Nat.div_mul_le_self _ _
      refine Nat.le_trans ?_ htop
      unfold guessN
      calc 1000000000 ^ gSh a b * gQ a b * b ≤ 1000000000 ^ gSh a b * gQ a b * (((digs b).getD ((digs b).length - 1) 0 + 1) * 1000000000 ^ ((digs b).length - 1)) := Nat.mul_le_mul_left _ (Nat.le_of_lt hbh)
        _ = (gQ a b * ((digs b).getD ((digs b).length - 1) 0 + 1)) * 1000000000 ^ (gSh a b + ((digs b).length - 1)) := by
          rw [Nat.pow_add, Nat.mul_comm (1000000000 ^ gSh a b) (gQ a b), Nat.mul_assoc, Nat.mul_assoc, Nat.mul_left_comm (1000000000 ^ gSh a b)]
        _ ≤ gTop a b * 1000000000 ^ (gSh a b + ((digs b).length - 1)) := Nat.mul_le_mul_right _ hq
    · have hnc : ¬ gC a b := fun h => by
        have ht : gTop a b = ((digs a).getD ((digs a).length - 1) 0) * 1000000000 + (digs a).getD ((digs a).length - 2) 0 := if_pos h
        have := top_pos hla
        have hbt := Dig.getD (digs_dig b) ((digs b).length - 1)
        omega
      have ht : gTop a b = ((digs a).getD ((digs a).length - 1) 0) := if_neg hnc
      have hsh : gSh a b = 0 := by
        unfold gSh
        rw [if_neg hnc]
        rcases Nat.eq_zero_or_pos ((digs a).length - (digs b).length) with e | e
        · exact e
        · exact absurd ⟨by omega, e⟩ hnc
      have hq : gQ a b = 1 := by
        unfold gQ
        rw [Nat.div_eq_of_lt (by omega)]
        rfl
      unfold guessN
      rw [hsh, hq]
      omega
theorem gTop_lt (a b : Nat) : gTop a b < 1000000000000000000 := by
  have h1 := Dig.getD (digs_dig a) ((digs a).length - 1)
  have h2 := Dig.getD (digs_dig a) ((digs a).length - 2)
  unfold gTop
  split <;> omega
theorem app_step {r L : List Nat} {x : Nat} (h : r ++ digs x = L) (hx : 0 < x) : (r ++ [x % 1000000000]) ++ digs (x / 1000000000) = L := by
  rw [← h, digs_pos hx]; simp
theorem app_end {r L : List Nat} {x : Nat} (h : r ++ digs x = L) (hx : ¬ 0 < x) : r = L := by
  rw [show x = 0 by omega, digs_zero, List.append_nil] at h; exact h
theorem val_guess (sh q : Nat) : val (List.replicate sh 0 ++ digs q) = 1000000000 ^ sh * q := by
  rw [val_app, val_repl, val_digs, List.length_replicate]; omega
theorem div_inv {X q g Y r : Nat} (hv : X = q * Y + r) (h : g * Y ≤ r) : X = (q + g) * Y + (r - g * Y) := by rw [Nat.add_mul]; omega
theorem div_fin {X q Y r : Nat} (hv : X = q * Y + r) (h : r < Y) : q = X / Y ∧ r = X % Y := by
  subst hv
  constructor
  · rw [Nat.mul_comm, Nat.mul_add_div (by omega), Nat.div_eq_of_lt h]; rfl
  · rw [Nat.mul_comm, Nat.mul_add_mod, Nat.mod_eq_of_lt h]
theorem absR (x : Int) : AV.agg [AV.lit (.bool false), .sl 1 (ns .i64 (digs x.natAbs))] = intR ((x.natAbs : Nat) : Int) :=
  intK_eq (bl_bp (b := false) ⟨fun h => (by cases h), fun h => (by omega)⟩) rfl
theorem sgn_zero {n : Nat} : sgn ((n : Nat) : Int) = 0 ↔ n = 0 := by unfold sgn; repeat' split <;> omega
theorem cmpZ_nn {y : Int} {r : Nat} (hy : 0 < y) : 0 ≤ cmpZ ((r : Nat) : Int) y ↔ y.natAbs ≤ r := by unfold cmpZ; repeat' split <;> omega
theorem sub_cast {g r : Nat} {y : Int} (h : g * y.natAbs ≤ r) (hy : 0 < y) : ((r : Nat) : Int) - ((g : Nat) : Int) * y = ((r - g * y.natAbs : Nat) : Int) := by
  rw [Int.natCast_sub h, Int.natCast_mul, show ((y.natAbs : Nat) : Int) = y by omega]
theorem len_gy {g r : Nat} {y : Int} (h : g * y.natAbs ≤ r) : (digs (((g : Nat) : Int) * y).natAbs).length ≤ (digs r).length := by
  rw [Int.natAbs_mul]
  exact digs_len_le h
theorem digs_one : digs 1 = [1] := by rw [digs_pos (by decide), show 1 / 1000000000 = 0 by rfl, digs_zero]
theorem pow0_objR (x : Int) (t : TypeId) : some (AO.var t [bp ((1 : Int) < 0), AV.sl 1 (ns .i64 (digs (1 : Int).natAbs))]) = some (AO.var t [bp (x ^ 0 < 0), AV.sl 1 (ns .i64 (digs (x ^ 0).natAbs))]) := by rw [Int.pow_zero]
theorem rp_ok {x y : Int} {n : Nat} (h : Fit (x ^ n)) (e : x ^ n = y) : AV.tup [intR (if Fit (x ^ n) then x ^ n else 0), bp (Fit (x ^ n))] = AV.tup [intR y, .lit (.bool true)] := by
  rw [if_pos h, e]
  exact tup_eq2 rfl (bl_bp (b := true) ⟨fun _ => by rw [← e]; exact h, fun _ => rfl⟩).symm
theorem rp_no {x : Int} {n : Nat} (h : ¬ Fit (x ^ n)) : AV.tup [intR (if Fit (x ^ n) then x ^ n else 0), bp (Fit (x ^ n))] = AV.tup [AV.agg [.lit (.bool false), .sl 1 (ns .i64 (digs 0))], .lit (.bool false)] := by
  rw [if_neg h]
  exact tup_eq2 (absR 0).symm (bl_bp (b := false) ⟨fun e => (by cases e), fun e => absurd e h⟩).symm
theorem sgn_zeroZ {x : Int} : sgn x = 0 ↔ x = 0 := by unfold sgn; repeat' split <;> omega
theorem cmpN_one {x : Nat} : cmpN x 1 = 0 ↔ x = 1 := by unfold cmpN; repeat' split <;> omega
theorem rp_zero {x : Int} {n : Nat} (h : sgn x = 0) (hn : 0 < n) : AV.tup [intR (if Fit (x ^ n) then x ^ n else 0), bp (Fit (x ^ n))] = AV.tup [intR x, .lit (.bool true)] := by
  have h0 := sgn_zeroZ.1 h
  subst h0
  have e : (0 : Int) ^ n = 0 := by
    obtain ⟨k, rfl⟩ : ∃ k, n = k + 1 := ⟨n - 1, by omega⟩
    rw [Int.pow_succ, Int.mul_zero]
  exact rp_ok (by rw [e]; exact fit_tiny (by decide)) e
theorem unit_pow {x : Int} (h : x.natAbs = 1) : ∀ k : Nat, x ^ (2 * k) = 1
  | 0 => Int.pow_zero x
  | k + 1 => by
    rw [show 2 * (k + 1) = 2 * k + 1 + 1 by omega, Int.pow_succ, Int.pow_succ, unit_pow h k, Int.one_mul]
    rcases Int.natAbs_eq x with e | e <;> rw [h] at e <;> rw [e] <;> rfl
theorem rp_odd {x : Int} {n : Nat} (h : cmpN x.natAbs 1 = 0) (hn : n % 2 = 1) : AV.tup [intR (if Fit (x ^ n) then x ^ n else 0), bp (Fit (x ^ n))] = AV.tup [intR x, .lit (.bool true)] := by
  have h1 := cmpN_one.1 h
  have e : x ^ n = x := by rw [show n = 2 * (n / 2) + 1 by omega, Int.pow_succ, unit_pow h1, Int.one_mul]
  exact rp_ok (by rw [e]; exact fit_tiny (by omega)) e
theorem rp_even {x : Int} {n : Nat} (h : cmpN x.natAbs 1 = 0) (hn : ¬ n % 2 = 1) : AV.tup [intR (if Fit (x ^ n) then x ^ n else 0), bp (Fit (x ^ n))] = AV.tup [intR 1, .lit (.bool true)] := by
  have h1 := cmpN_one.1 h
  have e : x ^ n = 1 := by rw [show n = 2 * (n / 2) by omega, unit_pow h1]
  exact rp_ok (by rw [e]; exact fit_tiny (by decide)) e
theorem rp_n0 (x : Int) : AV.tup [intR (if Fit (x ^ 0) then x ^ 0 else 0), bp (Fit (x ^ 0))] = AV.tup [intR 1, .lit (.bool true)] :=
  rp_ok (by rw [Int.pow_zero]; exact fit_tiny (by decide)) (Int.pow_zero x)
theorem rp_stop {x : Int} {n i : Nat} (h : ¬ Fit (x ^ (i + 1))) (hi : i < n) : AV.tup [intR (if Fit (x ^ n) then x ^ n else 0), bp (Fit (x ^ n))] = AV.tup [AV.agg [.lit (.bool false), .sl 1 (ns .i64 (digs 0))], .lit (.bool false)] :=
  rp_no fun hf => h (fit_pow_le (j := n - (i + 1)) (by rw [show i + 1 + (n - (i + 1)) = n by omega]; exact hf))
theorem rp_end {x : Int} {n i : Nat} (hf : Fit (x ^ i)) (hi : i = n) : AV.tup [intR (if Fit (x ^ n) then x ^ n else 0), bp (Fit (x ^ n))] = AV.tup [intR (x ^ i), .lit (.bool true)] := by
  subst hi; exact rp_ok hf rfl
end Go.Mth
