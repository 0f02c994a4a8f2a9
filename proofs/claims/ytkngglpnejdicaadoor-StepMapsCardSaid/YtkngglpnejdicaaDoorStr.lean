/- Numbers as texts. No program in sight. -/
import Derived.Test.YtkngglpnejdicaaDoorMth
set_option linter.unusedVariables false
namespace Go.Mth
open Go.Ab
/-- The bytes of a number's text; its text. -/
def txtL (z : Int) : List Nat := if z = 0 then [48] else (if z < 0 then [45] else []) ++ (decs z.natAbs).reverse
def txt (z : Int) : ByteArray := strN (txtL z)
def AllB (l : List Nat) : Prop := ∀ x ∈ l, x < 256
theorem byts_strN {l : List Nat} (h : AllB l) : byts (strN l) = l := by
  unfold byts strN
  rw [strOfNums_data, List.map_map, List.map_map]
  conv => rhs; rw [← List.map_id l]
  refine List.map_congr_left fun x hx => ?_
  have := h x hx
  simp only [Function.comp, Int.toNat_natCast, id_eq]
  exact UInt8.toNat_ofNat_of_lt' this
theorem strN_byts (a : ByteArray) : strN (byts a) = a := by
  unfold byts strN strOfNums
  rw [List.map_map, List.map_map]
  have : (a.data.toList.map (((fun n : Int => UInt8.ofNat n.toNat) ∘ (fun x : Nat => (x : Int))) ∘ UInt8.toNat)) = a.data.toList := by
    conv => rhs; rw [← List.map_id a.data.toList]
    refine List.map_congr_left fun x _ => ?_
    simp
  rw [this]
theorem byts_all (a : ByteArray) : AllB (byts a) := fun x hx => by
  simp only [byts, List.mem_map] at hx
  obtain ⟨b, _, rfl⟩ := hx
  exact b.toNat_lt
theorem byts_inj {a b : ByteArray} (h : byts a = byts b) : a = b := by rw [← strN_byts a, ← strN_byts b, h]
theorem byt_byts (a : ByteArray) (i : Nat) : byt a i = (byts a).getD i 0 := by
  unfold byt byts
  simp only [List.getD_eq_getElem?_getD, List.getElem?_map]
  cases a.data.toList[i]? <;> simp
theorem toList_loop (a : ByteArray) : ∀ (n i : Nat) (r : List UInt8), a.size - i = n → ByteArray.toList.loop a i r = r.reverse ++ a.data.toList.drop i := by
  intro n
  induction n with
  | zero =>
    intro i r h
    rw [ByteArray.toList.loop]
    have : ¬ i < a.size := by omega
    simp only [this, if_false]
    rw [List.drop_of_length_le (by simp; have : a.size = a.data.size := rfl; omega)]
    simp
  | succ n ih =>
    intro i r h
    rw [ByteArray.toList.loop]
    have hi : i < a.size := by omega
    simp only [hi, if_true]
    rw [ih (i + 1) _ (by omega)]
    have hi' : i < a.data.toList.length := by simpa using hi
    rw [List.drop_eq_getElem_cons hi']
    simp only [List.reverse_cons, List.append_assoc, List.cons_append, List.nil_append]
    congr 2
    simp [ByteArray.get!, getElem!_pos a.data i (by simpa using hi)]
theorem toList_data (a : ByteArray) : a.toList = a.data.toList := by
  unfold ByteArray.toList
  rw [toList_loop a _ 0 [] rfl]; simp
/-- Two strings that the program finds alike. -/
theorem str_eq {a b : ByteArray} : a.toList = b.toList ↔ a = b := by
  rw [toList_data, toList_data]
  constructor
  · intro h
    refine byts_inj ?_
    unfold byts; rw [h]
  · intro h; rw [h]
theorem str_nil {a : ByteArray} : a.toList = ByteArray.toList { data := #[] } ↔ a.size = 0 := by
  rw [str_eq]
  constructor
  · intro h; subst h; rfl
  · intro h
    refine byts_inj ?_
    have : (byts a).length = 0 := by rw [byts_len]; exact h
    rw [List.eq_nil_of_length_eq_zero this]; rfl
theorem txt_zero : txt 0 = { data := #[48] } := rfl
theorem txt_fin {z : Int} {b : List Nat} (hz : z.natAbs ≠ 0) (hb : b = decs z.natAbs ++ if z < 0 then [45] else []) : txt z = strN b.reverse := by
  unfold txt txtL
  rw [if_neg (by omega), hb]
  split <;> simp
theorem rev_step {b : List Nat} {j : Nat} (h : 0 < j) (hj : j ≤ b.length) : (b.drop j).reverse ++ [b.getD (j - 1) 0] = (b.drop (j - 1)).reverse := by
  rw [List.drop_eq_getElem_cons (i := j - 1) (by omega), List.reverse_cons, Nat.sub_add_cancel h, List.getD_eq_getElem?_getD, List.getElem?_eq_getElem (by omega)]
  rfl
theorem drop_hi {n i : Nat} (hi : i < (digs n).length) : val ((digs n).drop i) = (digs n).getD i 0 + 10 ^ (9 - 0) * val ((digs n).drop (i + 1)) := by rw [val_drop_succ hi]
theorem bk_len {bk : List Nat} {n M : Nat} (h : bk ++ decs M = decs n) (hM : 0 < M) (hn : (digs n).length ≤ 1000000000) : bk.length + 1 ≤ 9000000000 := by
  have h1 := congrArg List.length h
  have h2 := decs_len_le n
  rw [decs_pos hM] at h1
  simp at h1
  omega
theorem bk_end {bk : List Nat} {n i : Nat} (h : bk ++ decs (val ((digs n).drop i)) = decs n) (hi : (digs n).length ≤ i) : bk = decs n := by
  rw [val_drop_all hi, decs_zero] at h; simpa using h
/-- Where a number's digits begin in its text; whether a text is a number's. -/
def sgnAt (a : ByteArray) : Nat := if byt a 0 = 45 then 1 else 0
def OkS (a : ByteArray) : Prop := sgnAt a < a.size ∧ a.size - sgnAt a ≤ 2000 ∧ ¬ (byt a (sgnAt a) = 48 ∧ 1 < a.size) ∧ ∀ i, sgnAt a ≤ i → i < a.size → 48 ≤ byt a i ∧ byt a i ≤ 57
open Classical in
noncomputable def okS (a : ByteArray) : Bool := decide (OkS a)
theorem okS_yes {a : ByteArray} (h : OkS a) : okS a = true := by unfold okS; simp [h]
theorem okS_no {a : ByteArray} (h : ¬ OkS a) : okS a = false := by unfold okS; simp [h]
theorem okS_iff {a : ByteArray} : okS a = true ↔ OkS a := by unfold okS; simp
attribute [irreducible] okS
theorem byt_nil {a : ByteArray} (h : a.size = 0) (i : Nat) : byt a i = 0 := by
  rw [byt_byts]; exact getD_ge (by rw [byts_len]; omega)
/-- What so many digits from a place on are. -/
def dvk (a : ByteArray) (s : Nat) : Nat → Nat
  | 0 => 0
  | k + 1 => 10 * dvk a s k + (byt a (s + k) - 48)
theorem dvk_add (a : ByteArray) (s j : Nat) : ∀ k, dvk a s (j + k) = dvk a s j * 10 ^ k + dvk a (s + j) k
  | 0 => by simp [dvk]
  | k + 1 => by
    rw [← Nat.add_assoc, dvk, dvk_add a s j k, dvk, Nat.pow_succ, Nat.add_assoc s j k, Nat.mul_add]
    have e : 10 * (dvk a s j * 10 ^ k) = dvk a s j * (10 ^ k * 10) := by rw [Nat.mul_comm 10, Nat.mul_assoc]
    omega
theorem dvk_lt {a : ByteArray} {s : Nat} : ∀ {k : Nat}, (∀ i, s ≤ i → i < s + k → 48 ≤ byt a i ∧ byt a i ≤ 57) → dvk a s k < 10 ^ k
  | 0, _ => by simp [dvk]
  | k + 1, h => by
    have h1 := dvk_lt (a := a) (s := s) (k := k) fun i h1 h2 => h i h1 (by omega)
    have h2 := h (s + k) (by omega) (by omega)
    rw [dvk, Nat.pow_succ]; omega
/-- The number that a text is. -/
def numS (a : ByteArray) : Int := sg (decide (byt a 0 = 45)) (dvk a (sgnAt a) (a.size - sgnAt a))
theorem parse_step {L : List Nat} {a : ByteArray} {e s n : Nat} (hse : s ≤ e) (hen : e ≤ n) (hl : L.length * 9 = n - e) (hv : val L = dvk a e (n - e)) : val (L ++ [dvk a s (e - s)]) = dvk a s (n - s) := by
  have h := dvk_add a s (e - s) (n - e)
  rw [show e - s + (n - e) = n - s by omega, show s + (e - s) = e by omega, ← hv, ← hl, Nat.mul_comm L.length 9, Nat.pow_mul] at h
  rw [val_snoc, h, Nat.mul_comm]
  simp only [Nat.reducePow]
  omega
theorem extract_size (a : ByteArray) {l h : Nat} (hl : l ≤ h) (hh : h ≤ a.size) : (a.extract l h).size = h - l := by
  rw [ByteArray.size_extract]; omega
theorem byt_extract (a : ByteArray) {l h i : Nat} (hi : l + i < h) (hh : h ≤ a.size) : byt (a.extract l h) i = byt a (l + i) := by
  have h1 : (a.extract l h).data.toList = (a.data.toList.drop l).take (h - l) := by
    simp [ByteArray.data_extract, Array.toList_extract, List.extract_eq_take_drop]
  unfold byt
  rw [h1]
  simp only [List.getD_eq_getElem?_getD]
  rw [List.getElem?_take_of_lt (by omega), List.getElem?_drop]
theorem dvk_congr {a b : ByteArray} {s t : Nat} : ∀ {k : Nat}, (∀ i, i < k → byt a (s + i) = byt b (t + i)) → dvk a s k = dvk b t k
  | 0, _ => rfl
  | k + 1, h => by rw [dvk, dvk, dvk_congr fun i hi => h i (by omega), h k (by omega)]
theorem txtL_all (z : Int) : AllB (txtL z) := by
  have hd : ∀ n, AllB (decs n) := fun n => by
    induction n using Nat.strongRecOn with
    | _ n ih =>
      by_cases h : n = 0
      · subst h; rw [decs_zero]; intro x hx; cases hx
      · rw [decs_pos (by omega)]
        intro x hx
        rcases List.mem_cons.1 hx with e | e
        · omega
        · exact ih (n / 10) (by omega) x e
  unfold txtL
  intro x hx
  split at hx
  · simp at hx; omega
  · rcases List.mem_append.1 hx with e | e
    · split at e
      · simp at e; omega
      · cases e
    · exact hd _ x (List.mem_reverse.1 e)
theorem byts_txt (z : Int) : byts (txt z) = txtL z := byts_strN (txtL_all z)
theorem txt_size (x : Nat) : (txt (x : Int)).size = ndig x := by
  rw [← byts_len, byts_txt]
  unfold txtL ndig
  by_cases h : x = 0
  · subst h; rfl
  · rw [if_neg (by omega), if_neg h, if_neg (by omega)]; simp
theorem ndig_small {x : Nat} (h : x < 1000000000) : ndig x ≤ 9 := by
  unfold ndig
  split
  · decide
  · exact decs_len_lt (k := 9) h
theorem decs_pad {y : Nat} (hy : 0 < y) : ∀ {k p : Nat}, p < 10 ^ k → decs (p + 10 ^ k * y) = decs p ++ List.replicate (k - (decs p).length) 48 ++ decs y
  | 0, p, hp => by simp at hp; subst hp; simp [decs_zero]
  | k + 1, p, hp => by
    have e : 10 ^ (k + 1) * y = 10 * (10 ^ k * y) := by rw [Nat.pow_succ, Nat.mul_comm (10 ^ k) 10, Nat.mul_assoc]
    have hpos : 0 < 10 ^ k * y := Nat.mul_pos (Nat.pow_pos (by decide)) hy
    have hq : p / 10 < 10 ^ k := by rw [Nat.div_lt_iff_lt_mul (by decide), ← Nat.pow_succ]; exact hp
    rw [decs_pos (n := p + 10 ^ (k + 1) * y) (by omega), e, show (p + 10 * (10 ^ k * y)) % 10 = p % 10 by omega, show (p + 10 * (10 ^ k * y)) / 10 = p / 10 + 10 ^ k * y by omega, decs_pad hy hq]
    by_cases h : p = 0
    · subst h; simp [decs_zero, List.replicate_succ]
    · rw [decs_pos (n := p) (by omega)]; simp
/-- One part more of a number's text, from above. -/
theorem str_step {n j : Nat} {out : List Nat} (hj : 0 < j) (hjl : j ≤ (digs n).length) (ho : out = (decs (val ((digs n).drop j))).reverse) :
    (if j < (digs n).length then out ++ List.replicate (9 - ndig ((digs n).getD (j - 1) 0)) 48 else out) ++ txtL ((digs n).getD (j - 1) 0 : Nat) = (decs (val ((digs n).drop (j - 1)))).reverse := by
  have hp := (digs_dig n).getD (j - 1)
  have e := val_drop_succ (xs := digs n) (j := j - 1) (by omega)
  rw [Nat.sub_add_cancel hj] at e
  have hL : ∀ p : Nat, p ≠ 0 → txtL (p : Int) = (decs p).reverse := fun p h => by unfold txtL; rw [if_neg (by omega), if_neg (by omega)]; simp
  split
  · rename_i h
    have hpos := val_drop_pos h
    have := decs_pad hpos (k := 9) (p := (digs n).getD (j - 1) 0) hp
    rw [show (10 : Nat) ^ 9 = 1000000000 by rfl, ← e] at this
    rw [this, ho]
    by_cases h0 : (digs n).getD (j - 1) 0 = 0
    · rw [h0]; simp [decs_zero, ndig, txtL]
    · rw [hL _ h0]; unfold ndig; rw [if_neg h0]; simp
  · rename_i h
    have hd : val ((digs n).drop j) = 0 := val_drop_all (by omega)
    have hpos := val_drop_pos (n := n) (j := j - 1) (by omega)
    rw [hd, Nat.mul_zero, Nat.add_zero] at e
    rw [e] at hpos
    rw [ho, hd, decs_zero, e, hL _ (by omega)]; simp
theorem get_byt {a : ByteArray} {i : Nat} (h : i < a.size) : (a.get! i).toNat = byt a i := by
  have h' : i < a.data.toList.length := by simpa using h
  unfold byt
  rw [List.getD_eq_getElem?_getD, List.getElem?_eq_getElem h']
  simp [ByteArray.get!, getElem!_pos a.data i (by simpa using h)]
theorem utf8_lo {a : ByteArray} {pos : Nat} (hp : pos < a.size) (h : byt a pos < 128) : Utf8.decode a pos = (byt a pos, 1) := by
  have e : (a.get! (pos + 0)).toNat = byt a pos := get_byt hp
  simp only [Utf8.decode, e, h, if_true]
theorem utf8_hi {a : ByteArray} {pos : Nat} (hp : pos < a.size) (h : 128 ≤ byt a pos) : 128 ≤ (Utf8.decode a pos).1 := by
  have e : (a.get! (pos + 0)).toNat = byt a pos := get_byt hp
  have h' : ¬ byt a pos < 128 := by omega
  simp only [Utf8.decode, e, h', if_false]
  split
  · split
    · assumption
    · decide
  · split
    · split
      · rename_i hh; simp only [Bool.and_eq_true, decide_eq_true_eq] at hh; omega
      · decide
    · split
      · split
        · rename_i hh; simp only [Bool.and_eq_true, decide_eq_true_eq] at hh; omega
        · decide
      · decide
theorem utf8_dig {a : ByteArray} {pos : Nat} (hp : pos < a.size) (h : (Utf8.decode a pos).1 < 128) : Utf8.decode a pos = (byt a pos, 1) := by
  rcases Nat.lt_or_ge (byt a pos) 128 with e | e
  · exact utf8_lo hp e
  · have := utf8_hi hp e; omega
end Go.Mth
