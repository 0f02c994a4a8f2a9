import Derived.Test.YtkngglpnejdicaaDoorMap
import Derived.Test.YtkngglpnejdicaaDoorProg
import Derived.Test.YtkngglpnejdicaaDoorShelf
set_option linter.unusedVariables false
namespace Go.Ab
open Go.RowKit
/-- Runs of digits of strings, of lists, of code's ends. -/
theorem post_nrm {C : Ctx} {fn : Func} {res : AV} {σ : St} (h : ∃ vs, ResOk C σ fn.results.toList vs ∧ closedL vs = true ∧ res = packR vs) : postF C fn res .normal σ := h
theorem row_ns {e sz : Nat} {k : IntKind} {a b : List Nat} (h : b = a) : some (AO.row e sz (ns k b)) = some (AO.row e sz (ns k a)) := by rw [h]
theorem ns_congr {k : IntKind} {a b : List Nat} (h : a = b) : AV.sl 1 (ns k a) = AV.sl 1 (ns k b) := by rw [h]
theorem bp_congr {p q : Prop} [Decidable p] [Decidable q] (h : p ↔ q) : bp p = bp q := by unfold bp; rw [dec_eq h]
theorem bl_bp {b : Bool} {q : Prop} [Decidable q] (h : b = true ↔ q) : AV.lit (.bool b) = bp q := by
  unfold bp; congr 2; cases b <;> simp_all
theorem awp_seqJ {C : Ctx} {n : Nat} {Q : Exit → St → Prop} {σ : St} {x y : Code} (J : St → Prop) (h1 : awp C n x (thenK (fun σ2 => ∃ σ3, J σ3 ∧ Wk C n σ2 σ3) Q) σ) (h2 : ∀ σ3, J σ3 → awp C n y Q σ3) : awp C n (.seq x y) Q σ := by
  refine awp_seq fun K hK => ?_
  refine awp_mono h1 fun e σ2 hq => ?_
  cases e with
  | normal =>
    obtain ⟨σ3, hj, hw⟩ := hq
    exact hK _ (awp_wk hw (h2 σ3 hj))
  | _ => exact hq
open Go.Mth
/-- A number as the reference keeps it, and as the program keeps it. -/
def intK (k : IntKind) (z : Int) : AV := .agg [bp (z < 0), .sl 1 (ns k (digs z.natAbs))]
def intR (z : Int) : AV := intK .i64 z
def intW (z : Int) : AV := intK .u32 z
theorem sg_abs (neg : Bool) (n : Nat) : (sg neg n).natAbs = n := by cases neg <;> simp [sg]
theorem sg_neg (neg : Bool) (n : Nat) : sg neg n < 0 ↔ neg = true ∧ 0 < n := by cases neg <;> simp [sg]
theorem intK_eq {k : IntKind} {b : AV} {l : List Nat} {z : Int} (hb : b = bp (z < 0)) (hl : l = digs z.natAbs) : AV.agg [b, .sl 1 (ns k l)] = intK k z := by subst hb; subst hl; rfl
theorem trim_fin {k : IntKind} {neg : Bool} {xs : List Nat} {n : Nat} (hx : Dig xs) (hn : n ≤ xs.length) (hv : val (xs.take n) = val xs) (h : n = 0 ∨ xs.getD (n - 1) 0 ≠ 0) :
    AV.agg [AV.lit (.bool (neg && decide (0 < n))), .sl 1 (ns k ((xs.drop 0).take (n - 0)))] = intK k (sg neg (val xs)) := by
  have e := trim_digs hx hn hv h
  have hlen : n = (digs (val xs)).length := by rw [← e]; simp; omega
  refine intK_eq (bl_bp ?_) (by rw [sg_abs, List.drop_zero, Nat.sub_zero]; exact e)
  rw [sg_neg]
  have h0 : n = 0 ↔ val xs = 0 := by rw [hlen]; exact digs_len_zero
  simp only [Bool.and_eq_true, decide_eq_true_eq]
  constructor
  · rintro ⟨h1, h2⟩; exact ⟨h1, by omega⟩
  · rintro ⟨h1, h2⟩; exact ⟨h1, by omega⟩
theorem minus_fin1 {k : IntKind} {z : Int} (h : ¬ z < 0) : AV.agg [bp (0 < (digs z.natAbs).length), .sl 1 (ns k (digs z.natAbs))] = intK k (-z) :=
  intK_eq (bp_congr (by have := digs_len_zero (n := z.natAbs); omega)) (by rw [Int.natAbs_neg])
theorem minus_fin2 {k : IntKind} {z : Int} (h : ¬ ¬ z < 0) : AV.agg [AV.lit (.bool false), .sl 1 (ns k (digs z.natAbs))] = intK k (-z) :=
  intK_eq (bl_bp (b := false) (by constructor <;> intro h' <;> first | cases h' | (exfalso; omega))) (by rw [Int.natAbs_neg])
theorem sg_add {x y : Int} (h : decide (x < 0) = decide (y < 0)) : x + y = sg (decide (x < 0)) (x.natAbs + y.natAbs) := by
  have h' : x < 0 ↔ y < 0 := by simpa using h
  unfold sg; split <;> rename_i h2 <;> simp at h2 <;> omega
theorem sg_sub1 {x y : Int} (h : ¬ decide (x < 0) = decide (y < 0)) (hc : y.natAbs ≤ x.natAbs) : x + y = sg (decide (x < 0)) (x.natAbs - y.natAbs) := by
  have h' : ¬ (x < 0 ↔ y < 0) := by simpa using h
  unfold sg; split <;> rename_i h2 <;> simp at h2 <;> omega
theorem sg_sub2 {x y : Int} (h : ¬ decide (x < 0) = decide (y < 0)) (hc : x.natAbs ≤ y.natAbs) : x + y = sg (decide (y < 0)) (y.natAbs - x.natAbs) := by
  have h' : ¬ (x < 0 ↔ y < 0) := by simpa using h
  unfold sg; split <;> rename_i h2 <;> simp at h2 <;> omega
theorem sg_mul (x y : Int) : x * y = sg (decide (decide (x < 0) ≠ decide (y < 0))) (x.natAbs * y.natAbs) := by
  unfold sg
  rw [Int.natCast_mul]
  by_cases hx : x < 0 <;> by_cases hy : y < 0 <;> simp [hx, hy]
  · rw [show (x.natAbs : Int) = -x by omega, show (y.natAbs : Int) = -y by omega, Int.neg_mul_neg]
  · rw [show (x.natAbs : Int) = -x by omega, show (y.natAbs : Int) = y by omega, Int.neg_mul, Int.neg_neg]
  · rw [show (x.natAbs : Int) = x by omega, show (y.natAbs : Int) = -y by omega, Int.mul_neg, Int.neg_neg]
  · rw [show (x.natAbs : Int) = x by omega, show (y.natAbs : Int) = y by omega]
theorem tup_eq2 {a b c d : AV} (h : a = b) (h2 : c = d) : AV.tup [a, c] = AV.tup [b, d] := by rw [h, h2]
theorem tup_eq3 {a b c d e f : AV} (h : a = b) (h2 : c = d) (h3 : e = f) : AV.tup [a, c, e] = AV.tup [b, d, f] := by rw [h, h2, h3]
theorem fdiv {z d Q R : Int} (hd : 0 < d) (h : R + d * Q = z) (h0 : 0 ≤ R) (h1 : R < d) : z / d = Q ∧ z % d = R := (Int.ediv_emod_unique hd).2 ⟨h, h0, h1⟩
theorem part1 {z : Int} {d q r : Nat} (hz : ¬ z < 0) (hd : 0 < d) (hq : q = z.natAbs / d) (hr : r = z.natAbs % d) : z / (d : Int) = sg false q ∧ z % (d : Int) = (r : Int) := by
  have h := Nat.div_add_mod z.natAbs d
  rw [← hq, ← hr] at h
  have h1 := Nat.mod_lt z.natAbs hd
  refine fdiv (by omega) ?_ (by omega) (by omega)
  have : ((d * q + r : Nat) : Int) = z := by omega
  simp only [sg, Bool.false_eq_true, if_false]
  rw [← this]; simp; omega
theorem part2 {z : Int} {d q r : Nat} (hz : z < 0) (hd : 0 < d) (hq : q = z.natAbs / d) (hr : r = z.natAbs % d) (h0 : r = 0) : z / (d : Int) = -(q : Int) ∧ z % (d : Int) = 0 := by
  have h := Nat.div_add_mod z.natAbs d
  rw [← hq, ← hr] at h
  refine fdiv (by omega) ?_ (by omega) (by omega)
  have : ((d * q + r : Nat) : Int) = -z := by omega
  rw [h0] at this
  rw [Int.mul_neg]; simp at this; omega
theorem part3 {z : Int} {d q r : Nat} (hz : z < 0) (hd : 0 < d) (hq : q = z.natAbs / d) (hr : r = z.natAbs % d) (h0 : r ≠ 0) : z / (d : Int) = -(q : Int) - 1 ∧ z % (d : Int) = (d : Int) - r := by
  have h := Nat.div_add_mod z.natAbs d
  have h1 := Nat.mod_lt z.natAbs hd
  rw [← hq, ← hr] at h
  refine fdiv (by omega) ?_ (by omega) (by omega)
  have : ((d * q + r : Nat) : Int) = -z := by omega
  rw [Int.mul_sub, Int.mul_neg]; simp at this; omega
theorem len_div {z : Int} {d q : Nat} (hq : q = z.natAbs / d) (hz : (digs z.natAbs).length ≤ 1000000000) (neg : Bool) : (digs (sg neg q).natAbs).length ≤ 1000000000 := by
  rw [sg_abs, hq]
  have := digs_len_le (Nat.div_le_self z.natAbs d)
  omega
theorem len_one : (digs (1 : Int).natAbs).length ≤ 1000000000 := by have := digs_len_small (n := (1 : Int).natAbs) (by decide); omega
theorem bl_eq {a b : Bool} (h : a = b) : AV.lit (.bool a) = AV.lit (.bool b) := by rw [h]
/-- The reference's numbers in a row. -/
def rcells (zs : List Int) : List AV := zs.flatMap fun z => [bp (z < 0), .sl 1 (ns .i64 (digs z.natAbs))]
theorem rcells_len (zs : List Int) : (rcells zs).length = zs.length * 2 := by
  induction zs with
  | nil => rfl
  | cons z zs ih => simp only [rcells, List.flatMap_cons, List.length_append, List.length_cons] at ih ⊢; simp only [List.length_nil]; omega
theorem rcells_app (zs : List Int) (z : Int) : rcells zs ++ [bp (z < 0), .sl 1 (ns .i64 (digs z.natAbs))] = rcells (zs ++ [z]) := by simp [rcells]
theorem sl_congr {sz : Nat} {a b : List AV} (h : a = b) : AV.sl sz a = AV.sl sz b := by rw [h]
end Go.Ab
namespace Go.Proofs.YtkngglpnejdicaaDoor
open Go Go.Ab
theorem mixedT : Tryd.prog.follows .mixedOrders = true := by kernel_rfl
/-- What is known of the package-level variables: the library's table of powers of ten. -/
def TabG (H : Heap) : Prop := ∃ t fr, H 2 = some (.cells (Lib.pow10Tab.map fun z => Value.int .u64 z).toArray t fr)
noncomputable def cx : Ctx := ⟨Tryd.prog, TabG, fun H H' hle ⟨t, fr, h⟩ => ⟨t, fr, hle _ _ h⟩, mixedT, []⟩
theorem tabIs {H : Heap} {w : World} (hG : TabG H) (hH : ∀ b o, H b = some o → w.heap[b]? = some o) : Lib.TabIs Tryd.prog w "internal/strconv.uint64pow10" .u64 Lib.pow10Tab := by
  obtain ⟨t, fr, h⟩ := hG
  have e : Tryd.prog.globalNamed "internal/strconv.uint64pow10" = some 2 := by kernel_rfl
  unfold Lib.TabIs World.var?
  rw [e, Option.bind_some, hH _ _ h]
end Go.Proofs.YtkngglpnejdicaaDoor
