/- What the proof of a row of this seat leans on (part 2 of 6): a library of abstract values, walks of functions, and plain laws. -/
import Derived.Shelf.Small.Bits
import Derived.Shelf.Small.Wraps
import Derived.Shelf.Strconv.Itoa0
import Derived.Shelf.Strconv.Itoa1
import Derived.Shelf.LaysM
import Derived.Shelf.Strconv.Itoa2
import Derived.Shelf.Strconv.Itoa3
import Derived.Shelf.Strconv.Clone
import Derived.Shelf.Strconv.SyntaxError
import Derived.Shelf.LaysC
import Derived.Shelf.Strconv.ToError
import Derived.Shelf.Strconv.Lower
import Derived.Shelf.Strconv.ParseUint10
import Derived.Shelf.Strconv.ParseUint10Empty
import Derived.Shelf.Strconv.ParseUint10Any
import Derived.Shelf.Strconv.RangeError
import Derived.Shelf.Strconv.ParseUintEmpty
import Derived.Shelf.Strconv.ParseUint10b64
import Derived.Shelf.Strconv.ParseUint10b32
import Derived.Shelf.Strconv.ParseUint10b16
import Derived.Shelf.Strconv.ParseUint10b8
import Derived.Ground.Names2Prog
import Derived.Shelf.Slices.Clone
import Derived.Shelf.Slices.SearchI
import Derived.Ground.SlgnProg
import Derived.Shelf.SlicesE.Reverse
import Derived.Test.YtdmkejloknejdaaGreatDoorProg
import Derived.RangeFuncIn
import Derived.RangeFuncRecord
import Derived.RangeFuncLeaves
import Derived.Deep.DeepHandedRow
import Derived.Lay
import Derived.Lib.LaidTab
import Derived.Lib.SmallJoins
import Derived.Carry
import Derived.SizedLaws
import Derived.ProofKit
import Derived.OpenShut
import Derived.ShutString
import Derived.ChangeOld
import Derived.ChangeSlices
import Derived.MakeChecks
import Derived.Test.YtdmkejloknejdaaGreatDoorCards
import Derived.Test.YtdmkejloknejdaaGreatDoorTie
import Derived.Stop.LaidErr
import Derived.ChangeArms
import Derived.Test.YtdmkejloknejdaaGreatDoorPkTopCyclesa
set_option linter.unusedVariables false
set_option linter.unusedSimpArgs false
namespace Go.Ab
open Go.RowKit

inductive Gd (ops : Array Oper) (s : List (Nat × AV)) : Option (Nat × Bool) → Prop
 | none : Gd ops s none
 | yes {j d : Nat} {want b : Bool} (hd : (ops[j]?).bind (·.dst) = some d) (hb : look s d = .lit (.bool b)) (h : b = want) : Gd ops s (some (j, want))

def ev (s : List (Nat × AV)) : Operand → AV
 | .tmp t => look s t
 | .const v => .lit v
 | .global g => .lit (.pointer (some ⟨g, 0, none⟩))
 | .func f => .clo f []
def evs (s : List (Nat × AV)) : List Operand → List AV
 | [] => []
 | x :: xs => ev s x :: evs s xs
theorem ev_st (s : List (Nat × AV)) (m : List (Nat × AO)) (x : Operand) : (St.sem ⟨s, m⟩).ev x = ev s x := by cases x <;> rfl
theorem evs_st (s : List (Nat × AV)) (m : List (Nat × AO)) (xs : List Operand) : xs.map (St.sem ⟨s, m⟩).ev = evs s xs := by
 induction xs with
 | nil => rfl
 | cons x xs ih => simp only [List.map_cons, evs, ih, ev_st]
def frS (s : List (Nat × AV)) (m : List (Nat × AO)) (id : Nat) : Bool := s.all (fun p => !p.2.has id) && m.all fun p => !Nat.beq p.1 id && !p.2.has id

section
variable {C : Ctx} {ops : Array Oper} {s : List (Nat × AV)} {m : List (Nat × AO)} {os : List Oper} {K : List Eff → St → Prop} {d : Nat} {t : TypeId} {p : String} {af : Array Edge} {g : Option (Nat × Bool)}

theorem aops_end {σ : St} (h : K [] σ) : aops C ops σ [] K := aops_nil h

theorem o_step {dst : Option Nat} {op : Op} {e : Eff} (hg : Gd ops s g) (hs : Step C (St.sem ⟨s, m⟩) ⟨dst, op, t, p, af, g⟩ e) (hf : e.fresh.all (St.freshB ⟨s, m⟩) = true) (k : aops C ops (St.app ⟨s, m⟩ dst e) os fun es σ' => K (e :: es) σ') :
  aops C ops ⟨s, m⟩ (⟨dst, op, t, p, af, g⟩ :: os) K := by
 cases hg with
 | none => exact aops_step rfl hs hf k
 | yes hd hb h => exact aops_stepG rfl hd hb h hs hf k
theorem o_val {op : Op} {v : AV} {us : List Nat} (hg : Gd ops s g) (hs : Step C (St.sem ⟨s, m⟩) ⟨some d, op, t, p, af, g⟩ { val := v, use := us }) (k : aops C ops ⟨(d, v) :: s, m⟩ os fun es σ' => K ({ val := v, use := us } :: es) σ') :
  aops C ops ⟨s, m⟩ (⟨some d, op, t, p, af, g⟩ :: os) K := o_step hg hs rfl k
theorem o_skip {j d' : Nat} {want b : Bool} {op : Op} (hd : (ops[j]?).bind (·.dst) = some d') (hb : look s d' = .lit (.bool b)) (h : b = !want) (k : aops C ops ⟨(d, .lit undef) :: s, m⟩ os fun es σ' => K ({ val := .lit undef } :: es) σ') :
  aops C ops ⟨s, m⟩ (⟨some d, op, t, p, af, some (j, want)⟩ :: os) K := aops_skipG rfl hd hb (by subst h; cases want <;> simp) k
theorem o_skipU {j d' : Nat} {want : Bool} {op : Op} (hd : (ops[j]?).bind (·.dst) = some d') (hb : look s d' = .lit undef) (k : aops C ops ⟨(d, .lit undef) :: s, m⟩ os fun es σ' => K ({ val := .lit undef } :: es) σ') :
  aops C ops ⟨s, m⟩ (⟨some d, op, t, p, af, some (j, want)⟩ :: os) K := aops_skipG rfl hd hb (by simp [undef]) k
theorem o_split {b : Bool} (d' : Nat) (hb : look s d' = .lit (.bool b)) (h1 : b = true → aops C ops ⟨s, m⟩ os K) (h2 : b = false → aops C ops ⟨s, m⟩ os K) : aops C ops ⟨s, m⟩ os K := aops_split b h1 h2
theorem o_splitP {q : Prop} [Decidable q] (d' : Nat) (hb : look s d' = .lit (.bool (decide q))) (h1 : q → aops C ops ⟨s, m⟩ os K) (h2 : ¬ q → aops C ops ⟨s, m⟩ os K) : aops C ops ⟨s, m⟩ os K :=
 aops_split (decide q) (fun h => h1 (of_decide_eq_true h)) (fun h => h2 (of_decide_eq_false h))

theorem o_move {x : Operand} (v : AV) (hg : Gd ops s g) (hx : ev s x = v) (k : aops C ops ⟨(d, v) :: s, m⟩ os fun es σ' => K ({ val := v } :: es) σ') : aops C ops ⟨s, m⟩ (⟨some d, .move x, t, p, af, g⟩ :: os) K :=
 o_val hg (by rw [← hx, ← ev_st s m]; exact .copy x (.inl rfl)) k
theorem o_assign {x : Operand} (v : AV) (hg : Gd ops s g) (hx : ev s x = v) (k : aops C ops ⟨(d, v) :: s, m⟩ os fun es σ' => K ({ val := v } :: es) σ') : aops C ops ⟨s, m⟩ (⟨some d, .assign x, t, p, af, g⟩ :: os) K :=
 o_val hg (by rw [← hx, ← ev_st s m]; exact .copy x (.inr rfl)) k
theorem o_pickT {c x y : Operand} {b : Bool} (v : AV) (hg : Gd ops s g) (hc : ev s c = .lit (.bool b)) (hb : b = true) (hx : ev s x = v) (k : aops C ops ⟨(d, v) :: s, m⟩ os fun es σ' => K ({ val := v } :: es) σ') : aops C ops ⟨s, m⟩ (⟨some d, .pick c x y, t, p, af, g⟩ :: os) K :=
 o_val hg (by
  have := Step.pick (C := C) (S := St.sem ⟨s, m⟩) (o := ⟨some d, .pick c x y, t, p, af, g⟩) c x y b rfl (by rw [ev_st]; exact hc)
  rw [hb, cond_true, ev_st, hx] at this
  exact this) k
theorem o_pickF {c x y : Operand} {b : Bool} (v : AV) (hg : Gd ops s g) (hc : ev s c = .lit (.bool b)) (hb : b = false) (hy : ev s y = v) (k : aops C ops ⟨(d, v) :: s, m⟩ os fun es σ' => K ({ val := v } :: es) σ') : aops C ops ⟨s, m⟩ (⟨some d, .pick c x y, t, p, af, g⟩ :: os) K :=
 o_val hg (by
  have := Step.pick (C := C) (S := St.sem ⟨s, m⟩) (o := ⟨some d, .pick c x y, t, p, af, g⟩) c x y b rfl (by rw [ev_st]; exact hc)
  rw [hb, cond_false, ev_st, hy] at this
  exact this) k

theorem o_pure1 {op : Op} {x : Operand} {a v : Value} (hops : op.operands = #[x]) (hg : Gd ops s g) (hx : ev s x = .lit a) (h : ∀ ρ : Operand → Value, ρ x = a → ∀ w, (execOp ρ ⟨some d, op, t, p, af, g⟩).run C.P w = .ok (.value v) w)
  (k : aops C ops ⟨(d, .lit v) :: s, m⟩ os fun es σ' => K ({ val := .lit v } :: es) σ') : aops C ops ⟨s, m⟩ (⟨some d, op, t, p, af, g⟩ :: os) K :=
 o_val hg (.pure v fun ρ hρ w => h ρ (hρ x (by simp [hops]) a (by rw [ev_st]; exact AV.isLit_of hx)) w) k
theorem o_pure2 {op : Op} {x y : Operand} {a b v : Value} (hops : op.operands = #[x, y]) (hg : Gd ops s g) (hx : ev s x = .lit a) (hy : ev s y = .lit b) (h : ∀ ρ : Operand → Value, ρ x = a → ρ y = b → ∀ w, (execOp ρ ⟨some d, op, t, p, af, g⟩).run C.P w = .ok (.value v) w)
  (k : aops C ops ⟨(d, .lit v) :: s, m⟩ os fun es σ' => K ({ val := .lit v } :: es) σ') : aops C ops ⟨s, m⟩ (⟨some d, op, t, p, af, g⟩ :: os) K :=
 o_val hg (.pure v fun ρ hρ w => h ρ (hρ x (by simp [hops]) a (by rw [ev_st]; exact AV.isLit_of hx)) (hρ y (by simp [hops]) b (by rw [ev_st]; exact AV.isLit_of hy)) w) k

theorem eqGuard_int {P : Program} {op : BinOp} {xt : TypeId} {x y : Operand} {k : IntKind} {a : Int} {b : Value} (w : World) : (eqGuard op xt x y (.int k a) b).run P w = .ok () w := by
 have : eqGuard op xt x y (.int k a) b = pure () := eqGuard_at_int ..
 rw [this]; rfl

theorem o_arith {b : BinOp} {xt yt : TypeId} {x y : Operand} {k : IntKind} {a c : Int} (r : Int) (hb : (b = .add ∧ r = k.wrap (a + c)) ∨ (b = .sub ∧ r = k.wrap (a - c)) ∨ (b = .mul ∧ r = k.wrap (a * c))) (hg : Gd ops s g) (hx : ev s x = .lit (.int k a)) (hy : ev s y = .lit (.int k c))
  (kk : aops C ops ⟨(d, .lit (.int k r)) :: s, m⟩ os fun es σ' => K ({ val := .lit (.int k r) } :: es) σ') : aops C ops ⟨s, m⟩ (⟨some d, .binOp b xt x y yt, t, p, af, g⟩ :: os) K :=
 o_pure2 rfl hg hx hy (fun ρ h1 h2 w => by
  rcases hb with ⟨rfl, rfl⟩ | ⟨rfl, rfl⟩ | ⟨rfl, rfl⟩ <;> simp [execOp, h1, h2, eqGuard_int, binOp, Op.intArith]) kk
theorem o_add {xt yt : TypeId} {x y : Operand} {k : IntKind} {a c : Int} (hg : Gd ops s g) (hx : ev s x = .lit (.int k a)) (hy : ev s y = .lit (.int k c)) (hr : k.wrap (a + c) = a + c)
  (kk : aops C ops ⟨(d, .lit (.int k (a + c))) :: s, m⟩ os fun es σ' => K ({ val := .lit (.int k (a + c)) } :: es) σ') : aops C ops ⟨s, m⟩ (⟨some d, .binOp .add xt x y yt, t, p, af, g⟩ :: os) K :=
 o_arith (a + c) (.inl ⟨rfl, hr.symm⟩) hg hx hy kk
theorem o_sub {xt yt : TypeId} {x y : Operand} {k : IntKind} {a c : Int} (hg : Gd ops s g) (hx : ev s x = .lit (.int k a)) (hy : ev s y = .lit (.int k c)) (hr : k.wrap (a - c) = a - c)
  (kk : aops C ops ⟨(d, .lit (.int k (a - c))) :: s, m⟩ os fun es σ' => K ({ val := .lit (.int k (a - c)) } :: es) σ') : aops C ops ⟨s, m⟩ (⟨some d, .binOp .sub xt x y yt, t, p, af, g⟩ :: os) K :=
 o_arith (a - c) (.inr (.inl ⟨rfl, hr.symm⟩)) hg hx hy kk
theorem o_mul {xt yt : TypeId} {x y : Operand} {k : IntKind} {a c : Int} (hg : Gd ops s g) (hx : ev s x = .lit (.int k a)) (hy : ev s y = .lit (.int k c)) (hr : k.wrap (a * c) = a * c)
  (kk : aops C ops ⟨(d, .lit (.int k (a * c))) :: s, m⟩ os fun es σ' => K ({ val := .lit (.int k (a * c)) } :: es) σ') : aops C ops ⟨s, m⟩ (⟨some d, .binOp .mul xt x y yt, t, p, af, g⟩ :: os) K :=
 o_arith (a * c) (.inr (.inr ⟨rfl, hr.symm⟩)) hg hx hy kk
theorem o_quo {xt yt : TypeId} {x y : Operand} {k : IntKind} {a c : Int} (hg : Gd ops s g) (hx : ev s x = .lit (.int k a)) (hy : ev s y = .lit (.int k c)) (ha : 0 ≤ a) (hc : 0 < c) (hr : k.wrap (a / c) = a / c)
  (kk : aops C ops ⟨(d, .lit (.int k (a / c))) :: s, m⟩ os fun es σ' => K ({ val := .lit (.int k (a / c)) } :: es) σ') : aops C ops ⟨s, m⟩ (⟨some d, .binOp .quo xt x y yt, t, p, af, g⟩ :: os) K :=
 o_pure2 rfl hg hx hy (fun ρ h1 h2 w => by
  have hne : ¬ c = 0 := by omega
  have ht : a.tdiv c = a / c := Int.tdiv_eq_ediv_of_nonneg ha
  simp [execOp, h1, h2, eqGuard_int, binOp, Op.intDiv, hne, ht, hr]) kk
theorem o_rem {xt yt : TypeId} {x y : Operand} {k : IntKind} {a c : Int} (hg : Gd ops s g) (hx : ev s x = .lit (.int k a)) (hy : ev s y = .lit (.int k c)) (ha : 0 ≤ a) (hc : 0 < c)
  (kk : aops C ops ⟨(d, .lit (.int k (a % c))) :: s, m⟩ os fun es σ' => K ({ val := .lit (.int k (a % c)) } :: es) σ') : aops C ops ⟨s, m⟩ (⟨some d, .binOp .rem xt x y yt, t, p, af, g⟩ :: os) K :=
 o_pure2 rfl hg hx hy (fun ρ h1 h2 w => by
  have hne : ¬ c = 0 := by omega
  have ht : a.tmod c = a % c := Int.tmod_eq_emod_of_nonneg ha
  simp [execOp, h1, h2, eqGuard_int, binOp, Op.intDiv, hne, ht]) kk
theorem o_remT {xt yt : TypeId} {x y : Operand} {k : IntKind} {a c : Int} (hg : Gd ops s g) (hx : ev s x = .lit (.int k a)) (hy : ev s y = .lit (.int k c)) (hc : c ≠ 0)
  (kk : aops C ops ⟨(d, .lit (.int k (a.tmod c))) :: s, m⟩ os fun es σ' => K ({ val := .lit (.int k (a.tmod c)) } :: es) σ') : aops C ops ⟨s, m⟩ (⟨some d, .binOp .rem xt x y yt, t, p, af, g⟩ :: os) K :=
 o_pure2 rfl hg hx hy (fun ρ h1 h2 w => by simp [execOp, h1, h2, eqGuard_int, binOp, Op.intDiv, hc]) kk
def cmpP (b : BinOp) (a c : Int) : Prop := match b with
 | .eql => a = c
 | .neq => a ≠ c
 | .lss => a < c
 | .leq => a ≤ c
 | .gtr => c < a
 | .geq => c ≤ a
 | _ => False
theorem o_eql {xt yt : TypeId} {x y : Operand} {k : IntKind} {a c : Int} (hg : Gd ops s g) (hx : ev s x = .lit (.int k a)) (hy : ev s y = .lit (.int k c)) (kk : aops C ops ⟨(d, .lit (.bool (decide (a = c)))) :: s, m⟩ os fun es σ' => K ({ val := .lit (.bool (decide (a = c))) } :: es) σ') :
  aops C ops ⟨s, m⟩ (⟨some d, .binOp .eql xt x y yt, t, p, af, g⟩ :: os) K := o_pure2 rfl hg hx hy (fun ρ h1 h2 w => by simp [execOp, h1, h2, eqGuard_int, binOp, Op.intCmp]; rfl) kk
theorem o_neq {xt yt : TypeId} {x y : Operand} {k : IntKind} {a c : Int} (hg : Gd ops s g) (hx : ev s x = .lit (.int k a)) (hy : ev s y = .lit (.int k c)) (kk : aops C ops ⟨(d, .lit (.bool (decide (a ≠ c)))) :: s, m⟩ os fun es σ' => K ({ val := .lit (.bool (decide (a ≠ c))) } :: es) σ') :
  aops C ops ⟨s, m⟩ (⟨some d, .binOp .neq xt x y yt, t, p, af, g⟩ :: os) K := o_pure2 rfl hg hx hy (fun ρ h1 h2 w => by
   have : (a != c) = decide (a ≠ c) := by by_cases h : a = c <;> simp [h]
   simp [execOp, h1, h2, eqGuard_int, binOp, Op.intCmp, this]) kk
theorem o_lss {xt yt : TypeId} {x y : Operand} {k : IntKind} {a c : Int} (hg : Gd ops s g) (hx : ev s x = .lit (.int k a)) (hy : ev s y = .lit (.int k c)) (kk : aops C ops ⟨(d, .lit (.bool (decide (a < c)))) :: s, m⟩ os fun es σ' => K ({ val := .lit (.bool (decide (a < c))) } :: es) σ') :
  aops C ops ⟨s, m⟩ (⟨some d, .binOp .lss xt x y yt, t, p, af, g⟩ :: os) K := o_pure2 rfl hg hx hy (fun ρ h1 h2 w => by simp [execOp, h1, h2, eqGuard_int, binOp, Op.intCmp]) kk
theorem o_leq {xt yt : TypeId} {x y : Operand} {k : IntKind} {a c : Int} (hg : Gd ops s g) (hx : ev s x = .lit (.int k a)) (hy : ev s y = .lit (.int k c)) (kk : aops C ops ⟨(d, .lit (.bool (decide (a ≤ c)))) :: s, m⟩ os fun es σ' => K ({ val := .lit (.bool (decide (a ≤ c))) } :: es) σ') :
  aops C ops ⟨s, m⟩ (⟨some d, .binOp .leq xt x y yt, t, p, af, g⟩ :: os) K := o_pure2 rfl hg hx hy (fun ρ h1 h2 w => by simp [execOp, h1, h2, eqGuard_int, binOp, Op.intCmp]) kk
theorem o_gtr {xt yt : TypeId} {x y : Operand} {k : IntKind} {a c : Int} (hg : Gd ops s g) (hx : ev s x = .lit (.int k a)) (hy : ev s y = .lit (.int k c)) (kk : aops C ops ⟨(d, .lit (.bool (decide (c < a)))) :: s, m⟩ os fun es σ' => K ({ val := .lit (.bool (decide (c < a))) } :: es) σ') :
  aops C ops ⟨s, m⟩ (⟨some d, .binOp .gtr xt x y yt, t, p, af, g⟩ :: os) K := o_pure2 rfl hg hx hy (fun ρ h1 h2 w => by simp [execOp, h1, h2, eqGuard_int, binOp, Op.intCmp]) kk
theorem o_geq {xt yt : TypeId} {x y : Operand} {k : IntKind} {a c : Int} (hg : Gd ops s g) (hx : ev s x = .lit (.int k a)) (hy : ev s y = .lit (.int k c)) (kk : aops C ops ⟨(d, .lit (.bool (decide (c ≤ a)))) :: s, m⟩ os fun es σ' => K ({ val := .lit (.bool (decide (c ≤ a))) } :: es) σ') :
  aops C ops ⟨s, m⟩ (⟨some d, .binOp .geq xt x y yt, t, p, af, g⟩ :: os) K := o_pure2 rfl hg hx hy (fun ρ h1 h2 w => by simp [execOp, h1, h2, eqGuard_int, binOp, Op.intCmp]) kk
theorem eqGuard_bool {P : Program} {op : BinOp} {xt : TypeId} {x y : Operand} {a : Bool} {b : Value} (w : World) : (eqGuard op xt x y (.bool a) b).run P w = .ok () w := by
 have : eqGuard op xt x y (.bool a) b = pure () := eqGuard_at_bool ..
 rw [this]; rfl
theorem eqGuard_str {P : Program} {op : BinOp} {xt : TypeId} {x y : Operand} {a : ByteArray} {b : Value} (w : World) : (eqGuard op xt x y (.string a) b).run P w = .ok () w := by
 have : eqGuard op xt x y (.string a) b = pure () := eqGuard_at_string ..
 rw [this]; rfl
theorem o_eqlB {xt yt : TypeId} {x y : Operand} {a c : Bool} (hg : Gd ops s g) (hx : ev s x = .lit (.bool a)) (hy : ev s y = .lit (.bool c)) (ht : C.P.underlying xt = some .bool) (kk : aops C ops ⟨(d, .lit (.bool (decide (a = c)))) :: s, m⟩ os fun es σ' => K ({ val := .lit (.bool (decide (a = c))) } :: es) σ') :
  aops C ops ⟨s, m⟩ (⟨some d, .binOp .eql xt x y yt, t, p, af, g⟩ :: os) K := o_pure2 rfl hg hx hy (fun ρ h1 h2 w => by
   have : (a == c) = decide (a = c) := by cases a <;> cases c <;> rfl
   simp [execOp, h1, h2, eqGuard_bool, run_eql_bool w xt a c ht, this]) kk
theorem o_neqB {xt yt : TypeId} {x y : Operand} {a c : Bool} (hg : Gd ops s g) (hx : ev s x = .lit (.bool a)) (hy : ev s y = .lit (.bool c)) (ht : C.P.underlying xt = some .bool) (kk : aops C ops ⟨(d, .lit (.bool (decide (a ≠ c)))) :: s, m⟩ os fun es σ' => K ({ val := .lit (.bool (decide (a ≠ c))) } :: es) σ') :
  aops C ops ⟨s, m⟩ (⟨some d, .binOp .neq xt x y yt, t, p, af, g⟩ :: os) K := o_pure2 rfl hg hx hy (fun ρ h1 h2 w => by
   have e : ((binOp .neq xt (.bool a) (.bool c)).run C.P w) = .ok (.bool (decide (a ≠ c))) w := by
    have := run_equal_bool w xt a c ht
    simp only [binOp, Sem.run_bind, this, Result.andThen_ok, Sem.run_pure]
    cases a <;> cases c <;> rfl
   simp [execOp, h1, h2, eqGuard_bool, e]) kk
theorem o_eqlS {xt yt : TypeId} {x y : Operand} {a c : ByteArray} (hg : Gd ops s g) (hx : ev s x = .lit (.string a)) (hy : ev s y = .lit (.string c)) (kk : aops C ops ⟨(d, .lit (.bool (decide (a.toList = c.toList)))) :: s, m⟩ os fun es σ' => K ({ val := .lit (.bool (decide (a.toList = c.toList))) } :: es) σ') :
  aops C ops ⟨s, m⟩ (⟨some d, .binOp .eql xt x y yt, t, p, af, g⟩ :: os) K := o_pure2 rfl hg hx hy (fun ρ h1 h2 w => by
   have : (a.toList == c.toList) = decide (a.toList = c.toList) := by by_cases h : a.toList = c.toList <;> simp [h]
   simp [execOp, h1, h2, eqGuard_str, binOp, Op.stringOp, this]) kk
theorem o_neqS {xt yt : TypeId} {x y : Operand} {a c : ByteArray} (hg : Gd ops s g) (hx : ev s x = .lit (.string a)) (hy : ev s y = .lit (.string c)) (kk : aops C ops ⟨(d, .lit (.bool (decide (a.toList ≠ c.toList)))) :: s, m⟩ os fun es σ' => K ({ val := .lit (.bool (decide (a.toList ≠ c.toList))) } :: es) σ') :
  aops C ops ⟨s, m⟩ (⟨some d, .binOp .neq xt x y yt, t, p, af, g⟩ :: os) K := o_pure2 rfl hg hx hy (fun ρ h1 h2 w => by
   have : (!(a.toList == c.toList)) = decide (a.toList ≠ c.toList) := by by_cases h : a.toList = c.toList <;> simp [h]
   simp only [execOp, h1, h2, eqGuard_str, binOp, Op.stringOp, Sem.run_bind, Result.andThen_ok, Sem.run_pure, this]) kk
theorem o_notP {xt : TypeId} {x : Operand} {q : Prop} [Decidable q] (hg : Gd ops s g) (hx : ev s x = .lit (.bool (decide q))) (kk : aops C ops ⟨(d, .lit (.bool (decide (¬ q)))) :: s, m⟩ os fun es σ' => K ({ val := .lit (.bool (decide (¬ q))) } :: es) σ') :
  aops C ops ⟨s, m⟩ (⟨some d, .unOp .not xt x, t, p, af, g⟩ :: os) K := o_pure1 rfl hg hx (fun ρ h1 w => by
   have : (!decide q) = decide (¬ q) := by by_cases h : q <;> simp [h]
   simp only [execOp, h1, Op.unary, Sem.run_bind, Sem.run_pure, Result.andThen_ok, this]) kk
theorem o_not {xt : TypeId} {x : Operand} {b : Bool} (hg : Gd ops s g) (hx : ev s x = .lit (.bool b)) (kk : aops C ops ⟨(d, .lit (.bool (!b))) :: s, m⟩ os fun es σ' => K ({ val := .lit (.bool (!b)) } :: es) σ') :
  aops C ops ⟨s, m⟩ (⟨some d, .unOp .not xt x, t, p, af, g⟩ :: os) K := o_pure1 rfl hg hx (fun ρ h1 w => by simp [execOp, h1, Op.unary]) kk
theorem o_neg {xt : TypeId} {x : Operand} {k : IntKind} {a : Int} (hg : Gd ops s g) (hx : ev s x = .lit (.int k a)) (hr : k.wrap (-a) = -a) (kk : aops C ops ⟨(d, .lit (.int k (-a))) :: s, m⟩ os fun es σ' => K ({ val := .lit (.int k (-a)) } :: es) σ') :
  aops C ops ⟨s, m⟩ (⟨some d, .unOp .neg xt x, t, p, af, g⟩ :: os) K := o_pure1 rfl hg hx (fun ρ h1 w => by simp [execOp, h1, Op.unary, Op.intArith, hr]) kk
def tyInt (P : Program) (t : TypeId) : Option IntKind := match P.underlying t with
 | some (.int k) => some k
 | _ => none
theorem o_conv {src dst : TypeId} {x : Operand} {k k' : IntKind} {a : Int} (hg : Gd ops s g) (hx : ev s x = .lit (.int k a)) (hs : tyInt C.P src = some k) (hd : tyInt C.P dst = some k') (hr : k'.wrap a = a) (kk : aops C ops ⟨(d, .lit (.int k' a)) :: s, m⟩ os fun es σ' => K ({ val := .lit (.int k' a) } :: es) σ') :
  aops C ops ⟨s, m⟩ (⟨some d, .convert src dst x, t, p, af, g⟩ :: os) K := o_pure1 rfl hg hx (fun ρ h1 w => by
   have u1 : C.P.underlying src = some (.int k) := by
    unfold tyInt at hs
    cases hu : C.P.underlying src with
    | none => simp [hu] at hs
    | some dd => cases dd <;> simp [hu] at hs; subst hs; rfl
   have u2 : C.P.underlying dst = some (.int k') := by
    unfold tyInt at hd
    cases hu : C.P.underlying dst with
    | none => simp [hu] at hd
    | some dd => cases dd <;> simp [hu] at hd; subst hd; rfl
   simp [execOp, h1, convert, run_underlying u1, run_underlying u2, Conv.intToInt, hr]) kk
theorem o_lenS {ty : TypeId} {x : Operand} {a : ByteArray} (hg : Gd ops s g) (hx : ev s x = .lit (.string a)) (hs : C.P.underlying ty = some .string) (kk : aops C ops ⟨(d, .lit (.int .i64 (a.size : Int))) :: s, m⟩ os fun es σ' => K ({ val := .lit (.int .i64 (a.size : Int)) } :: es) σ') :
  aops C ops ⟨s, m⟩ (⟨some d, .call { callee := .builtin .len, args := #[x], argTypes := #[ty] }, t, p, af, g⟩ :: os) K := o_pure1 (x := x) rfl hg hx (fun ρ h1 w => by
   simp [execOp, resolve, invoke, builtin, h1, Builtin.len_, run_underlying hs, goInt]) kk
theorem o_max {ty ty' : TypeId} {x y : Operand} {a c : Int} (hg : Gd ops s g) (hx : ev s x = .lit (.int .i64 a)) (hy : ev s y = .lit (.int .i64 c)) (h : ∀ w, (Builtin.max_ #[ty, ty'] t #[.int .i64 a, .int .i64 c]).run C.P w = .ok (.int .i64 (max a c)) w)
  (kk : aops C ops ⟨(d, .lit (.int .i64 (max a c))) :: s, m⟩ os fun es σ' => K ({ val := .lit (.int .i64 (max a c)) } :: es) σ') :
  aops C ops ⟨s, m⟩ (⟨some d, .call { callee := .builtin .max, args := #[x, y], argTypes := #[ty, ty'] }, t, p, af, g⟩ :: os) K := o_pure2 (x := x) (y := y) rfl hg hx hy (fun ρ h1 h2 w => by
   simp [execOp, resolve, invoke, builtin, h1, h2, h w]) kk
theorem o_min {ty ty' : TypeId} {x y : Operand} {a c : Int} (hg : Gd ops s g) (hx : ev s x = .lit (.int .i64 a)) (hy : ev s y = .lit (.int .i64 c)) (h : ∀ w, (Builtin.min_ #[ty, ty'] t #[.int .i64 a, .int .i64 c]).run C.P w = .ok (.int .i64 (min a c)) w)
  (kk : aops C ops ⟨(d, .lit (.int .i64 (min a c))) :: s, m⟩ os fun es σ' => K ({ val := .lit (.int .i64 (min a c)) } :: es) σ') :
  aops C ops ⟨s, m⟩ (⟨some d, .call { callee := .builtin .min, args := #[x, y], argTypes := #[ty, ty'] }, t, p, af, g⟩ :: os) K := o_pure2 (x := x) (y := y) rfl hg hx hy (fun ρ h1 h2 w => by
   simp [execOp, resolve, invoke, builtin, h1, h2, h w]) kk
end
end Go.Ab

namespace Go.Ab
open Go.RowKit

def setO : List (Nat × AO) → Nat → AO → List (Nat × AO)
 | [], _, _ => []
 | (j, v) :: r, i, o => bif Nat.beq j i then (j, o) :: r else (j, v) :: setO r i o
theorem lookO_set {l : List (Nat × AO)} {i : Nat} {ob : AO} (h : lookO l i = some ob) (o : AO) (j : Nat) : lookO (setO l i o) j = if j = i then some o else lookO l j := by
 induction l with
 | nil => simp [lookO] at h
 | cons p l ih =>
  obtain ⟨k, v⟩ := p
  simp only [lookO] at h
  simp only [setO]
  cases hb : Nat.beq k i with
  | true =>
   have := Nat.eq_of_beq_eq_true hb
   subst this
   simp only [cond_true, lookO]
   by_cases hj : j = k
   ·simp [hj]
   ·simp [hj, beq_ne (fun e => hj e.symm)]
  | false =>
   have hne := Nat.ne_of_beq_eq_false hb
   rw [hb] at h
   simp only [cond_false, lookO, ih h]
   cases hb2 : Nat.beq k j with
   | true => have := Nat.eq_of_beq_eq_true hb2; subst this; simp [hne]
   | false => simp
theorem lookO_none_of_fr {s : List (Nat × AV)} {m : List (Nat × AO)} {id : Nat} (h : St.freshB ⟨s, m⟩ id = true) : lookO m id = none := (fresh_sem h).1

def callable (P : Program) (f : FuncId) : Bool := match P.funcs[f]? with
 | some fn => fn.body.isSome && !(fn.name == "runtime.NumGoroutine")
 | none => false
theorem callable_spec {P : Program} {f : FuncId} (h : callable P f = true) : ((P.funcs[f]?).map (·.body.isSome)) = some true ∧ ((P.funcs[f]?).map (·.name == "runtime.NumGoroutine")) = some false := by
 unfold callable at h
 cases hf : P.funcs[f]? with
 | none => simp [hf] at h
 | some fn =>
  simp only [hf, Bool.and_eq_true, Bool.not_eq_true'] at h
  simp [h.1, h.2]

section
variable {C : Ctx} {ops : Array Oper} {s : List (Nat × AV)} {m : List (Nat × AO)} {os : List Oper} {K : List Eff → St → Prop} {d : Nat} {t : TypeId} {p : String} {af : Array Edge} {g : Option (Nat × Bool)}

theorem aops_sem {σ σ2 : St} (h : σ.sem = σ2.sem) (k : aops C ops σ2 os K) : aops C ops σ os K := by
 obtain ⟨es, σ', ht, hk⟩ := k
 exact ⟨es, σ', by rw [h]; exact ht, hk⟩
theorem o_mem {dst : Option Nat} {op : Op} {e : Eff} {s' : List (Nat × AV)} {m' : List (Nat × AO)} (hg : Gd ops s g) (hs : Step C (St.sem ⟨s, m⟩) ⟨dst, op, t, p, af, g⟩ e) (hf : e.fresh.all (St.freshB ⟨s, m⟩) = true)
  (he : (St.app ⟨s, m⟩ dst e).sem = St.sem ⟨s', m'⟩) (k : aops C ops ⟨s', m'⟩ os fun es σ' => K (e :: es) σ') : aops C ops ⟨s, m⟩ (⟨dst, op, t, p, af, g⟩ :: os) K := o_step hg hs hf (aops_sem he k)
theorem sem_new {id : Nat} {ob : AO} {v : AV} {us fr : List Nat} (h : St.freshB ⟨s, m⟩ id = true) : (St.app ⟨s, m⟩ (some d) { val := v, upd := [(id, some ob)], use := us, fresh := fr }).sem = St.sem ⟨(d, v) :: s, (id, ob) :: m⟩ := by
 unfold St.app St.sem
 congr 1
 funext j
 simp only [appU, lookO_put, lookO]
 by_cases hj : j = id
 ·subst hj; simp
 ·simp [hj, beq_ne (fun e => hj e.symm)]
theorem sem_set {dst : Option Nat} {id : Nat} {ob ob' : AO} {v : AV} {us fr : List Nat} {s' : List (Nat × AV)} (h : lookO m id = some ob) (hs : (match dst with | some d => (d, v) :: s | none => s) = s') : (St.app ⟨s, m⟩ dst { val := v, upd := [(id, some ob')], use := us, fresh := fr }).sem = St.sem ⟨s', setO m id ob'⟩ := by
 subst hs
 unfold St.app St.sem
 congr 1
 funext j
 simp only [appU, lookO_put, lookO_set h]

theorem o_lenSl {ty e : TypeId} {x : Operand} {sz : Nat} {cs : List AV} (n : Nat) (hg : Gd ops s g) (ht : C.P.underlying ty = some (.slice e)) (hx : ev s x = .sl sz cs) (hn : cs.length = n * sz) (k : aops C ops ⟨(d, .lit (.int .i64 (n : Int))) :: s, m⟩ os fun es σ' => K ({ val := .lit (.int .i64 (n : Int)) } :: es) σ') :
  aops C ops ⟨s, m⟩ (⟨some d, .call { callee := .builtin .len, args := #[x], argTypes := #[ty] }, t, p, af, g⟩ :: os) K := o_val hg (.lenSl ty e x sz n cs rfl ht (by rw [ev_st]; exact hx) hn) k
theorem o_lenRow {ty e e' : TypeId} {x : Operand} {id sz : Nat} {cs : List AV} (n : Nat) (hg : Gd ops s g) (ht : C.P.underlying ty = some (.slice e)) (hx : ev s x = .row id) (ho : lookO m id = some (.row e' sz cs)) (hn : cs.length = n * sz) (k : aops C ops ⟨(d, .lit (.int .i64 (n : Int))) :: s, m⟩ os fun es σ' => K ({ val := .lit (.int .i64 (n : Int)), use := [id] } :: es) σ') :
  aops C ops ⟨s, m⟩ (⟨some d, .call { callee := .builtin .len, args := #[x], argTypes := #[ty] }, t, p, af, g⟩ :: os) K := o_val hg (.lenRow ty e e' x id sz n cs rfl ht (by rw [ev_st]; exact hx) ho hn) k
theorem o_call {f : FuncId} {args : Array Operand} {tys : Array TypeId} (asx : List AV) (res : AV) (hg : Gd ops s g) (hb : callable C.P f = true) (ha : evs s args.toList = asx) (hc : ECalls C f asx res) (k : aops C ops ⟨(d, res) :: s, m⟩ os fun es σ' => K ({ val := res } :: es) σ') :
  aops C ops ⟨s, m⟩ (⟨some d, .call { callee := .value (.func f), args := args, argTypes := tys }, t, p, af, g⟩ :: os) K :=
 o_val hg (.call f args tys asx res rfl (callable_spec hb).1 (callable_spec hb).2 (by rw [evs_st]; exact ha) hc) k
theorem sem_new2 {id1 id2 : Nat} {o1 o2 : AO} {v : AV} {us fr : List Nat} (h2 : St.freshB ⟨s, m⟩ id2 = true) (hne : id1 ≠ id2) : (St.app ⟨s, m⟩ (some d) { val := v, upd := [(id1, some o1), (id2, some o2)], use := us, fresh := fr }).sem = St.sem ⟨(d, v) :: s, (id1, o1) :: (id2, o2) :: m⟩ := by
 unfold St.app St.sem
 congr 1
 funext j
 simp only [appU, lookO_put, lookO]
 by_cases h1 : j = id1
 ·subst h1; simp
 ·by_cases h2 : j = id2
  ·subst h2; simp [beq_ne hne, h1]
  ·simp [h1, h2, beq_ne (fun e => h1 e.symm), beq_ne (fun e => h2 e.symm)]
theorem o_callW {f : FuncId} {args : Array Operand} {tys : Array TypeId} {f2 : FuncId} {t1 t2 : TypeId} {cs1 cs2 : List AV} (id1 id2 : Nat) (asx : List AV) (hg : Gd ops s g) (hb : callable C.P f = true) (ha : evs s args.toList = asx) (hne : Nat.beq id1 id2 = false) (hc1 : closedL cs1 = true) (hc2 : closedL cs2 = true) (hc : ECallsW C f asx f2 t1 cs1 t2 cs2)
  (hf1 : St.freshB ⟨s, m⟩ id1 = true) (hf2 : St.freshB ⟨s, m⟩ id2 = true) (k : aops C ops ⟨(d, .clo f2 [.ref id1 0, .ref id2 0]) :: s, (id1, .var t1 cs1) :: (id2, .var t2 cs2) :: m⟩ os fun es σ' => K ({ val := .clo f2 [.ref id1 0, .ref id2 0], upd := [(id1, some (.var t1 cs1)), (id2, some (.var t2 cs2))], fresh := [id1, id2] } :: es) σ') :
  aops C ops ⟨s, m⟩ (⟨some d, .call { callee := .value (.func f), args := args, argTypes := tys }, t, p, af, g⟩ :: os) K :=
 o_mem hg (.callW f args tys asx f2 t1 t2 cs1 cs2 id1 id2 rfl (callable_spec hb).1 (callable_spec hb).2 (by rw [evs_st]; exact ha) (Nat.ne_of_beq_eq_false hne) hc1 hc2 hc) (by simp [hf1, hf2]) (sem_new2 hf2 (Nat.ne_of_beq_eq_false hne)) k
theorem o_callM {f : FuncId} {args : Array Operand} {tys : Array TypeId} {res : AV} {e : TypeId} {sz : Nat} {cs : List AV} (id : Nat) (asx : List AV) (hg : Gd ops s g) (hb : callable C.P f = true) (ha : evs s args.toList = asx) (hc : ECallsM C f asx res id e sz cs) (hf : St.freshB ⟨s, m⟩ id = true)
  (k : aops C ops ⟨(d, res) :: s, (id, .row e sz cs) :: m⟩ os fun es σ' => K ({ val := res, upd := [(id, some (.row e sz cs))], fresh := [id] } :: es) σ') :
  aops C ops ⟨s, m⟩ (⟨some d, .call { callee := .value (.func f), args := args, argTypes := tys }, t, p, af, g⟩ :: os) K :=
 o_mem hg (.callM f args tys asx res id e sz cs rfl (callable_spec hb).1 (callable_spec hb).2 (by rw [evs_st]; exact ha) hc) (by simp [hf]) (sem_new hf) k
theorem o_alloc {ty : TypeId} {z : List Value} (id : Nat) (cs : List AV) (hg : Gd ops s g) (hz : tyZero C.P ty = some z) (h1 : z.all (·.oneCell') = true) (hcs : z.map .lit = cs) (hf : St.freshB ⟨s, m⟩ id = true)
  (k : aops C ops ⟨(d, .ref id 0) :: s, (id, .var ty cs) :: m⟩ os fun es σ' => K ({ val := .ref id 0, upd := [(id, some (.var ty cs))], fresh := [id] } :: es) σ') : aops C ops ⟨s, m⟩ (⟨some d, .alloc ty, t, p, af, g⟩ :: os) K := by
 subst hcs
 exact o_mem hg (.alloc ty z id rfl hz h1) (by simp [hf]) (sem_new hf) k
theorem o_box {ty : TypeId} {x : Operand} (id : Nat) (cs : List AV) (hg : Gd ops s g) (hx : cellsOf (ev s x) = some cs) (hf : St.freshB ⟨s, m⟩ id = true)
  (k : aops C ops ⟨(d, .ref id 0) :: s, (id, .var ty cs) :: m⟩ os fun es σ' => K ({ val := .ref id 0, upd := [(id, some (.var ty cs))], fresh := [id] } :: es) σ') : aops C ops ⟨s, m⟩ (⟨some d, .box ty x, t, p, af, g⟩ :: os) K :=
 o_mem hg (.box ty x id cs rfl (by rw [ev_st]; exact hx)) (by simp [hf]) (sem_new hf) k
theorem o_loadS {ty : TypeId} {x : Operand} {id off : Nat} {ob : AO} (c : AV) (hg : Gd ops s g) (ht : tySc C.P ty = true) (hx : ev s x = .ref id off) (ho : lookO m id = some ob) (hk : ob.cells[off]? = some c)
  (k : aops C ops ⟨(d, c) :: s, m⟩ os fun es σ' => K ({ val := c, use := [id] } :: es) σ') : aops C ops ⟨s, m⟩ (⟨some d, .load ty x, t, p, af, g⟩ :: os) K := o_val hg (.loadS ty x id off ob c rfl (by rw [ev_st]; exact hx) ho ht hk) k
theorem o_loadA {ty : TypeId} {x : Operand} {id off n : Nat} {ob : AO} (cs : List AV) (hg : Gd ops s g) (ht : tyAgg C.P ty = some n) (hx : ev s x = .ref id off) (ho : lookO m id = some ob) (hni : ob.isIter = false) (hl : Nat.ble (off + n) ob.cells.length = true) (hk : (ob.cells.drop off).take n = cs)
  (k : aops C ops ⟨(d, .agg cs) :: s, m⟩ os fun es σ' => K ({ val := .agg cs, use := [id] } :: es) σ') : aops C ops ⟨s, m⟩ (⟨some d, .load ty x, t, p, af, g⟩ :: os) K := by
 subst hk
 exact o_val hg (.loadA ty x id off n ob rfl (by rw [ev_st]; exact hx) ho hni ht (Nat.le_of_ble_eq_true hl)) k
theorem o_loadIS {ty : TypeId} {x : Operand} {cs : List AV} (c : AV) (hg : Gd ops s g) (ht : tySc C.P ty = true) (hx : ev s x = .ip cs) (hk : cs[0]? = some c)
  (k : aops C ops ⟨(d, c) :: s, m⟩ os fun es σ' => K ({ val := c } :: es) σ') : aops C ops ⟨s, m⟩ (⟨some d, .load ty x, t, p, af, g⟩ :: os) K := o_val hg (.loadIS ty x c cs rfl (by rw [ev_st]; exact hx) ht hk) k
theorem o_loadIA {ty : TypeId} {x : Operand} {n : Nat} {cs : List AV} (fs : List AV) (hg : Gd ops s g) (ht : tyAgg C.P ty = some n) (hx : ev s x = .ip cs) (hl : n ≤ cs.length) (hk : cs.take n = fs)
  (k : aops C ops ⟨(d, .agg fs) :: s, m⟩ os fun es σ' => K ({ val := .agg fs } :: es) σ') : aops C ops ⟨s, m⟩ (⟨some d, .load ty x, t, p, af, g⟩ :: os) K := by
 subst hk
 exact o_val hg (.loadIA ty x n cs rfl (by rw [ev_st]; exact hx) ht hl) k
theorem o_store {ty : TypeId} {x y : Operand} {id off n : Nat} {ty' : TypeId} {cs new : List AV} (m' : List (Nat × AO)) (hg : Gd ops s g) (ht : tySize C.P ty = some n) (hx : ev s x = .ref id off) (ho : lookO m id = some (.var ty' cs)) (hy : cellsOf (ev s y) = some new) (hn : new.length = n) (hl : Nat.ble (off + n) cs.length = true)
  (hm : setO m id (.var ty' (over cs off new)) = m') (k : aops C ops ⟨s, m'⟩ os fun es σ' => K ({ val := .any, upd := [(id, some (.var ty' (over cs off new)))], use := [id] } :: es) σ') : aops C ops ⟨s, m⟩ (⟨none, .store ty x y, t, p, af, g⟩ :: os) K := by
 subst hm
 exact o_mem hg (.store ty x y id off n (.var ty' cs) new rfl (by rw [ev_st]; exact hx) ho (by rw [ev_st]; exact hy) rfl ht hn (Nat.le_of_ble_eq_true hl)) rfl (sem_set ho rfl) k
theorem o_storeRow {ty : TypeId} {x y : Operand} {id off n : Nat} {e : TypeId} {sz : Nat} {cs new : List AV} (cs' : List AV) (m' : List (Nat × AO)) (hg : Gd ops s g) (ht : tySize C.P ty = some n) (hx : ev s x = .ref id off) (ho : lookO m id = some (.row e sz cs)) (hy : cellsOf (ev s y) = some new) (hcl : closedL new = true) (hn : new.length = n) (hl : off + n ≤ cs.length)
  (hc : over cs off new = cs') (hm : setO m id (.row e sz cs') = m') (k : aops C ops ⟨s, m'⟩ os fun es σ' => K ({ val := .any, upd := [(id, some (.row e sz cs'))], use := [id] } :: es) σ') : aops C ops ⟨s, m⟩ (⟨none, .store ty x y, t, p, af, g⟩ :: os) K := by
 subst hm
 subst hc
 exact o_mem hg (.storeRow ty x y id off n e sz cs new rfl (by rw [ev_st]; exact hx) ho (by rw [ev_st]; exact hy) hcl ht hn hl) rfl (sem_set ho rfl) k
theorem o_fieldRef {ty : TypeId} {x : Operand} {f id off fo : Nat} {ft : TypeId} (o' : Nat) (hg : Gd ops s g) (hf : tyField C.P ty f = some (fo, ft)) (hx : ev s x = .ref id off) (ho : off + fo = o') (k : aops C ops ⟨(d, .ref id o') :: s, m⟩ os fun es σ' => K ({ val := .ref id o' } :: es) σ') :
  aops C ops ⟨s, m⟩ (⟨some d, .fieldAddr ty x f, t, p, af, g⟩ :: os) K := by
 subst ho
 exact o_val hg (.fieldRef ty x f id off fo ft rfl (by rw [ev_st]; exact hx) hf) k
theorem o_fieldIp {ty : TypeId} {x : Operand} {f fo : Nat} {ft : TypeId} {cs : List AV} (hg : Gd ops s g) (hf : tyField C.P ty f = some (fo, ft)) (hx : ev s x = .ip cs) (hl : fo < cs.length) (k : aops C ops ⟨(d, .ip (cs.drop fo)) :: s, m⟩ os fun es σ' => K ({ val := .ip (cs.drop fo) } :: es) σ') :
  aops C ops ⟨s, m⟩ (⟨some d, .fieldAddr ty x f, t, p, af, g⟩ :: os) K := o_val hg (.fieldIp ty x f fo ft cs rfl (by rw [ev_st]; exact hx) hf hl) k
theorem o_fieldS {ty : TypeId} {x : Operand} {f fo : Nat} {ft : TypeId} {cs : List AV} (c : AV) (hg : Gd ops s g) (hf : tyField C.P ty f = some (fo, ft)) (ht : tySc C.P ft = true) (hx : ev s x = .agg cs) (hk : cs[fo]? = some c) (k : aops C ops ⟨(d, c) :: s, m⟩ os fun es σ' => K ({ val := c } :: es) σ') :
  aops C ops ⟨s, m⟩ (⟨some d, .field ty x f, t, p, af, g⟩ :: os) K := o_val hg (.fieldS ty x f fo ft cs c rfl (by rw [ev_st]; exact hx) hf ht hk) k
theorem o_index1 {ty : TypeId} {x y : Operand} {e by' : Nat} {cs : List AV} {kk : IntKind} {i : Int} (hg : Gd ops s g) (ht : tyElem C.P ty = some (e, 1, by')) (hx : ev s x = .sl 1 cs) (hy : ev s y = .lit (.int kk i)) (h0 : 0 ≤ i) (h1 : i.toNat < cs.length)
  (k : aops C ops ⟨(d, .ip (cs.drop i.toNat)) :: s, m⟩ os fun es σ' => K ({ val := .ip (cs.drop i.toNat) } :: es) σ') : aops C ops ⟨s, m⟩ (⟨some d, .indexAddr ty x y, t, p, af, g⟩ :: os) K := by
 have := Step.indexSl (C := C) (S := St.sem ⟨s, m⟩) (o := ⟨some d, .indexAddr ty x y, t, p, af, g⟩) ty x y e 1 by' cs kk i rfl ht (by rw [ev_st]; exact hx) (by rw [ev_st]; exact hy) h0 (by omega)
 rw [Nat.mul_one] at this
 exact o_val hg this k
theorem o_indexN {ty : TypeId} {x y : Operand} {e sz by' : Nat} {cs : List AV} {kk : IntKind} {i : Int} (hg : Gd ops s g) (ht : tyElem C.P ty = some (e, sz, by')) (hx : ev s x = .sl sz cs) (hy : ev s y = .lit (.int kk i)) (h0 : 0 ≤ i) (h1 : i.toNat * sz < cs.length)
  (k : aops C ops ⟨(d, .ip (cs.drop (i.toNat * sz))) :: s, m⟩ os fun es σ' => K ({ val := .ip (cs.drop (i.toNat * sz)) } :: es) σ') : aops C ops ⟨s, m⟩ (⟨some d, .indexAddr ty x y, t, p, af, g⟩ :: os) K := o_val hg (.indexSl ty x y e sz by' cs kk i rfl ht (by rw [ev_st]; exact hx) (by rw [ev_st]; exact hy) h0 h1) k
theorem o_indexRow1 {ty : TypeId} {x y : Operand} {e e' id by' : Nat} {cs : List AV} {kk : IntKind} {i : Int} (hg : Gd ops s g) (ht : tyElem C.P ty = some (e, 1, by')) (hx : ev s x = .row id) (ho : lookO m id = some (.row e' 1 cs)) (hy : ev s y = .lit (.int kk i)) (h0 : 0 ≤ i) (h1 : i.toNat < cs.length)
  (k : aops C ops ⟨(d, .ref id i.toNat) :: s, m⟩ os fun es σ' => K ({ val := .ref id i.toNat, use := [id] } :: es) σ') : aops C ops ⟨s, m⟩ (⟨some d, .indexAddr ty x y, t, p, af, g⟩ :: os) K := by
 have := Step.indexRow (C := C) (S := St.sem ⟨s, m⟩) (o := ⟨some d, .indexAddr ty x y, t, p, af, g⟩) ty x y e e' id 1 by' cs kk i rfl ht (by rw [ev_st]; exact hx) ho (by rw [ev_st]; exact hy) h0 (by omega)
 rw [Nat.mul_one] at this
 exact o_val hg this k
theorem o_build {ty : TypeId} {parts : Array (Nat × Operand)} {pl : Nat → Option (Nat × Nat)} {z : List Value} (cs : List AV) (ps : List (Nat × List AV)) (hg : Gd ops s g) (hp : tyPlaces C.P ty = some pl) (hz : tyZero C.P ty = some z) (h1 : z.all (·.oneCell') = true) (hps : optL (parts.toList.map fun (i, x) => (cellsOf (ev s x)).map fun c => (i, c)) = some ps) (hc : fillA pl (z.map .lit) ps = some cs)
  (k : aops C ops ⟨(d, .agg cs) :: s, m⟩ os fun es σ' => K ({ val := .agg cs } :: es) σ') : aops C ops ⟨s, m⟩ (⟨some d, .build ty parts, t, p, af, g⟩ :: os) K :=
 o_val hg (.build ty parts pl z ps cs rfl hp hz h1 (by simp only [ev_st]; exact hps) hc) k
theorem o_buildSlice {ty : TypeId} {len : Nat} {parts : Array (Nat × Operand)} {e sz by' : Nat} {z : List Value} (id : Nat) (cs : List AV) (ps : List (Nat × List AV)) (hg : Gd ops s g) (ht : tyElem C.P ty = some (e, sz, by')) (hsz : Nat.blt 0 sz = true) (hz : tyZero C.P e = some z) (h1 : z.all (·.oneCell') = true) (hzl : z.length = sz)
  (hps : optL (parts.toList.map fun (i, x) => (cellsOf (ev s x)).map fun c => (i, c)) = some ps) (hc : fillA (fun i => some (i * sz, sz)) ((List.range (len * sz)).map fun j => .lit (z.getD (j % sz) undef)) ps = some cs) (hcl : closedL cs = true) (hl : Nat.ble (len * sz) 16777216 = true) (hf : St.freshB ⟨s, m⟩ id = true)
  (k : aops C ops ⟨(d, .row id) :: s, (id, .row e sz cs) :: m⟩ os fun es σ' => K ({ val := .row id, upd := [(id, some (.row e sz cs))], fresh := [id] } :: es) σ') : aops C ops ⟨s, m⟩ (⟨some d, .buildSlice ty len parts, t, p, af, g⟩ :: os) K :=
 o_mem hg (.buildSlice ty len parts e sz by' z ps cs id rfl ht (by rw [Nat.blt_eq] at hsz; exact hsz) hz h1 hzl (by simp only [ev_st]; exact hps) hc hcl (Nat.le_of_ble_eq_true hl)) (by simp [hf]) (sem_new hf) k
theorem o_make0 {ty : TypeId} {x y : Operand} {e sz by' : Nat} {z : List Value} {kk kk' : IntKind} {c : Int} (id : Nat) (hg : Gd ops s g) (ht : tyElem C.P ty = some (e, sz, by')) (hsz : Nat.blt 0 sz = true) (hz : tyZero C.P e = some z) (hx : ev s x = .lit (.int kk 0)) (hy : ev s y = .lit (.int kk' c)) (h0 : 0 ≤ c) (hb : by' * c.toNat ≤ 281474976710656) (hm : c ≤ 9223372036854775807) (hf : St.freshB ⟨s, m⟩ id = true)
  (k : aops C ops ⟨(d, .row id) :: s, (id, .row e sz []) :: m⟩ os fun es σ' => K ({ val := .row id, upd := [(id, some (.row e sz []))], fresh := [id] } :: es) σ') : aops C ops ⟨s, m⟩ (⟨some d, .makeSlice ty x y, t, p, af, g⟩ :: os) K :=
 o_mem hg (.make0 ty x y e sz by' z kk kk' c id rfl ht (by rw [Nat.blt_eq] at hsz; exact hsz) hz (by rw [ev_st]; exact hx) (by rw [ev_st]; exact hy) h0 hb hm) (by simp [hf]) (sem_new hf) k
theorem o_makeN {ty : TypeId} {x y : Operand} {e by' : Nat} {z : Value} {kk kk' : IntKind} {c : Int} (id : Nat) (hg : Gd ops s g) (ht : tyElem C.P ty = some (e, 1, by')) (hz : tyZero C.P e = some [z]) (h1 : z.oneCell' = true) (hx : ev s x = .lit (.int kk c)) (hy : ev s y = .lit (.int kk' c)) (h0 : 0 ≤ c) (hb : by' * c.toNat ≤ 140737488355328) (hby : Nat.blt 0 by' = true) (hf : St.freshB ⟨s, m⟩ id = true)
  (k : aops C ops ⟨(d, .row id) :: s, (id, .row e 1 (List.replicate c.toNat (.lit z))) :: m⟩ os fun es σ' => K ({ val := .row id, upd := [(id, some (.row e 1 (List.replicate c.toNat (.lit z))))], fresh := [id] } :: es) σ') : aops C ops ⟨s, m⟩ (⟨some d, .makeSlice ty x y, t, p, af, g⟩ :: os) K :=
 o_mem hg (.makeN ty x y e by' z kk kk' c id rfl ht hz h1 (by rw [ev_st]; exact hx) (by rw [ev_st]; exact hy) h0 hb (by rw [Nat.blt_eq] at hby; exact hby)) (by simp [hf]) (sem_new hf) k
theorem o_slice {ty : TypeId} {x : Operand} {lo hi mx : Option Operand} {e sz by' n : Nat} {cs : List AV} (l h : Nat) (cs' : List AV) (hg : Gd ops s g) (ht : tyElem C.P ty = some (e, sz, by')) (hx : ev s x = .sl sz cs) (hn : cs.length = n * sz)
  (hlo : (St.sem ⟨s, m⟩).loOk lo l) (hhi : (St.sem ⟨s, m⟩).hiOk hi n h) (hmx : (St.sem ⟨s, m⟩).mxOk mx hi.isSome h) (h1 : l ≤ h) (h2 : h ≤ n) (hc : (cs.drop (l * sz)).take ((h - l) * sz) = cs')
  (k : aops C ops ⟨(d, .sl sz cs') :: s, m⟩ os fun es σ' => K ({ val := .sl sz cs' } :: es) σ') : aops C ops ⟨s, m⟩ (⟨some d, .slice ty x lo hi mx, t, p, af, g⟩ :: os) K := by
 subst hc
 exact o_val hg (.sliceSl ty x lo hi mx e sz by' n cs l h rfl ht (by rw [ev_st]; exact hx) hn hlo hhi hmx h1 h2) k
theorem o_sliceX {ty : TypeId} {x : Operand} {lo hi mx : Option Operand} {e sz by' n : Nat} {cs : List AV} (l h : Nat) (cs' : List AV) (hg : Gd ops s g) (ht : tyElem C.P ty = some (e, sz, by')) (hx : ev s x = .sl sz cs) (hn : cs.length = n * sz)
  (hlo : (St.sem ⟨s, m⟩).loOk lo l) (hhi : (St.sem ⟨s, m⟩).hiOk hi n h) (hmx : (St.sem ⟨s, m⟩).mxOk mx hi.isSome h) (hs : mx.isSome = true) (h1 : l ≤ h) (h2 : h ≤ n) (hc : (cs.drop (l * sz)).take ((h - l) * sz) = cs')
  (k : aops C ops ⟨(d, .slc sz cs' (h - l)) :: s, m⟩ os fun es σ' => K ({ val := .slc sz cs' (h - l) } :: es) σ') : aops C ops ⟨s, m⟩ (⟨some d, .slice ty x lo hi mx, t, p, af, g⟩ :: os) K := by
 subst hc
 exact o_val hg (.sliceX ty x lo hi mx e sz by' n cs l h rfl ht (by rw [ev_st]; exact hx) hn hlo hhi hmx hs h1 h2) k
theorem sem_append {id id' : Nat} {ob : AO} {v : AV} {us fr : List Nat} (m' : List (Nat × AO)) (hm : delO m id = m') (hne : id' ≠ id) : (St.app ⟨s, m⟩ (some d) { val := v, upd := [(id', some ob), (id, none)], use := us, fresh := fr }).sem = St.sem ⟨(d, v) :: s, (id', ob) :: m'⟩ := by
 subst hm
 unfold St.app St.sem
 congr 1
 funext j
 simp only [appU, lookO_put, lookO, lookO_del]
 by_cases hj : j = id'
 ·subst hj; simp
 ·simp [hj, beq_ne (fun e => hj e.symm)]
theorem o_append {ty : TypeId} {a x : Operand} {e sz by' : Nat} {z : List Value} {id : Nat} {cs : List AV} (id' : Nat) (ds cs' : List AV) (us : List Nat) (m' : List (Nat × AO)) (hg : Gd ops s g) (ht : tyElem C.P ty = some (e, sz, by')) (hsz : Nat.blt 0 sz = true) (hz : tyZero C.P e = some z) (hzl : z.length = sz)
  (hs : ev s a = .row id) (ho : lookO m id = some (.row e sz cs)) (hx : (ev s x = .sl sz ds ∧ us = [id]) ∨ ∃ i e', ev s x = .row i ∧ lookO m i = some (.row e' sz ds) ∧ us = [id, i]) (hb : (cs.length + ds.length) / sz * by' ≤ 140737488355328) (hl : cs.length + ds.length ≤ 140737488355328)
  (hc : cs ++ ds = cs') (hf : St.freshB ⟨s, m⟩ id' = true) (hm : delO m id = m') (k : aops C ops ⟨(d, .row id') :: s, (id', .row e sz cs') :: m'⟩ os fun es σ' => K ({ val := .row id', upd := [(id', some (.row e sz cs')), (id, none)], use := us, fresh := [id'] } :: es) σ') :
  aops C ops ⟨s, m⟩ (⟨some d, .call { callee := .builtin .append, args := #[a, x], argTypes := #[ty, ty] }, t, p, af, g⟩ :: os) K := by
 subst hc
 have hne : id' ≠ id := fun e => by subst e; rw [lookO_none_of_fr hf] at ho; cases ho
 exact o_mem hg (.append ty a x e sz by' z id id' cs ds us rfl ht (by rw [Nat.blt_eq] at hsz; exact hsz) hz hzl (by rw [ev_st]; exact hs) ho (by rw [ev_st]; exact hx) hb hl) (by simp [hf]) (sem_append m' hm hne) k
theorem o_extract {x : Operand} {i : Nat} {fs : List AV} (c : AV) (hg : Gd ops s g) (hx : ev s x = .tup fs) (hi : fs[i]? = some c) (k : aops C ops ⟨(d, c) :: s, m⟩ os fun es σ' => K ({ val := c } :: es) σ') : aops C ops ⟨s, m⟩ (⟨some d, .extract x i, t, p, af, g⟩ :: os) K :=
 o_val hg (.extract x i fs c rfl (by rw [ev_st]; exact hx) hi) k
theorem o_strOf {ty ty' : TypeId} {x : Operand} {id e : Nat} {cs : List AV} (bs : List Int) (hg : Gd ops s g) (ht : C.P.underlying ty = some (.slice e)) (he : C.P.underlying e = some (.int .u8)) (ht' : C.P.underlying ty' = some .string) (hx : ev s x = .row id) (ho : lookO m id = some (.row e 1 cs)) (hc : cs = bs.map fun b => .lit (.int .u8 b))
  (k : aops C ops ⟨(d, .lit (.string (strOfNums bs))) :: s, m⟩ os fun es σ' => K ({ val := .lit (.string (strOfNums bs)), use := [id] } :: es) σ') : aops C ops ⟨s, m⟩ (⟨some d, .convert ty ty' x, t, p, af, g⟩ :: os) K :=
 o_val hg (.strOf ty ty' x id e 1 bs cs rfl ht he ht' (by rw [ev_st]; exact hx) ho rfl hc) k
theorem o_makeFunc {f : FuncId} {caps : Array Operand} (asx : List AV) (hg : Gd ops s g) (ha : evs s caps.toList = asx) (k : aops C ops ⟨(d, .clo f asx) :: s, m⟩ os fun es σ' => K ({ val := .clo f asx } :: es) σ') : aops C ops ⟨s, m⟩ (⟨some d, .makeFunc (.func f) #[] caps, t, p, af, g⟩ :: os) K := by
 have := Step.makeFunc (C := C) (S := St.sem ⟨s, m⟩) (o := ⟨some d, .makeFunc (.func f) #[] caps, t, p, af, g⟩) f caps rfl
 rw [evs_st, ha] at this
 exact o_val hg this k
theorem o_indexS {ty : TypeId} {x y : Operand} {kk : IntKind} {a : ByteArray} {i : Int} (r : Int) (hg : Gd ops s g) (ht : C.P.underlying ty = some .string) (hx : ev s x = .lit (.string a)) (hy : ev s y = .lit (.int kk i)) (h0 : 0 ≤ i) (h1 : i.toNat < a.size) (hr : ((a.data.toList.getD i.toNat 0).toNat : Int) = r)
  (k : aops C ops ⟨(d, .lit (.int .u8 r)) :: s, m⟩ os fun es σ' => K ({ val := .lit (.int .u8 r) } :: es) σ') : aops C ops ⟨s, m⟩ (⟨some d, .index ty x y, t, p, af, g⟩ :: os) K := by
 subst hr
 exact o_pure2 rfl hg hx hy (fun ρ e1 e2 w => by
  have e3 : a[i.toNat]? = some (a.data.toList.getD i.toNat 0) := by
   rw [getElem?_pos a i.toNat h1]
   have h1' : i.toNat < a.data.toList.length := by simpa using h1
   rw [List.getD_eq_getElem?_getD, List.getElem?_eq_getElem h1']
   rfl
  simp [execOp, e1, e2, Instr.index, asIntOf, run_underlying ht, h0, e3]) k
end

/-! ### Lists that are written by a function of their elements -/
theorem dropMap0 {α : Type} {f : α → AV} {xs : List α} {n : Nat} (dflt : α) (h : n < xs.length) : ((xs.map f).drop n)[0]? = some (f (xs.getD n dflt)) := by
 rw [List.getElem?_drop, Nat.add_zero, List.getElem?_map, List.getElem?_eq_getElem h]
 simp [List.getD, List.getElem?_eq_getElem h]
theorem getMap {α : Type} {f : α → AV} {xs : List α} {n : Nat} (dflt : α) (h : n < xs.length) : (xs.map f)[n]? = some (f (xs.getD n dflt)) := by
 rw [List.getElem?_map, List.getElem?_eq_getElem h]
 simp [List.getD, List.getElem?_eq_getElem h]
theorem overMap {α : Type} {f : α → AV} {xs : List α} {n : Nat} {v : α} (h : n < xs.length) : over (xs.map f) n [f v] = (xs.set n v).map f := by
 unfold over
 apply List.ext_getElem?
 intro j
 simp only [List.append_assoc, List.getElem?_append, List.length_take, List.length_map, List.length_cons, List.length_nil, List.getElem?_map, List.getElem?_set]
 rw [show min n xs.length = n by omega]
 by_cases h1 : j < n
 ·rw [if_pos h1, if_neg (by omega), List.getElem?_take, if_pos h1, List.getElem?_map]
 ·by_cases h2 : j = n
  ·subst h2; simp [h]
  ·rw [if_neg h1, if_neg (by omega), if_neg (by omega), List.getElem?_drop, List.getElem?_map]
   congr 2
   omega
theorem int_eq {k : IntKind} {a b : Int} (h : b = a) : AV.lit (.int k b) = AV.lit (.int k a) := by rw [h]
theorem post_ret {C : Ctx} {fn : Func} {res : AV} {σ : St} (h : ∃ vs, ResOk C σ fn.results.toList vs ∧ closedL vs = true ∧ res = packR vs) : postF C fn res .ret σ := h
theorem awp_loopR {C : Ctx} {n : Nat} {Q : Exit → St → Prop} {σ : St} {c : Code} (I : Nat → St → Prop) (h0 : ∃ k σ', I k σ' ∧ Wk C n σ σ') (round : ∀ k σ', I k σ' → awp C n c (thenK (fun σ2 => ∃ k' σ3, k' < k ∧ I k' σ3 ∧ Wk C n σ2 σ3) Q) σ') : awp C n (.loop c) Q σ := by
 obtain ⟨k0, σ0, hi, hw⟩ := h0
 refine awp_loop (γ := { x : Nat × St // I x.1 x.2 }) (fun g => g.1.2) (fun g => g.1.1) ⟨(k0, σ0), hi⟩ hw fun g => ?_
 refine awp_mono (round g.1.1 g.1.2 g.2) fun e σ2 hq => ?_
 cases e with
 | normal =>
  obtain ⟨k', σ3, hlt, hi', hw'⟩ := hq
  exact ⟨⟨(k', σ3), hi'⟩, hlt, hw'⟩
 | _ => exact hq
theorem awp_condB {C : Ctx} {n : Nat} {Q : Exit → St → Prop} {s : List (Nat × AV)} {m : List (Nat × AO)} {c : Operand} {x y : Code} {b : Bool} (hc : ev s c = .lit (.bool b)) (ht : b = true → awp C n x Q ⟨s, m⟩) (hf : b = false → awp C n y Q ⟨s, m⟩) : awp C n (.cond c x y) Q ⟨s, m⟩ :=
 awp_cond (b := b) (by cases c <;> exact hc) ht hf
theorem awp_condQ {C : Ctx} {n : Nat} {Q : Exit → St → Prop} {s : List (Nat × AV)} {m : List (Nat × AO)} {c : Operand} {x y : Code} {q : Prop} [Decidable q] (hc : ev s c = .lit (.bool (decide q))) (ht : q → awp C n x Q ⟨s, m⟩) (hf : ¬ q → awp C n y Q ⟨s, m⟩) : awp C n (.cond c x y) Q ⟨s, m⟩ :=
 awp_condB hc (fun h => ht (of_decide_eq_true h)) (fun h => hf (of_decide_eq_false h))
end Go.Ab

namespace Go.Ab
open Go.RowKit

def nm (k : IntKind) (x : Nat) : AV := .lit (.int k (x : Int))
def ns (k : IntKind) (xs : List Nat) : List AV := xs.map (nm k)
theorem ns_len {k : IntKind} {xs : List Nat} : (ns k xs).length = xs.length := by simp [ns]
def topOf : IntKind → Nat
 | .i8 => 127 | .i16 => 32767 | .i32 => 2147483647 | .i64 => 9223372036854775807
 | .u8 => 255 | .u16 => 65535 | .u32 => 4294967295 | .u64 => 18446744073709551615
theorem wrapN {k : IntKind} {x : Nat} (h : x ≤ topOf k) : k.wrap (x : Int) = (x : Int) := by
 cases k <;> simp only [topOf] at h <;> simp [IntKind.wrap, IntKind.bits, IntKind.signed] <;> omega
theorem wrap64 {x : Int} (h : -9223372036854775808 ≤ x) (h' : x ≤ 9223372036854775807) : IntKind.i64.wrap x = x := by
 simp [IntKind.wrap, IntKind.bits, IntKind.signed]; omega

theorem run_max {P : Program} {tys : Array TypeId} {t : TypeId} (a c : Int) (w : World) : (Builtin.max_ tys t #[.int .i64 a, .int .i64 c]).run P w = .ok (.int .i64 (max a c)) w := by
 have e : (if c > a then c else a) = max a c := by split <;> omega
 simp [Builtin.max_, Builtin.max2, e]
theorem run_min {P : Program} {tys : Array TypeId} {t : TypeId} (a c : Int) (w : World) : (Builtin.min_ tys t #[.int .i64 a, .int .i64 c]).run P w = .ok (.int .i64 (min a c)) w := by
 have e : (if c < a then c else a) = min a c := by split <;> omega
 simp [Builtin.min_, Builtin.min2, e]
def im (k : IntKind) (x : Int) : AV := .lit (.int k x)
def is (k : IntKind) (xs : List Int) : List AV := xs.map (im k)
theorem is_len {k : IntKind} {xs : List Int} : (is k xs).length = xs.length := by simp [is]
theorem is_bnd {k : IntKind} {xs : List Int} {c : Nat} (h : (is k xs).length ≤ c) : xs.length ≤ c := by rwa [is_len] at h
theorem nm_int {k : IntKind} {x : Int} {n : Nat} (h : x = (n : Int)) : AV.lit (.int k x) = nm k n := by rw [h]; rfl
theorem int_nm {k : IntKind} {x : Int} {n : Nat} (h : (n : Int) = x) : nm k n = AV.lit (.int k x) := by rw [← h]; rfl
def byts (a : ByteArray) : List Nat := a.data.toList.map UInt8.toNat
def strN (l : List Nat) : ByteArray := strOfNums (l.map fun (x : Nat) => (x : Int))
theorem strCells_ns (a : ByteArray) : (Lib.strCells a).map AV.lit = ns .u8 (byts a) := by simp [Lib.strCells, ns, byts, nm]
theorem byts_len (a : ByteArray) : (byts a).length = a.size := by simp [byts]
section
variable {C : Ctx} {ops : Array Oper} {s : List (Nat × AV)} {m : List (Nat × AO)} {os : List Oper} {K : List Eff → St → Prop} {d : Nat} {t : TypeId} {p : String} {af : Array Edge} {g : Option (Nat × Bool)}

theorem n_val {op : Op} {v : AV} (v' : AV) (e : v' = v) (h : (aops C ops ⟨(d, v) :: s, m⟩ os fun es σ' => K ({ val := v } :: es) σ') → aops C ops ⟨s, m⟩ (⟨some d, op, t, p, af, g⟩ :: os) K)
  (kk : aops C ops ⟨(d, v') :: s, m⟩ os fun es σ' => K ({ val := v' } :: es) σ') : aops C ops ⟨s, m⟩ (⟨some d, op, t, p, af, g⟩ :: os) K := by subst e; exact h kk

theorem n_add {xt yt : TypeId} {x y : Operand} {k : IntKind} (a c : Nat) (hg : Gd ops s g) (hx : ev s x = nm k a) (hy : ev s y = nm k c) (hr : a + c ≤ topOf k)
  (kk : aops C ops ⟨(d, nm k (a + c)) :: s, m⟩ os fun es σ' => K ({ val := nm k (a + c) } :: es) σ') : aops C ops ⟨s, m⟩ (⟨some d, .binOp .add xt x y yt, t, p, af, g⟩ :: os) K :=
 n_val (nm k (a + c)) (by simp [nm]) (o_add hg hx hy (by rw [← Int.natCast_add]; exact wrapN hr)) kk
theorem n_sub {xt yt : TypeId} {x y : Operand} {k : IntKind} (a c : Nat) (hg : Gd ops s g) (hx : ev s x = nm k a) (hy : ev s y = nm k c) (hc : c ≤ a) (hr : a ≤ topOf k)
  (kk : aops C ops ⟨(d, nm k (a - c)) :: s, m⟩ os fun es σ' => K ({ val := nm k (a - c) } :: es) σ') : aops C ops ⟨s, m⟩ (⟨some d, .binOp .sub xt x y yt, t, p, af, g⟩ :: os) K :=
 n_val (nm k (a - c)) (by simp [nm, Int.natCast_sub hc]) (o_sub hg hx hy (by rw [← Int.natCast_sub hc]; exact wrapN (by omega))) kk
theorem n_mul {xt yt : TypeId} {x y : Operand} {k : IntKind} (a c : Nat) (hg : Gd ops s g) (hx : ev s x = nm k a) (hy : ev s y = nm k c) (hr : a * c ≤ topOf k)
  (kk : aops C ops ⟨(d, nm k (a * c)) :: s, m⟩ os fun es σ' => K ({ val := nm k (a * c) } :: es) σ') : aops C ops ⟨s, m⟩ (⟨some d, .binOp .mul xt x y yt, t, p, af, g⟩ :: os) K :=
 n_val (nm k (a * c)) (by simp [nm]) (o_mul hg hx hy (by rw [← Int.natCast_mul]; exact wrapN hr)) kk
theorem n_quo {xt yt : TypeId} {x y : Operand} {k : IntKind} (a c : Nat) (hg : Gd ops s g) (hx : ev s x = nm k a) (hy : ev s y = nm k c) (hc : 0 < c) (hr : a / c ≤ topOf k)
  (kk : aops C ops ⟨(d, nm k (a / c)) :: s, m⟩ os fun es σ' => K ({ val := nm k (a / c) } :: es) σ') : aops C ops ⟨s, m⟩ (⟨some d, .binOp .quo xt x y yt, t, p, af, g⟩ :: os) K :=
 n_val (nm k (a / c)) (by simp [nm]) (o_quo hg hx hy (by omega) (by omega) (by rw [← Int.natCast_ediv]; exact wrapN hr)) kk
theorem n_rem {xt yt : TypeId} {x y : Operand} {k : IntKind} (a c : Nat) (hg : Gd ops s g) (hx : ev s x = nm k a) (hy : ev s y = nm k c) (hc : 0 < c)
  (kk : aops C ops ⟨(d, nm k (a % c)) :: s, m⟩ os fun es σ' => K ({ val := nm k (a % c) } :: es) σ') : aops C ops ⟨s, m⟩ (⟨some d, .binOp .rem xt x y yt, t, p, af, g⟩ :: os) K :=
 n_val (nm k (a % c)) (by simp [nm]) (o_rem hg hx hy (by omega) (by omega)) kk
theorem dec_eq {p q : Prop} [Decidable p] [Decidable q] (h : p ↔ q) : decide p = decide q := by simp [h]
def bp (q : Prop) [Decidable q] : AV := .lit (.bool (decide q))
theorem n_eql {xt yt : TypeId} {x y : Operand} {k : IntKind} (a c : Nat) (hg : Gd ops s g) (hx : ev s x = nm k a) (hy : ev s y = nm k c) (kk : aops C ops ⟨(d, bp (a = c)) :: s, m⟩ os fun es σ' => K ({ val := bp (a = c) } :: es) σ') :
  aops C ops ⟨s, m⟩ (⟨some d, .binOp .eql xt x y yt, t, p, af, g⟩ :: os) K := n_val (bp (a = c)) (by unfold bp; rw [dec_eq (p := a = c) (q := (a : Int) = c) (by omega)]) (o_eql hg hx hy) kk
theorem n_neq {xt yt : TypeId} {x y : Operand} {k : IntKind} (a c : Nat) (hg : Gd ops s g) (hx : ev s x = nm k a) (hy : ev s y = nm k c) (kk : aops C ops ⟨(d, bp (a ≠ c)) :: s, m⟩ os fun es σ' => K ({ val := bp (a ≠ c) } :: es) σ') :
  aops C ops ⟨s, m⟩ (⟨some d, .binOp .neq xt x y yt, t, p, af, g⟩ :: os) K := n_val (bp (a ≠ c)) (by unfold bp; rw [dec_eq (p := a ≠ c) (q := (a : Int) ≠ c) (by omega)]) (o_neq hg hx hy) kk
theorem n_lss {xt yt : TypeId} {x y : Operand} {k : IntKind} (a c : Nat) (hg : Gd ops s g) (hx : ev s x = nm k a) (hy : ev s y = nm k c) (kk : aops C ops ⟨(d, bp (a < c)) :: s, m⟩ os fun es σ' => K ({ val := bp (a < c) } :: es) σ') :
  aops C ops ⟨s, m⟩ (⟨some d, .binOp .lss xt x y yt, t, p, af, g⟩ :: os) K := n_val (bp (a < c)) (by unfold bp; rw [dec_eq (p := a < c) (q := (a : Int) < c) (by omega)]) (o_lss hg hx hy) kk
theorem n_leq {xt yt : TypeId} {x y : Operand} {k : IntKind} (a c : Nat) (hg : Gd ops s g) (hx : ev s x = nm k a) (hy : ev s y = nm k c) (kk : aops C ops ⟨(d, bp (a ≤ c)) :: s, m⟩ os fun es σ' => K ({ val := bp (a ≤ c) } :: es) σ') :
  aops C ops ⟨s, m⟩ (⟨some d, .binOp .leq xt x y yt, t, p, af, g⟩ :: os) K := n_val (bp (a ≤ c)) (by unfold bp; rw [dec_eq (p := a ≤ c) (q := (a : Int) ≤ c) (by omega)]) (o_leq hg hx hy) kk
theorem n_gtr {xt yt : TypeId} {x y : Operand} {k : IntKind} (a c : Nat) (hg : Gd ops s g) (hx : ev s x = nm k a) (hy : ev s y = nm k c) (kk : aops C ops ⟨(d, bp (c < a)) :: s, m⟩ os fun es σ' => K ({ val := bp (c < a) } :: es) σ') :
  aops C ops ⟨s, m⟩ (⟨some d, .binOp .gtr xt x y yt, t, p, af, g⟩ :: os) K := n_val (bp (c < a)) (by unfold bp; rw [dec_eq (p := c < a) (q := (c : Int) < a) (by omega)]) (o_gtr hg hx hy) kk
theorem n_geq {xt yt : TypeId} {x y : Operand} {k : IntKind} (a c : Nat) (hg : Gd ops s g) (hx : ev s x = nm k a) (hy : ev s y = nm k c) (kk : aops C ops ⟨(d, bp (c ≤ a)) :: s, m⟩ os fun es σ' => K ({ val := bp (c ≤ a) } :: es) σ') :
  aops C ops ⟨s, m⟩ (⟨some d, .binOp .geq xt x y yt, t, p, af, g⟩ :: os) K := n_val (bp (c ≤ a)) (by unfold bp; rw [dec_eq (p := c ≤ a) (q := (c : Int) ≤ a) (by omega)]) (o_geq hg hx hy) kk
theorem n_conv {src dst : TypeId} {x : Operand} {k k' : IntKind} (a : Nat) (hg : Gd ops s g) (hx : ev s x = nm k a) (hs : tyInt C.P src = some k) (hd : tyInt C.P dst = some k') (hr : a ≤ topOf k') (kk : aops C ops ⟨(d, nm k' a) :: s, m⟩ os fun es σ' => K ({ val := nm k' a } :: es) σ') :
  aops C ops ⟨s, m⟩ (⟨some d, .convert src dst x, t, p, af, g⟩ :: os) K := o_conv hg hx hs hd (wrapN hr) kk
theorem n_max {ty ty' : TypeId} {x y : Operand} (a c : Nat) (hg : Gd ops s g) (hx : ev s x = nm .i64 a) (hy : ev s y = nm .i64 c) (h : ∀ (a c : Int) w, (Builtin.max_ #[ty, ty'] t #[.int .i64 a, .int .i64 c]).run C.P w = .ok (.int .i64 (max a c)) w)
  (kk : aops C ops ⟨(d, nm .i64 (max a c)) :: s, m⟩ os fun es σ' => K ({ val := nm .i64 (max a c) } :: es) σ') :
  aops C ops ⟨s, m⟩ (⟨some d, .call { callee := .builtin .max, args := #[x, y], argTypes := #[ty, ty'] }, t, p, af, g⟩ :: os) K := n_val (nm .i64 (max a c)) (by unfold nm; rw [show ((max a c : Nat) : Int) = max (a : Int) c by omega]) (o_max hg hx hy (h _ _)) kk
theorem n_len {ty e : TypeId} {x : Operand} {k : IntKind} (xs : List Nat) (hg : Gd ops s g) (ht : C.P.underlying ty = some (.slice e)) (hx : ev s x = .sl 1 (ns k xs)) (kk : aops C ops ⟨(d, nm .i64 xs.length) :: s, m⟩ os fun es σ' => K ({ val := nm .i64 xs.length } :: es) σ') :
  aops C ops ⟨s, m⟩ (⟨some d, .call { callee := .builtin .len, args := #[x], argTypes := #[ty] }, t, p, af, g⟩ :: os) K := o_lenSl xs.length hg ht hx (by simp [ns]) kk
theorem n_lenRow {ty e e' : TypeId} {x : Operand} {id : Nat} {k : IntKind} (xs : List Nat) (hg : Gd ops s g) (ht : C.P.underlying ty = some (.slice e)) (hx : ev s x = .row id) (ho : lookO m id = some (.row e' 1 (ns k xs))) (kk : aops C ops ⟨(d, nm .i64 xs.length) :: s, m⟩ os fun es σ' => K ({ val := nm .i64 xs.length, use := [id] } :: es) σ') :
  aops C ops ⟨s, m⟩ (⟨some d, .call { callee := .builtin .len, args := #[x], argTypes := #[ty] }, t, p, af, g⟩ :: os) K := o_lenRow xs.length hg ht hx ho (by simp [ns]) kk
theorem n_index {ty : TypeId} {x y : Operand} {e by' : Nat} {k kk' : IntKind} (xs : List Nat) (i : Nat) (hg : Gd ops s g) (ht : tyElem C.P ty = some (e, 1, by')) (hx : ev s x = .sl 1 (ns k xs)) (hy : ev s y = nm kk' i) (h1 : i < xs.length)
  (kk : aops C ops ⟨(d, .ip ((ns k xs).drop i)) :: s, m⟩ os fun es σ' => K ({ val := .ip ((ns k xs).drop i) } :: es) σ') : aops C ops ⟨s, m⟩ (⟨some d, .indexAddr ty x y, t, p, af, g⟩ :: os) K :=
 o_index1 (i := (i : Int)) hg ht hx hy (by omega) (by simpa [ns] using h1) kk
theorem n_indexRow {ty : TypeId} {x y : Operand} {e e' id by' : Nat} {k kk' : IntKind} (xs : List Nat) (i : Nat) (hg : Gd ops s g) (ht : tyElem C.P ty = some (e, 1, by')) (hx : ev s x = .row id) (ho : lookO m id = some (.row e' 1 (ns k xs))) (hy : ev s y = nm kk' i) (h1 : i < xs.length)
  (kk : aops C ops ⟨(d, .ref id i) :: s, m⟩ os fun es σ' => K ({ val := .ref id i, use := [id] } :: es) σ') : aops C ops ⟨s, m⟩ (⟨some d, .indexAddr ty x y, t, p, af, g⟩ :: os) K :=
 o_indexRow1 (i := (i : Int)) hg ht hx ho hy (by omega) (by simpa [ns] using h1) kk
theorem n_loadI {ty : TypeId} {x : Operand} {k : IntKind} (xs : List Nat) (i : Nat) (hg : Gd ops s g) (ht : tySc C.P ty = true) (hx : ev s x = .ip ((ns k xs).drop i)) (h1 : i < xs.length)
  (kk : aops C ops ⟨(d, nm k (xs.getD i 0)) :: s, m⟩ os fun es σ' => K ({ val := nm k (xs.getD i 0) } :: es) σ') : aops C ops ⟨s, m⟩ (⟨some d, .load ty x, t, p, af, g⟩ :: os) K :=
 o_loadIS _ hg ht hx (dropMap0 0 h1) kk
theorem n_loadRow {ty : TypeId} {x : Operand} {id e' : Nat} {k : IntKind} (xs : List Nat) (i : Nat) (hg : Gd ops s g) (ht : tySc C.P ty = true) (hx : ev s x = .ref id i) (ho : lookO m id = some (.row e' 1 (ns k xs))) (h1 : i < xs.length)
  (kk : aops C ops ⟨(d, nm k (xs.getD i 0)) :: s, m⟩ os fun es σ' => K ({ val := nm k (xs.getD i 0), use := [id] } :: es) σ') : aops C ops ⟨s, m⟩ (⟨some d, .load ty x, t, p, af, g⟩ :: os) K :=
 o_loadS _ hg ht hx ho (getMap 0 h1) kk
theorem n_storeRow {ty : TypeId} {x y : Operand} {id e' : Nat} {k : IntKind} (xs : List Nat) (i v : Nat) (m' : List (Nat × AO)) (hg : Gd ops s g) (ht : tySize C.P ty = some 1) (hx : ev s x = .ref id i) (ho : lookO m id = some (.row e' 1 (ns k xs))) (hy : ev s y = nm k v) (h1 : i < xs.length)
  (hm : setO m id (.row e' 1 (ns k (xs.set i v))) = m') (kk : aops C ops ⟨s, m'⟩ os fun es σ' => K ({ val := .any, upd := [(id, some (.row e' 1 (ns k (xs.set i v))))], use := [id] } :: es) σ') : aops C ops ⟨s, m⟩ (⟨none, .store ty x y, t, p, af, g⟩ :: os) K :=
 o_storeRow (new := [nm k v]) (ns k (xs.set i v)) m' hg ht hx ho (by rw [hy]; rfl) rfl rfl (by simp [ns]; omega) (overMap (f := nm k) h1) hm kk
theorem n_append {ty : TypeId} {a x : Operand} {e by' : Nat} {z : List Value} {id i e' : Nat} {k : IntKind} (id' : Nat) (xs ys : List Nat) (m' : List (Nat × AO)) (hg : Gd ops s g) (ht : tyElem C.P ty = some (e, 1, by')) (hz : tyZero C.P e = some z) (hzl : z.length = 1)
  (hs : ev s a = .row id) (ho : lookO m id = some (.row e 1 (ns k xs))) (hx : ev s x = .row i) (hi : lookO m i = some (.row e' 1 (ns k ys))) (hb : (xs.length + ys.length) * by' ≤ 140737488355328) (hby : 0 < by')
  (hf : St.freshB ⟨s, m⟩ id' = true) (hm : delO m id = m') (kk : aops C ops ⟨(d, .row id') :: s, (id', .row e 1 (ns k (xs ++ ys))) :: m'⟩ os fun es σ' => K ({ val := .row id', upd := [(id', some (.row e 1 (ns k (xs ++ ys)))), (id, none)], use := [id, i], fresh := [id'] } :: es) σ') :
  aops C ops ⟨s, m⟩ (⟨some d, .call { callee := .builtin .append, args := #[a, x], argTypes := #[ty, ty] }, t, p, af, g⟩ :: os) K :=
 o_append id' (ns k ys) (ns k (xs ++ ys)) [id, i] m' hg ht rfl hz hzl hs ho (.inr ⟨i, e', hx, hi, rfl⟩) (by simp only [ns_len, Nat.div_one]; exact hb) (by simp only [ns_len]; have := Nat.le_mul_of_pos_right (xs.length + ys.length) hby; omega) (by simp [ns]) hf hm kk
theorem n_make {ty : TypeId} {x y : Operand} {e by' : Nat} {k kk kk' : IntKind} (id c : Nat) (hg : Gd ops s g) (ht : tyElem C.P ty = some (e, 1, by')) (hz : tyZero C.P e = some [.int k 0]) (hx : ev s x = nm kk c) (hy : ev s y = nm kk' c) (hb : by' * c ≤ 140737488355328) (hby : Nat.blt 0 by' = true) (hf : St.freshB ⟨s, m⟩ id = true)
  (kk : aops C ops ⟨(d, .row id) :: s, (id, .row e 1 (ns k (List.replicate c 0))) :: m⟩ os fun es σ' => K ({ val := .row id, upd := [(id, some (.row e 1 (ns k (List.replicate c 0))))], fresh := [id] } :: es) σ') : aops C ops ⟨s, m⟩ (⟨some d, .makeSlice ty x y, t, p, af, g⟩ :: os) K := by
 have e1 : ns k (List.replicate c 0) = List.replicate c (.lit (.int k 0)) := by simp [ns, nm]
 rw [e1] at kk
 exact o_makeN (c := (c : Int)) id hg ht hz rfl hx hy (by omega) (by simpa using hb) hby hf (by simpa using kk)
theorem n_make0 {ty : TypeId} {x y : Operand} {e by' : Nat} {z : List Value} {kk kk' : IntKind} (k : IntKind) (id c : Nat) (hg : Gd ops s g) (ht : tyElem C.P ty = some (e, 1, by')) (hz : tyZero C.P e = some z) (hx : ev s x = nm kk 0) (hy : ev s y = nm kk' c) (hb : by' * c ≤ 281474976710656) (hm : c ≤ 9223372036854775807) (hf : St.freshB ⟨s, m⟩ id = true)
  (kk : aops C ops ⟨(d, .row id) :: s, (id, .row e 1 (ns k [])) :: m⟩ os fun es σ' => K ({ val := .row id, upd := [(id, some (.row e 1 (ns k [])))], fresh := [id] } :: es) σ') : aops C ops ⟨s, m⟩ (⟨some d, .makeSlice ty x y, t, p, af, g⟩ :: os) K :=
 o_make0 (c := (c : Int)) id hg ht rfl hz hx hy (by omega) (by simpa using hb) (by omega) hf kk
theorem n_slice {ty : TypeId} {x : Operand} {lo hi mx : Option Operand} {e by' : Nat} {k : IntKind} (xs : List Nat) (l h : Nat) (hg : Gd ops s g) (ht : tyElem C.P ty = some (e, 1, by')) (hx : ev s x = .sl 1 (ns k xs))
  (hlo : (St.sem ⟨s, m⟩).loOk lo l) (hhi : (St.sem ⟨s, m⟩).hiOk hi xs.length h) (hmx : (St.sem ⟨s, m⟩).mxOk mx hi.isSome h) (h1 : l ≤ h) (h2 : h ≤ xs.length)
  (kk : aops C ops ⟨(d, .sl 1 (ns k ((xs.drop l).take (h - l)))) :: s, m⟩ os fun es σ' => K ({ val := .sl 1 (ns k ((xs.drop l).take (h - l))) } :: es) σ') : aops C ops ⟨s, m⟩ (⟨some d, .slice ty x lo hi mx, t, p, af, g⟩ :: os) K :=
 o_slice l h _ hg ht hx (by simp [ns]) hlo hhi hmx h1 h2 (by simp [ns, List.map_take, List.map_drop]) kk
theorem n_sliceX {ty : TypeId} {x : Operand} {lo hi mx : Option Operand} {e by' : Nat} {k : IntKind} (xs : List Nat) (l h : Nat) (hg : Gd ops s g) (ht : tyElem C.P ty = some (e, 1, by')) (hx : ev s x = .sl 1 (ns k xs))
  (hlo : (St.sem ⟨s, m⟩).loOk lo l) (hhi : (St.sem ⟨s, m⟩).hiOk hi xs.length h) (hmx : (St.sem ⟨s, m⟩).mxOk mx hi.isSome h) (hs : mx.isSome = true) (h1 : l ≤ h) (h2 : h ≤ xs.length)
  (kk : aops C ops ⟨(d, .slc 1 (ns k ((xs.drop l).take (h - l))) (h - l)) :: s, m⟩ os fun es σ' => K ({ val := .slc 1 (ns k ((xs.drop l).take (h - l))) (h - l) } :: es) σ') : aops C ops ⟨s, m⟩ (⟨some d, .slice ty x lo hi mx, t, p, af, g⟩ :: os) K :=
 o_sliceX l h _ hg ht hx (by simp [ns]) hlo hhi hmx hs h1 h2 (by simp [ns, List.map_take, List.map_drop]) kk
end
theorem n_bnd {k : IntKind} {xs : List Nat} {c : Nat} (h : (ns k xs).length ≤ c) : xs.length ≤ c := by rwa [ns_len] at h

theorem LeL.refl : ∀ (xs : List AV), LeL xs xs
 | [] => .nil
 | x :: xs => .cons (AV.le_refl x) (LeL.refl xs)
theorem ECalls.le {C : Ctx} {f : FuncId} {asx as' : List AV} {res : AV} (h : ECalls C f as' res) (hl : LeL asx as') : ECalls C f asx res := fun H L vals w hG hH hr => h H L vals w hG hH (hl.rep hr)
theorem AV.le_nil' {sz : Nat} {xs : List AV} (h : 0 < sz) (e : xs = []) : AV.le (.lit (.slice none 0 0)) (.sl sz xs) := by subst e; exact AV.le_nil h
theorem AV.le_eq {x y : AV} (h : x = y) : x.le y := by subst h; exact AV.le_refl _
def rowsOk (m : List (Nat × AO)) : List (Nat × Nat × List AV) → Prop
 | [] => True
 | (id, sz, cs) :: r => (∃ e, lookO m id = some (.row e sz cs)) ∧ rowsOk m r
theorem rowsOk_spec {s : List (Nat × AV)} {m : List (Nat × AO)} : ∀ {us : List (Nat × Nat × List AV)}, rowsOk m us → ∀ p ∈ us, ∃ e, (St.sem ⟨s, m⟩).μ p.1 = some (.row e p.2.1 p.2.2)
 | [], _, p, hp => by cases hp
 | (id, sz, cs) :: us, h, p, hp => by
  rcases List.mem_cons.1 hp with e | e
  ·subst e; exact h.1
  ·exact rowsOk_spec h.2 p e
def nodB : List Nat → Bool
 | [] => true
 | x :: xs => (xs.all fun y => !Nat.beq x y) && nodB xs
theorem nodB_spec : ∀ {l : List Nat}, nodB l = true → l.Nodup
 | [], _ => List.nodup_nil
 | x :: xs, h => by
  simp only [nodB, Bool.and_eq_true] at h
  refine List.nodup_cons.2 ⟨fun hm => ?_, nodB_spec h.2⟩
  have := List.all_eq_true.1 h.1 x hm
  simp at this
def delAll (m : List (Nat × AO)) : List (Nat × Nat × List AV) → List (Nat × AO)
 | [] => m
 | p :: r => delO (delAll m r) p.1
theorem lookO_delAll (m : List (Nat × AO)) (j : Nat) : ∀ us, lookO (delAll m us) j = if j ∈ us.map (·.1) then none else lookO m j
 | [] => by simp [delAll]
 | p :: us => by
  simp only [delAll, lookO_del, lookO_delAll m j us, List.map_cons, List.mem_cons]
  by_cases h1 : j = p.1 <;> by_cases h2 : j ∈ us.map (·.1) <;> simp only [h1, h2, if_true, if_false, true_or, or_true, or_false]
section
variable {C : Ctx} {ops : Array Oper} {s : List (Nat × AV)} {m : List (Nat × AO)} {os : List Oper} {K : List Eff → St → Prop} {d : Nat} {t : TypeId} {p : String} {af : Array Edge} {g : Option (Nat × Bool)}
theorem o_callG {y : Operand} {f : FuncId} {args : Array Operand} {tys : Array TypeId} {caps : List AV} (us : List (Nat × Nat × List AV)) (asx as' : List AV) (res : AV) (m' : List (Nat × AO)) (hg : Gd ops s g) (hb : callable C.P f = true) (hy : ev s y = .clo f caps) (hu : rowsOk m us) (hnd : nodB (us.map (·.1)) = true)
  (ha : frzAll us (evs s args.toList ++ caps) = asx) (hl : LeL asx as') (hc : ECalls C f as' res) (hm : delAll m us = m') (k : aops C ops ⟨(d, res) :: s, m'⟩ os fun es σ' => K ({ val := res, use := us.map (·.1), upd := us.map fun p => (p.1, none) } :: es) σ') :
  aops C ops ⟨s, m⟩ (⟨some d, .call { callee := .value y, args := args, argTypes := tys }, t, p, af, g⟩ :: os) K := by
 subst hm
 refine o_mem hg (.callG y f args tys caps us asx res rfl (by rw [ev_st]; exact hy) (callable_spec hb).1 (callable_spec hb).2 (rowsOk_spec hu) (nodB_spec hnd) (by rw [evs_st]; exact ha) (hc.le hl)) rfl ?_ k
 unfold St.app St.sem
 congr 1
 funext j
 rw [lookO_delAll]
 show lookO (appU _ m) j = _
 rw [lookO_app, lkU_drop]
 by_cases hj : j ∈ us.map (·.1) <;> simp only [hj, if_true, if_false]
theorem o_callB {y : Operand} {f : FuncId} {args : Array Operand} {tys : Array TypeId} {caps : List AV} (us : List (Nat × Nat × List AV)) (asx as' : List AV) (u : Value) (hg : Gd ops s g) (hb : callable C.P f = true) (hy : ev s y = .clo f caps) (hu : rowsOk m us) (hnd : nodB (us.map (·.1)) = true)
  (ha : frzAll us (evs s args.toList ++ caps) = asx) (hl : LeL asx as') (hc : ECalls C f as' (.lit u)) (k : aops C ops ⟨(d, .lit u) :: s, m⟩ os fun es σ' => K ({ val := .lit u, use := us.map (·.1) } :: es) σ') :
  aops C ops ⟨s, m⟩ (⟨some d, .call { callee := .value y, args := args, argTypes := tys }, t, p, af, g⟩ :: os) K :=
 o_val hg (.callB y f args tys caps us asx u rfl (by rw [ev_st]; exact hy) (callable_spec hb).1 (callable_spec hb).2 (rowsOk_spec hu) (nodB_spec hnd) (by rw [evs_st]; exact ha) (hc.le hl)) k
theorem n_as {v v' : AV} (e : v = v') (k : aops C ops ⟨(d, v') :: s, m⟩ os K) : aops C ops ⟨(d, v) :: s, m⟩ os K := by subst e; exact k
theorem lo_nm {k : IntKind} {y : Operand} {l : Nat} (h : ev s y = nm k l) : (St.sem ⟨s, m⟩).loOk (some y) l := ⟨k, (l : Int), by rw [ev_st]; exact h, by omega, by omega⟩
theorem hi_nm {k : IntKind} {y : Operand} {n l : Nat} (h : ev s y = nm k l) : (St.sem ⟨s, m⟩).hiOk (some y) n l := ⟨k, (l : Int), by rw [ev_st]; exact h, by omega, by omega⟩
theorem mx_nm {k : IntKind} {y : Operand} {l : Nat} (h : ev s y = nm k l) : (St.sem ⟨s, m⟩).mxOk (some y) true l := ⟨k, (l : Int), by rw [ev_st]; exact h, by omega, by omega, rfl⟩
def byt (a : ByteArray) (i : Nat) : Nat := (a.data.toList.getD i 0).toNat
theorem byt_lt (a : ByteArray) (i : Nat) : byt a i < 256 := (a.data.toList.getD i 0).toNat_lt
theorem n_indexS {ty : TypeId} {x y : Operand} {kk : IntKind} (a : ByteArray) (i : Nat) (hg : Gd ops s g) (ht : C.P.underlying ty = some .string) (hx : ev s x = .lit (.string a)) (hy : ev s y = nm kk i) (h1 : i < a.size)
  (k : aops C ops ⟨(d, nm .u8 (byt a i)) :: s, m⟩ os fun es σ' => K ({ val := nm .u8 (byt a i) } :: es) σ') : aops C ops ⟨s, m⟩ (⟨some d, .index ty x y, t, p, af, g⟩ :: os) K :=
 o_indexS (i := (i : Int)) (byt a i : Nat) hg ht hx hy (by omega) (by simpa using h1) rfl k
theorem n_lenS {ty : TypeId} {x : Operand} (a : ByteArray) (hg : Gd ops s g) (hx : ev s x = .lit (.string a)) (hs : C.P.underlying ty = some .string) (kk : aops C ops ⟨(d, nm .i64 a.size) :: s, m⟩ os fun es σ' => K ({ val := nm .i64 a.size } :: es) σ') :
  aops C ops ⟨s, m⟩ (⟨some d, .call { callee := .builtin .len, args := #[x], argTypes := #[ty] }, t, p, af, g⟩ :: os) K := o_lenS hg hx hs kk
theorem o_convW {src dst : TypeId} {x : Operand} {k k' : IntKind} {a : Int} (hg : Gd ops s g) (hx : ev s x = .lit (.int k a)) (hs : tyInt C.P src = some k) (hd : tyInt C.P dst = some k') (kk : aops C ops ⟨(d, .lit (.int k' (k'.wrap a))) :: s, m⟩ os fun es σ' => K ({ val := .lit (.int k' (k'.wrap a)) } :: es) σ') :
  aops C ops ⟨s, m⟩ (⟨some d, .convert src dst x, t, p, af, g⟩ :: os) K := o_pure1 rfl hg hx (fun ρ h1 w => by
   have u1 : C.P.underlying src = some (.int k) := by
    unfold tyInt at hs
    cases hu : C.P.underlying src with
    | none => simp [hu] at hs
    | some dd => cases dd <;> simp [hu] at hs; subst hs; rfl
   have u2 : C.P.underlying dst = some (.int k') := by
    unfold tyInt at hd
    cases hu : C.P.underlying dst with
    | none => simp [hu] at hd
    | some dd => cases dd <;> simp [hu] at hd; subst hd; rfl
   simp [execOp, h1, convert, run_underlying u1, run_underlying u2, Conv.intToInt]) kk
theorem o_negW {xt : TypeId} {x : Operand} {k : IntKind} {a : Int} (hg : Gd ops s g) (hx : ev s x = .lit (.int k a)) (kk : aops C ops ⟨(d, .lit (.int k (k.wrap (-a)))) :: s, m⟩ os fun es σ' => K ({ val := .lit (.int k (k.wrap (-a))) } :: es) σ') :
  aops C ops ⟨s, m⟩ (⟨some d, .unOp .neg xt x, t, p, af, g⟩ :: os) K := o_pure1 rfl hg hx (fun ρ h1 w => by simp [execOp, h1, Op.unary, Op.intArith]) kk
theorem i_len {ty e : TypeId} {x : Operand} {k : IntKind} (xs : List Int) (hg : Gd ops s g) (ht : C.P.underlying ty = some (.slice e)) (hx : ev s x = .sl 1 (is k xs)) (kk : aops C ops ⟨(d, nm .i64 xs.length) :: s, m⟩ os fun es σ' => K ({ val := nm .i64 xs.length } :: es) σ') :
  aops C ops ⟨s, m⟩ (⟨some d, .call { callee := .builtin .len, args := #[x], argTypes := #[ty] }, t, p, af, g⟩ :: os) K := o_lenSl xs.length hg ht hx (by simp [is]) kk
theorem i_index {ty : TypeId} {x y : Operand} {e by' : Nat} {k kk' : IntKind} (xs : List Int) (i : Nat) (hg : Gd ops s g) (ht : tyElem C.P ty = some (e, 1, by')) (hx : ev s x = .sl 1 (is k xs)) (hy : ev s y = nm kk' i) (h1 : i < xs.length)
  (kk : aops C ops ⟨(d, .ip ((is k xs).drop i)) :: s, m⟩ os fun es σ' => K ({ val := .ip ((is k xs).drop i) } :: es) σ') : aops C ops ⟨s, m⟩ (⟨some d, .indexAddr ty x y, t, p, af, g⟩ :: os) K :=
 o_index1 (i := (i : Int)) hg ht hx hy (by omega) (by simpa [is] using h1) kk
theorem i_loadI {ty : TypeId} {x : Operand} {k : IntKind} (xs : List Int) (i : Nat) (hg : Gd ops s g) (ht : tySc C.P ty = true) (hx : ev s x = .ip ((is k xs).drop i)) (h1 : i < xs.length)
  (kk : aops C ops ⟨(d, .lit (.int k (xs.getD i 0))) :: s, m⟩ os fun es σ' => K ({ val := .lit (.int k (xs.getD i 0)) } :: es) σ') : aops C ops ⟨s, m⟩ (⟨some d, .load ty x, t, p, af, g⟩ :: os) K :=
 o_loadIS (im k (xs.getD i 0)) hg ht hx (dropMap0 0 h1) kk
theorem n_appendS {ty tu : TypeId} {a x : Operand} {e id : Nat} (id' : Nat) (xs : List Nat) (str : ByteArray) (m' : List (Nat × AO)) (hg : Gd ops s g) (ht : tyElem C.P ty = some (e, 1, 1)) (hus : C.P.underlying tu = some .string) (hz : tyZ1 C.P e = some (.int .u8 0))
  (hs : ev s a = .row id) (ho : lookO m id = some (.row e 1 (ns .u8 xs))) (hx : ev s x = .lit (.string str)) (hb : xs.length + str.size ≤ 140737488355328) (hf : St.freshB ⟨s, m⟩ id' = true) (hm : delO m id = m')
  (kk : aops C ops ⟨(d, .row id') :: s, (id', .row e 1 (ns .u8 (xs ++ byts str))) :: m'⟩ os fun es σ' => K ({ val := .row id', upd := [(id', some (.row e 1 (ns .u8 (xs ++ byts str)))), (id, none)], use := [id], fresh := [id'] } :: es) σ') :
  aops C ops ⟨s, m⟩ (⟨some d, .call { callee := .builtin .append, args := #[a, x], argTypes := #[ty, tu] }, t, p, af, g⟩ :: os) K := by
 have hne : id' ≠ id := fun e => by subst e; rw [lookO_none_of_fr hf] at ho; cases ho
 have e1 : ns .u8 xs ++ (Lib.strCells str).map AV.lit = ns .u8 (xs ++ byts str) := by rw [strCells_ns]; simp [ns]
 have hst := Step.appendS (C := C) (S := St.sem ⟨s, m⟩) (o := ⟨some d, .call { callee := .builtin .append, args := #[a, x], argTypes := #[ty, tu] }, t, p, af, g⟩) ty tu a x e id id' (ns .u8 xs) str rfl ht hus hz (by rw [ev_st]; exact hs) ho (by rw [ev_st]; exact hx) (by rw [ns_len]; exact hb)
 rw [e1] at hst
 exact o_mem hg hst (by simp [hf]) (sem_append m' hm hne) kk
theorem n_strOf {ty ty' : TypeId} {x : Operand} {id e : Nat} (xs : List Nat) (hg : Gd ops s g) (ht : C.P.underlying ty = some (.slice e)) (he : C.P.underlying e = some (.int .u8)) (ht' : C.P.underlying ty' = some .string) (hx : ev s x = .row id) (ho : lookO m id = some (.row e 1 (ns .u8 xs)))
  (k : aops C ops ⟨(d, .lit (.string (strN xs))) :: s, m⟩ os fun es σ' => K ({ val := .lit (.string (strN xs)), use := [id] } :: es) σ') : aops C ops ⟨s, m⟩ (⟨some d, .convert ty ty' x, t, p, af, g⟩ :: os) K :=
 o_strOf (xs.map fun (x : Nat) => (x : Int)) hg ht he ht' hx ho (by simp [ns, nm]) k
theorem o_mv {x : Operand} (v : AV) (hx : ev s x = v) (k : aops C ops ⟨(d, v) :: s, m⟩ os fun es σ' => K ({ val := v } :: es) σ') : aops C ops ⟨s, m⟩ (⟨some d, .move x, t, p, af, none⟩ :: os) K := o_move v Gd.none hx k
theorem o_as {x : Operand} (v : AV) (hx : ev s x = v) (k : aops C ops ⟨(d, v) :: s, m⟩ os fun es σ' => K ({ val := v } :: es) σ') : aops C ops ⟨s, m⟩ (⟨some d, .assign x, t, p, af, none⟩ :: os) K := o_assign v Gd.none hx k
theorem o_ct {f : FuncId} {args : Array Operand} {tys : Array TypeId} {asx : List AV} {res : AV} (hc : ECalls C f asx res) (hg : Gd ops s g) (hb : callable C.P f = true) (ha : evs s args.toList = asx) (k : aops C ops ⟨(d, res) :: s, m⟩ os fun es σ' => K ({ val := res } :: es) σ') :
  aops C ops ⟨s, m⟩ (⟨some d, .call { callee := .value (.func f), args := args, argTypes := tys }, t, p, af, g⟩ :: os) K := o_call asx res hg hb ha hc k
end
end Go.Ab

namespace Go.Mth
def val : List Nat → Nat
 | [] => 0
 | x :: xs => x + 1000000000 * val xs
def Dig (xs : List Nat) : Prop := ∀ x ∈ xs, x < 1000000000
def digs (n : Nat) : List Nat := if h : n = 0 then [] else n % 1000000000 :: digs (n / 1000000000)
termination_by n
decreasing_by omega
def dgn : Nat → Nat → List Nat
 | 0, _ => []
 | k + 1, n => n % 1000000000 :: dgn k (n / 1000000000)
def sgn (z : Int) : Int := if z = 0 then 0 else if z < 0 then -1 else 1
def cmpN (a b : Nat) : Int := if a < b then -1 else if b < a then 1 else 0

theorem Dig.nil : Dig [] := fun x h => by cases h
theorem Dig.cons {x : Nat} {xs : List Nat} (h : x < 1000000000) (t : Dig xs) : Dig (x :: xs) := fun y hy => by
 rcases List.mem_cons.1 hy with e | e
 ·omega
 ·exact t y e
theorem Dig.head {x : Nat} {xs : List Nat} (h : Dig (x :: xs)) : x < 1000000000 := h x (by simp)
theorem Dig.tail {x : Nat} {xs : List Nat} (h : Dig (x :: xs)) : Dig xs := fun y hy => h y (by simp [hy])
theorem Dig.getD {xs : List Nat} (h : Dig xs) (i : Nat) : xs.getD i 0 < 1000000000 := by
 by_cases hi : i < xs.length
 ·rw [List.getD_eq_getElem?_getD, List.getElem?_eq_getElem hi]; exact h _ (List.getElem_mem hi)
 ·rw [List.getD_eq_getElem?_getD, List.getElem?_eq_none (by omega)]; decide
theorem Dig.app {xs ys : List Nat} (h : Dig xs) (k : Dig ys) : Dig (xs ++ ys) := fun x hx => by
 rcases List.mem_append.1 hx with e | e
 ·exact h x e
 ·exact k x e
theorem Dig.snoc {xs : List Nat} {x : Nat} (h : Dig xs) (k : x < 1000000000) : Dig (xs ++ [x]) := h.app (Dig.nil.cons k)
theorem Dig.take {xs : List Nat} (h : Dig xs) (n : Nat) : Dig (xs.take n) := fun x hx => h x (List.mem_of_mem_take hx)
theorem Dig.set {xs : List Nat} (h : Dig xs) {i x : Nat} (k : x < 1000000000) : Dig (xs.set i x) := fun y hy => by
 rcases List.mem_or_eq_of_mem_set hy with e | e
 ·exact h y e
 ·omega
theorem dgn_dig : ∀ (k n : Nat), Dig (dgn k n)
 | 0, _ => Dig.nil
 | k + 1, n => (dgn_dig k _).cons (Nat.mod_lt _ (by decide))
theorem val_dgn : ∀ (k n : Nat), val (dgn k n) = n % 1000000000 ^ k
 | 0, n => by simp [dgn, val, Nat.mod_one]
 | k + 1, n => by
  rw [dgn, val, val_dgn k, Nat.pow_succ, Nat.mul_comm (1000000000 ^ k), Nat.mod_mul]
theorem val_lt : ∀ {xs : List Nat}, Dig xs → val xs < 1000000000 ^ xs.length
 | [], _ => by simp [val]
 | x :: xs, h => by
  have := val_lt h.tail
  have h1 := h.head
  simp only [val, List.length_cons, Nat.pow_succ]
  omega
theorem eq_dgn : ∀ {xs : List Nat}, Dig xs → xs = dgn xs.length (val xs)
 | [], _ => rfl
 | x :: xs, h => by
  have h1 := h.head
  simp only [List.length_cons, dgn, val]
  rw [show (x + 1000000000 * val xs) % 1000000000 = x by omega, show (x + 1000000000 * val xs) / 1000000000 = val xs by omega, ← eq_dgn h.tail]
theorem val_app : ∀ (xs ys : List Nat), val (xs ++ ys) = val xs + 1000000000 ^ xs.length * val ys
 | [], ys => by simp [val]
 | x :: xs, ys => by
  simp only [List.cons_append, val, val_app xs ys, List.length_cons, Nat.pow_succ, Nat.mul_add]
  rw [Nat.mul_comm (1000000000 ^ xs.length) 1000000000, Nat.mul_assoc]
  omega
theorem val_snoc (xs : List Nat) (x : Nat) : val (xs ++ [x]) = val xs + 1000000000 ^ xs.length * x := by rw [val_app]; simp [val]
theorem digs_zero : digs 0 = [] := by rw [digs]; simp
theorem digs_pos {n : Nat} (h : 0 < n) : digs n = n % 1000000000 :: digs (n / 1000000000) := by rw [digs]; simp [Nat.ne_of_gt h]
theorem digs_dig (n : Nat) : Dig (digs n) := by
 induction n using Nat.strongRecOn with
 | _ n ih =>
  by_cases h : n = 0
  ·subst h; rw [digs_zero]; exact Dig.nil
  ·rw [digs_pos (by omega)]; exact (ih (n / 1000000000) (by omega)).cons (Nat.mod_lt _ (by decide))
theorem val_digs (n : Nat) : val (digs n) = n := by
 induction n using Nat.strongRecOn with
 | _ n ih =>
  by_cases h : n = 0
  ·subst h; rw [digs_zero]; rfl
  ·rw [digs_pos (by omega), val, ih (n / 1000000000) (by omega)]; omega
theorem digs_len_zero {n : Nat} : (digs n).length = 0 ↔ n = 0 := by
 constructor
 ·intro h
  have := List.eq_nil_of_length_eq_zero h
  have h2 := val_digs n
  rw [this] at h2
  exact h2.symm
 ·intro h; subst h; rw [digs_zero]; rfl
def Trim (xs : List Nat) : Prop := ∀ h : xs ≠ [], xs.getLast h ≠ 0
theorem val_pos_of_trim : ∀ {xs : List Nat}, xs ≠ [] → Trim xs → 0 < val xs
 | [], h, _ => absurd rfl h
 | [x], _, t => by have := t (by simp); simp at this; simp [val]; omega
 | x :: y :: xs, _, t => by
  have := val_pos_of_trim (xs := y :: xs) (by simp) (fun h => by have := t (by simp); simpa using this)
  simp only [val] at this ⊢
  omega
theorem eq_digs : ∀ {xs : List Nat}, Dig xs → Trim xs → xs = digs (val xs)
 | [], _, _ => by simp [val, digs_zero]
 | x :: xs, h, t => by
  have h1 := h.head
  have tt : Trim xs := fun hx => by have := t (by simp); simpa [List.getLast_cons hx] using this
  have hp := val_pos_of_trim (xs := x :: xs) (by simp) t
  rw [digs_pos hp]
  simp only [val]
  rw [show (x + 1000000000 * val xs) % 1000000000 = x by omega, show (x + 1000000000 * val xs) / 1000000000 = val xs by omega, ← eq_digs h.tail tt]
theorem digs_trim (n : Nat) : Trim (digs n) := by
 induction n using Nat.strongRecOn with
 | _ n ih =>
  intro h
  by_cases hn : n = 0
  ·subst hn; rw [digs_zero] at h; exact absurd rfl h
  ·have hd := digs_pos (n := n) (by omega)
   have hlt := ih (n / 1000000000) (by omega)
   by_cases h2 : digs (n / 1000000000) = []
   ·have h3 : n / 1000000000 = 0 := digs_len_zero.1 (by rw [h2]; rfl)
    simp only [hd, h2, List.getLast_singleton]
    omega
   ·simp only [hd, List.getLast_cons h2]
    exact hlt h2
theorem take_getD_zero {xs : List Nat} {n : Nat} (hn : 0 < n) (hl : n ≤ xs.length) (h : xs.getD (n - 1) 0 = 0) : val (xs.take n) = val (xs.take (n - 1)) := by
 have e : xs.take n = xs.take (n - 1) ++ [xs.getD (n - 1) 0] := by
  rw [show n = (n - 1) + 1 by omega, List.take_add_one]
  rw [List.getD_eq_getElem?_getD, Nat.add_sub_cancel, List.getElem?_eq_getElem (by omega)]
  rfl
 rw [e, val_snoc, h]; simp
theorem trim_digs {xs : List Nat} (hd : Dig xs) {n : Nat} (hl : n ≤ xs.length) (hv : val (xs.take n) = val xs) (h : n = 0 ∨ xs.getD (n - 1) 0 ≠ 0) : xs.take n = digs (val xs) := by
 rw [← hv]
 refine eq_digs (hd.take n) fun hne => ?_
 rcases h with h | h
 ·subst h; simp at hne
 ·have hlen : (xs.take n).length = n := by simp; omega
  have hn : 0 < n := by
   cases n with
   | zero => simp at hne
   | succ n => omega
  rw [List.getLast_eq_getElem]
  simp only [List.getElem_take, hlen]
  rw [List.getD_eq_getElem?_getD, List.getElem?_eq_getElem (by omega)] at h
  simpa using h

theorem val_take_succ (xs : List Nat) (j : Nat) : val (xs.take (j + 1)) = val (xs.take j) + 1000000000 ^ j * xs.getD j 0 := by
 by_cases h : j < xs.length
 ·have e : xs.take (j + 1) = xs.take j ++ [xs.getD j 0] := by
   rw [List.take_add_one, List.getD_eq_getElem?_getD, List.getElem?_eq_getElem h]; rfl
  rw [e, val_snoc, List.length_take, Nat.min_eq_left (by omega)]
 ·rw [List.take_of_length_le (by omega), List.take_of_length_le (by omega), List.getD_eq_getElem?_getD, List.getElem?_eq_none (by omega)]; simp
theorem val_split (xs : List Nat) {j : Nat} (h : j ≤ xs.length) : val xs = val (xs.take j) + 1000000000 ^ j * val (xs.drop j) := by
 have := val_app (xs.take j) (xs.drop j)
 rw [List.take_append_drop, List.length_take, Nat.min_eq_left h] at this
 exact this
theorem val_take_all {xs : List Nat} {j : Nat} (h : xs.length ≤ j) : val (xs.take j) = val xs := by rw [List.take_of_length_le h]
theorem val_drop_succ {xs : List Nat} {j : Nat} (h : j < xs.length) : val (xs.drop j) = xs.getD j 0 + 1000000000 * val (xs.drop (j + 1)) := by
 rw [List.drop_eq_getElem_cons h, val, List.getD_eq_getElem?_getD, List.getElem?_eq_getElem h]; rfl
theorem val_drop_all {xs : List Nat} {j : Nat} (h : xs.length ≤ j) : val (xs.drop j) = 0 := by rw [List.drop_of_length_le h]; rfl
theorem cmp_lt {a b : List Nat} (ha : Dig a) {j : Nat} (hja : j < a.length) (hjb : j < b.length) (hd : val (a.drop (j + 1)) = val (b.drop (j + 1))) (h : a.getD j 0 < b.getD j 0) : val a < val b := by
 rw [val_split a (j := j) (by omega), val_split b (j := j) (by omega), val_drop_succ hja, val_drop_succ hjb, hd]
 have h1 := val_lt (ha.take j)
 rw [List.length_take, Nat.min_eq_left (by omega)] at h1
 have h2 : 1000000000 ^ j * (a.getD j 0 + 1 + 1000000000 * val (b.drop (j + 1))) ≤ 1000000000 ^ j * (b.getD j 0 + 1000000000 * val (b.drop (j + 1))) := Nat.mul_le_mul_left _ (by omega)
 have h3 : 1000000000 ^ j * (a.getD j 0 + 1 + 1000000000 * val (b.drop (j + 1))) = 1000000000 ^ j * (a.getD j 0 + 1000000000 * val (b.drop (j + 1))) + 1000000000 ^ j := by
  rw [show a.getD j 0 + 1 + 1000000000 * val (b.drop (j + 1)) = (a.getD j 0 + 1000000000 * val (b.drop (j + 1))) + 1 by omega, Nat.mul_add, Nat.mul_one]
 omega
theorem digs_lo (n : Nat) (h : 0 < n) : 1000000000 ^ ((digs n).length - 1) ≤ n := by
 induction n using Nat.strongRecOn with
 | _ n ih =>
  rw [digs_pos h]
  simp only [List.length_cons, Nat.add_sub_cancel]
  by_cases h2 : n / 1000000000 = 0
  ·rw [h2, digs_zero]; simp; omega
  ·have h3 := ih (n / 1000000000) (by omega) (by omega)
   have hl : 0 < (digs (n / 1000000000)).length := by
    rcases Nat.eq_zero_or_pos (digs (n / 1000000000)).length with e | e
    ·exact absurd (digs_len_zero.1 e) h2
    ·exact e
   have e : 1000000000 ^ (digs (n / 1000000000)).length = 1000000000 ^ ((digs (n / 1000000000)).length - 1) * 1000000000 := by
    rw [← Nat.pow_succ]; congr 1; omega
   rw [e]
   omega
theorem digs_hi (n : Nat) : n < 1000000000 ^ (digs n).length := by
 have := val_lt (digs_dig n)
 rwa [val_digs] at this
theorem digs_len_lt {m n : Nat} (h : (digs m).length < (digs n).length) : m < n := by
 have h1 := digs_hi m
 have hn : 0 < n := by
  rcases Nat.eq_zero_or_pos n with e | e
  ·subst e; rw [digs_zero] at h; simp at h
  ·exact e
 have h2 := digs_lo n hn
 have h3 : 1000000000 ^ (digs m).length ≤ 1000000000 ^ ((digs n).length - 1) := Nat.pow_le_pow_right (by decide) (by omega)
 omega
theorem digs_len_le {m n : Nat} (h : m ≤ n) : (digs m).length ≤ (digs n).length := by
 rcases Nat.lt_or_ge (digs n).length (digs m).length with e | e
 ·have := digs_len_lt e; omega
 ·exact e
theorem digs_len_of_lt {n k : Nat} (h : n < 1000000000 ^ k) : (digs n).length ≤ k := by
 by_cases hn : n = 0
 ·subst hn; rw [digs_zero]; simp
 ·have h1 := digs_lo n (by omega)
  rcases Nat.lt_or_ge k (digs n).length with e | e
  ·have : 1000000000 ^ k ≤ 1000000000 ^ ((digs n).length - 1) := Nat.pow_le_pow_right (by decide) (by omega)
   omega
  ·exact e
theorem cmpN_len {m n : Nat} (h : (digs m).length ≠ (digs n).length) : cmpN m n = if (digs m).length < (digs n).length then -1 else 1 := by
 unfold cmpN
 by_cases h1 : (digs m).length < (digs n).length
 ·rw [if_pos h1, if_pos (digs_len_lt h1)]
 ·have := digs_len_lt (m := n) (n := m) (by omega)
  rw [if_neg h1, if_neg (by omega), if_pos this]
theorem cmpN_lt {m n j : Nat} (h1 : j < (digs m).length) (h2 : (digs m).length = (digs n).length) (hd : val ((digs m).drop (j + 1)) = val ((digs n).drop (j + 1))) (h : (digs m).getD j 0 < (digs n).getD j 0) : cmpN m n = -1 := by
 have := cmp_lt (digs_dig m) h1 (by omega) hd h
 rw [val_digs, val_digs] at this
 unfold cmpN
 rw [if_pos this]
theorem cmpN_gt {m n j : Nat} (h1 : j < (digs m).length) (h2 : (digs m).length = (digs n).length) (hd : val ((digs m).drop (j + 1)) = val ((digs n).drop (j + 1))) (h : (digs n).getD j 0 < (digs m).getD j 0) : cmpN m n = 1 := by
 have := cmp_lt (digs_dig n) (by omega) h1 hd.symm h
 rw [val_digs, val_digs] at this
 unfold cmpN
 rw [if_neg (by omega), if_pos this]
theorem cmpN_eq {m n : Nat} (h : val ((digs m).drop 0) = val ((digs n).drop 0)) : cmpN m n = 0 := by
 simp only [List.drop_zero, val_digs] at h
 subst h
 simp [cmpN]
theorem carry (i s : Nat) : 1000000000 ^ i * (s % 1000000000) + 1000000000 ^ (i + 1) * (s / 1000000000) = 1000000000 ^ i * s := by
 rw [Nat.pow_succ, Nat.mul_assoc, ← Nat.mul_add, Nat.mod_add_div]
theorem add_step {r a b : List Nat} {i c s : Nat} (hl : r.length = i) (hv : val r + 1000000000 ^ i * c = val (a.take i) + val (b.take i)) (hs : s = a.getD i 0 + b.getD i 0 + c) :
  val (r ++ [s % 1000000000]) + 1000000000 ^ (i + 1) * (s / 1000000000) = val (a.take (i + 1)) + val (b.take (i + 1)) := by
 rw [val_snoc, hl, Nat.add_assoc, carry, val_take_succ, val_take_succ, hs, Nat.mul_add, Nat.mul_add]
 omega
def moreN (m n : Nat) : Nat := if m + n < 1000000000 ^ max (digs m).length (digs n).length then max (digs m).length (digs n).length else max (digs m).length (digs n).length + 1
theorem val_more (m n : Nat) : val (dgn (moreN m n) (m + n)) = m + n := by
 rw [val_dgn, Nat.mod_eq_of_lt]
 have h1 := digs_hi m
 have h2 := digs_hi n
 have h3 : 1000000000 ^ (digs m).length ≤ 1000000000 ^ max (digs m).length (digs n).length := Nat.pow_le_pow_right (by decide) (by omega)
 have h4 : 1000000000 ^ (digs n).length ≤ 1000000000 ^ max (digs m).length (digs n).length := Nat.pow_le_pow_right (by decide) (by omega)
 unfold moreN
 split
 ·assumption
 ·rw [Nat.pow_succ]; omega
theorem val_plus (m n : Nat) : val (dgn (max (digs m).length (digs n).length + 1) (m + n)) = m + n := by
 rw [val_dgn, Nat.mod_eq_of_lt]
 have h1 := digs_hi m
 have h2 := digs_hi n
 have h3 : 1000000000 ^ (digs m).length ≤ 1000000000 ^ max (digs m).length (digs n).length := Nat.pow_le_pow_right (by decide) (by omega)
 have h4 : 1000000000 ^ (digs n).length ≤ 1000000000 ^ max (digs m).length (digs n).length := Nat.pow_le_pow_right (by decide) (by omega)
 rw [Nat.pow_succ]; omega
theorem val_minus (m n : Nat) : val (dgn (digs m).length (m - n)) = m - n := by
 rw [val_dgn, Nat.mod_eq_of_lt]
 have := digs_hi m
 omega
theorem more_fin {r : List Nat} {m n i : Nat} (hl : r.length = i) (hd : Dig r) (h1 : (digs m).length ≤ i) (h2 : (digs n).length ≤ i) (hv : val r + 1000000000 ^ i * 0 = val ((digs m).take i) + val ((digs n).take i)) (hi : i ≤ max (digs m).length (digs n).length ∨ (i = max (digs m).length (digs n).length + 1 ∧ 1000000000 ^ max (digs m).length (digs n).length ≤ m + n)) : r = dgn (moreN m n) (m + n) := by
 rw [val_take_all h1, val_take_all h2, val_digs, val_digs, Nat.mul_zero, Nat.add_zero] at hv
 have e := eq_dgn hd
 rw [hl, hv] at e
 have hlt := val_lt hd
 rw [hl, hv] at hlt
 rw [e]
 congr 1
 unfold moreN
 rcases hi with h | ⟨h, h'⟩
 ·have : i = max (digs m).length (digs n).length := by omega
  rw [← this, if_pos hlt]
 ·rw [if_neg (by omega), h]
theorem sub_step {r a b : List Nat} {i c x c' : Nat} (hl : r.length = i) (hv : val r + val (b.take i) = val (a.take i) + 1000000000 ^ i * c) (hs : x + b.getD i 0 + c = a.getD i 0 + 1000000000 * c') :
  val (r ++ [x]) + val (b.take (i + 1)) = val (a.take (i + 1)) + 1000000000 ^ (i + 1) * c' := by
 have h := congrArg (fun t => 1000000000 ^ i * t) hs
 simp only [Nat.mul_add] at h
 rw [val_snoc, hl, val_take_succ, val_take_succ, Nat.pow_succ, Nat.mul_assoc]
 omega
theorem less_fin {r : List Nat} {m n c : Nat} (hl : r.length = (digs m).length) (hd : Dig r) (hnm : n ≤ m) (hv : val r + val ((digs n).take (digs m).length) = val ((digs m).take (digs m).length) + 1000000000 ^ (digs m).length * c) : r = dgn (digs m).length (m - n) := by
 have hle := digs_len_le hnm
 rw [val_take_all hle, val_take_all (Nat.le_refl _), val_digs, val_digs] at hv
 have e := eq_dgn hd
 have hlt := val_lt hd
 rw [hl] at e hlt
 have hm := digs_hi m
 have hc : c = 0 := by
  rcases Nat.eq_zero_or_pos c with h | h
  ·exact h
  ·have : 1000000000 ^ (digs m).length * 1 ≤ 1000000000 ^ (digs m).length * c := Nat.mul_le_mul_left _ h
   omega
 subst hc
 rw [e]
 congr 1
 omega
theorem dgn_eq {r : List Nat} {k n : Nat} (hd : Dig r) (hl : r.length = k) (hv : val r = n) : r = dgn k n := by
 have := eq_dgn hd
 rw [hl, hv] at this
 exact this
theorem getD_ge {xs : List Nat} {i : Nat} (h : xs.length ≤ i) : xs.getD i 0 = 0 := by rw [List.getD_eq_getElem?_getD, List.getElem?_eq_none h]; rfl
def cmpZ (x y : Int) : Int := if x < y then -1 else if y < x then 1 else 0
theorem cmpN_ge {m n : Nat} (h : (0 : Int) ≤ cmpN m n) : n ≤ m := by unfold cmpN at h; split at h <;> omega
theorem cmpN_ng {m n : Nat} (h : ¬ (0 : Int) ≤ cmpN m n) : m ≤ n := by unfold cmpN at h; split at h <;> omega
theorem cmpZ_neg {x y : Int} (hx : x < 0) (h : sgn x = sgn y) : cmpZ x y = cmpN y.natAbs x.natAbs := by
 unfold sgn at h; unfold cmpZ cmpN
 repeat' split at h
 all_goals (repeat' split)
 all_goals omega
theorem cmpZ_pos {x y : Int} (hx : ¬ x < 0) (h : sgn x = sgn y) : cmpZ x y = cmpN x.natAbs y.natAbs := by
 unfold sgn at h; unfold cmpZ cmpN
 repeat' split at h
 all_goals (repeat' split)
 all_goals omega
theorem cmpZ_sgn_lt {x y : Int} (h : sgn x < sgn y) : cmpZ x y = -1 := by
 unfold sgn at h; unfold cmpZ
 repeat' split at h
 all_goals (repeat' split)
 all_goals omega
theorem cmpZ_sgn_gt {x y : Int} (h : sgn x ≠ sgn y) (h2 : ¬ sgn x < sgn y) : cmpZ x y = 1 := by
 unfold sgn at h h2; unfold cmpZ
 repeat' split at h
 all_goals (repeat' split)
 all_goals (repeat' split at h2)
 all_goals omega
theorem sgn_lo (x : Int) : -1 ≤ sgn x ∧ sgn x ≤ 1 := by unfold sgn; (repeat' split) <;> omega
theorem more_hi {m n i c : Nat} {r : List Nat} (hc : c ≤ 1) (hv : val r + 1000000000 ^ i * c = val ((digs m).take i) + val ((digs n).take i)) (hi : i ≤ max (digs m).length (digs n).length ∨ (i = max (digs m).length (digs n).length + 1 ∧ c = 0 ∧ 1000000000 ^ (max (digs m).length (digs n).length) ≤ m + n)) (hg : i < (digs m).length ∨ i < (digs n).length ∨ 0 < c) :
  i + 1 ≤ max (digs m).length (digs n).length ∨ (i + 1 = max (digs m).length (digs n).length + 1 ∧ ((digs m).getD i 0 + (digs n).getD i 0 + c) / 1000000000 = 0 ∧ 1000000000 ^ (max (digs m).length (digs n).length) ≤ m + n) := by
 by_cases hk : i + 1 ≤ max (digs m).length (digs n).length
 ·exact Or.inl hk
 ·refine Or.inr ⟨by omega, ?_, ?_⟩
  ·rw [getD_ge (xs := digs m) (by omega), getD_ge (xs := digs n) (by omega)]; omega
  ·have hik : i = max (digs m).length (digs n).length := by omega
   have hc1 : c = 1 := by omega
   rw [val_take_all (xs := digs m) (by omega), val_take_all (xs := digs n) (by omega), val_digs, val_digs, hc1] at hv
   rw [← hik]; omega
theorem val_set : ∀ {xs : List Nat} {i : Nat} (v : Nat), i < xs.length → val (xs.set i v) + 1000000000 ^ i * xs.getD i 0 = val xs + 1000000000 ^ i * v
 | [], i, v, h => by simp at h
 | x :: xs, 0, v, h => by simp [val]; omega
 | x :: xs, i + 1, v, h => by
  have ih := val_set (xs := xs) (i := i) v (by simpa using h)
  have e : (x :: xs).getD (i + 1) 0 = xs.getD i 0 := by simp [List.getD]
  rw [List.set_cons_succ, val, val, e, Nat.pow_succ, Nat.mul_comm (1000000000 ^ i) 1000000000, Nat.mul_assoc, Nat.mul_assoc]
  omega
theorem Dig.mulb {a b : List Nat} (ha : Dig a) (hb : Dig b) (i k : Nat) : a.getD i 0 * b.getD k 0 ≤ 999999998000000001 := by
 have h1 := ha.getD i
 have h2 := hb.getD k
 have := Nat.mul_le_mul (show a.getD i 0 ≤ 999999999 by omega) (show b.getD k 0 ≤ 999999999 by omega)
 omega
theorem mul_step {o b : List Nat} {i k c x ai P : Nat} (hk : i + k < o.length) (hv : val o + 1000000000 ^ (i + k) * c = P + 1000000000 ^ i * (ai * val (b.take k))) (hx : x = o.getD (i + k) 0 + ai * b.getD k 0 + c) :
  val (o.set (i + k) (x % 1000000000)) + 1000000000 ^ (i + (k + 1)) * (x / 1000000000) = P + 1000000000 ^ i * (ai * val (b.take (k + 1))) := by
 have h1 := val_set (x % 1000000000) hk
 have h2 := carry (i + k) x
 have e : 1000000000 ^ (i + k) * x = 1000000000 ^ (i + k) * o.getD (i + k) 0 + 1000000000 ^ (i + k) * (ai * b.getD k 0) + 1000000000 ^ (i + k) * c := by rw [hx, Nat.mul_add, Nat.mul_add]
 rw [val_take_succ, Nat.mul_add, Nat.mul_add]
 have e2 : 1000000000 ^ i * (ai * (1000000000 ^ k * b.getD k 0)) = 1000000000 ^ (i + k) * (ai * b.getD k 0) := by
  rw [Nat.pow_add, Nat.mul_left_comm ai, Nat.mul_assoc]
 rw [e2, show i + (k + 1) = i + k + 1 by omega]
 omega
theorem val_take_le (xs : List Nat) (k : Nat) : val (xs.take k) ≤ val xs := by
 by_cases h : k ≤ xs.length
 ·rw [val_split xs h]; omega
 ·rw [val_take_all (by omega)]; omega
theorem mul_k {o : List Nat} {m n i k c : Nat} (hv : val o + 1000000000 ^ (i + k) * c = val ((digs m).take i) * n + 1000000000 ^ i * ((digs m).getD i 0 * val ((digs n).take k))) (hc : 0 < c) : k ≤ (digs n).length := by
 have h1 : val ((digs m).take (i + 1)) < 1000000000 ^ (i + 1) := by
  have h := val_lt ((digs_dig m).take (i + 1))
  have h2 : 1000000000 ^ ((digs m).take (i + 1)).length ≤ 1000000000 ^ (i + 1) := Nat.pow_le_pow_right (by decide) (by simp; omega)
  omega
 have h2 := digs_hi n
 have h3 : val ((digs n).take k) ≤ n := by have := val_take_le (digs n) k; rwa [val_digs] at this
 have h4 : 1000000000 ^ i * ((digs m).getD i 0 * val ((digs n).take k)) ≤ 1000000000 ^ i * ((digs m).getD i 0 * n) := Nat.mul_le_mul_left _ (Nat.mul_le_mul_left _ h3)
 have h5 : val ((digs m).take i) * n + 1000000000 ^ i * ((digs m).getD i 0 * n) = val ((digs m).take (i + 1)) * n := by rw [val_take_succ, Nat.add_mul, Nat.mul_assoc]
 have h6 : 1000000000 ^ (i + k) * 1 ≤ 1000000000 ^ (i + k) * c := Nat.mul_le_mul_left _ hc
 have h7 : val ((digs m).take (i + 1)) * n < 1000000000 ^ (i + 1) * 1000000000 ^ (digs n).length := Nat.mul_lt_mul'' h1 h2
 rw [← Nat.pow_add] at h7
 rcases Nat.lt_or_ge (digs n).length k with h | h
 ·have : 1000000000 ^ (i + 1 + (digs n).length) ≤ 1000000000 ^ (i + k) := Nat.pow_le_pow_right (by decide) (by omega)
  omega
 ·exact h
theorem mul_end {o : List Nat} {m n i k : Nat} (hk : (digs n).length ≤ k) (hv : val o + 1000000000 ^ (i + k) * 0 = val ((digs m).take i) * n + 1000000000 ^ i * ((digs m).getD i 0 * val ((digs n).take k))) : val o = val ((digs m).take (i + 1)) * n := by
 rw [val_take_all hk, val_digs] at hv
 rw [val_take_succ, Nat.add_mul, Nat.mul_assoc]
 omega
theorem val_repl (k : Nat) : val (List.replicate k 0) = 0 := by
 induction k with
 | zero => rfl
 | succ k ih => rw [List.replicate_succ, val, ih]
theorem Dig.repl (k : Nat) : Dig (List.replicate k 0) := fun x hx => by rw [List.eq_of_mem_replicate hx]; decide
theorem of_step {r : List Nat} {x n : Nat} (h : r ++ digs x = digs n) (hx : 0 < x) : (r ++ [x % 1000000000]) ++ digs (x / 1000000000) = digs n := by
 rw [← h, digs_pos hx]; simp
theorem of_end {r : List Nat} {x n : Nat} (h : r ++ digs x = digs n) (hx : ¬ 0 < x) : r = digs n := by
 rw [← h, show x = 0 by omega, digs_zero]; simp
theorem digs_len_small {n : Nat} (h : n < 1000000000000000000000000000) : (digs n).length ≤ 3 := digs_len_of_lt (by simpa using h)
theorem of_len {r : List Nat} {x n : Nat} (h : r ++ digs x = digs n) (hx : 0 < x) (hn : n < 1000000000000000000000000000) : r.length + 1 ≤ 3 := by
 have h1 := congrArg List.length h
 have h2 := digs_len_small hn
 have h3 : (digs x).length ≠ 0 := fun e => by have := digs_len_zero.1 e; omega
 simp at h1; omega
theorem drop_set_succ {xs : List Nat} {j v : Nat} : (xs.set j v).drop (j + 1) = xs.drop (j + 1) := by
 rw [List.drop_set]; simp
theorem drop_set_at {xs : List Nat} {j v : Nat} (h : j < xs.length) : val ((xs.set j v).drop j) = v + 1000000000 * val (xs.drop (j + 1)) := by
 rw [val_drop_succ (by simpa using h), drop_set_succ]
 congr 1
 rw [List.getD_eq_getElem?_getD, List.getElem?_set]; simp [h]
theorem div_step {a o : List Nat} {j d r x : Nat} (hj : j < a.length) (hl : o.length = a.length) (hd : 0 < d) (hv : val (a.drop (j + 1)) = d * val (o.drop (j + 1)) + r) (hx : x = r * 1000000000 + a.getD j 0) :
  val (a.drop j) = d * val ((o.set j (x / d)).drop j) + x % d := by
 rw [val_drop_succ hj, drop_set_at (by omega), hv, Nat.mul_add d]
 have := Nat.div_add_mod x d
 have e : 1000000000 * (d * val (o.drop (j + 1)) + r) = d * (1000000000 * val (o.drop (j + 1))) + r * 1000000000 := by rw [Nat.mul_add, Nat.mul_left_comm, Nat.mul_comm r]
 omega
theorem div_dig {r d x a : Nat} (hr : r < d) (ha : a < 1000000000) (hx : x = r * 1000000000 + a) : x / d < 1000000000 := by
 rw [Nat.div_lt_iff_lt_mul (by omega)]
 have : (r + 1) * 1000000000 ≤ d * 1000000000 := Nat.mul_le_mul_right _ hr
 omega
theorem div_end {m d r : Nat} {o : List Nat} (hr : r < d) (hv : val ((digs m).drop 0) = d * val (o.drop 0) + r) : val o = m / d ∧ r = m % d := by
 simp only [List.drop_zero, val_digs] at hv
 constructor
 ·rw [hv, Nat.mul_add_div (by omega), Nat.div_eq_of_lt hr]; rfl
 ·rw [hv, Nat.mul_add_mod, Nat.mod_eq_of_lt hr]
def decs (n : Nat) : List Nat := if h : n = 0 then [] else (48 + n % 10) :: decs (n / 10)
termination_by n
decreasing_by omega
theorem decs_zero : decs 0 = [] := by rw [decs]; simp
theorem decs_pos {n : Nat} (h : 0 < n) : decs n = (48 + n % 10) :: decs (n / 10) := by rw [decs]; simp [Nat.ne_of_gt h]
theorem text_step {bk : List Nat} {n p k hi : Nat} (hk : k < 9) (hM : 0 < p + 10 ^ (9 - k) * hi) (h : bk ++ decs (p + 10 ^ (9 - k) * hi) = decs n) : (bk ++ [48 + p % 10]) ++ decs (p / 10 + 10 ^ (9 - (k + 1)) * hi) = decs n := by
 rw [← h, decs_pos hM]
 have e : 10 ^ (9 - k) * hi = 10 * (10 ^ (9 - (k + 1)) * hi) := by
  rw [← Nat.mul_assoc, show 9 - k = (9 - (k + 1)) + 1 by omega, Nat.pow_succ, Nat.mul_comm 10]
 rw [e, show (p + 10 * (10 ^ (9 - (k + 1)) * hi)) % 10 = p % 10 by omega, show (p + 10 * (10 ^ (9 - (k + 1)) * hi)) / 10 = p / 10 + 10 ^ (9 - (k + 1)) * hi by omega]
 simp
theorem val_drop_pos {n j : Nat} (h : j < (digs n).length) : 0 < val ((digs n).drop j) := by
 have hne : (digs n).drop j ≠ [] := by simp; omega
 refine val_pos_of_trim hne fun hx => ?_
 rw [List.getLast_drop]
 exact digs_trim n _
theorem decs_len_lt {n : Nat} : ∀ {k : Nat}, n < 10 ^ k → (decs n).length ≤ k := by
 induction n using Nat.strongRecOn with
 | _ n ih =>
  intro k hk
  by_cases h : n = 0
  ·subst h; rw [decs_zero]; simp
  ·rw [decs_pos (by omega)]
   cases k with
   | zero => simp at hk; omega
   | succ k =>
    have := ih (n / 10) (by omega) (k := k) (by rw [Nat.div_lt_iff_lt_mul (by decide), ← Nat.pow_succ]; exact hk)
    simpa using this
theorem decs_len_le (n : Nat) : (decs n).length ≤ 9 * (digs n).length := by
 refine decs_len_lt ?_
 have := digs_hi n
 rw [show (1000000000 : Nat) = 10 ^ 9 by rfl, ← Nat.pow_mul] at this
 exact this
def ndig (n : Nat) : Nat := if n = 0 then 1 else (decs n).length
theorem decs_up {x y : Nat} (hy : 0 < y) : ∀ {k : Nat} {p : Nat}, p < 10 ^ k → (decs (p + 10 ^ k * y)).length = k + (decs y).length
 | 0, p, hp => by simp at hp; subst hp; simp
 | k + 1, p, hp => by
  have hpos : 0 < 10 ^ (k + 1) * y := Nat.mul_pos (Nat.pow_pos (by decide)) hy
  have e : 10 ^ (k + 1) * y = 10 * (10 ^ k * y) := by rw [Nat.pow_succ, Nat.mul_comm (10 ^ k) 10, Nat.mul_assoc]
  rw [decs_pos (by omega), List.length_cons, e, show (p + 10 * (10 ^ k * y)) / 10 = p / 10 + 10 ^ k * y by omega, decs_up hy (x := x) (k := k) (by rw [Nat.div_lt_iff_lt_mul (by decide), ← Nat.pow_succ]; exact hp)]
  omega
theorem ndig_top {n : Nat} (h : 0 < n) : (decs n).length = 9 * ((digs n).length - 1) + (decs ((digs n).getD ((digs n).length - 1) 0)).length := by
 have hl : (digs n).length ≠ 0 := fun e => by have := digs_len_zero.1 e; omega
 have hs := val_split (digs n) (j := (digs n).length - 1) (by omega)
 rw [val_digs, val_drop_succ (by omega), val_drop_all (xs := digs n) (j := (digs n).length - 1 + 1) (by omega)] at hs
 have hp := val_drop_pos (n := n) (j := (digs n).length - 1) (by omega)
 rw [val_drop_succ (by omega), val_drop_all (xs := digs n) (j := (digs n).length - 1 + 1) (by omega)] at hp
 have hlt := val_lt ((digs_dig n).take ((digs n).length - 1))
 rw [List.length_take, Nat.min_eq_left (by omega)] at hlt
 simp only [Nat.mul_zero, Nat.add_zero] at hs hp
 rw [show (1000000000 : Nat) ^ ((digs n).length - 1) = 10 ^ (9 * ((digs n).length - 1)) by rw [Nat.pow_mul]] at hs hlt
 have := decs_up (x := 0) hp hlt
 rw [← hs] at this
 exact this
def sg (neg : Bool) (n : Nat) : Int := if neg = true then -(n : Int) else n
end Go.Mth

namespace Go.Mth
open Go.Ab
def txtL (z : Int) : List Nat := if z = 0 then [48] else (if z < 0 then [45] else []) ++ (decs z.natAbs).reverse
def txt (z : Int) : ByteArray := strN (txtL z)
def AllB (l : List Nat) : Prop := ∀ x ∈ l, x < 256
theorem byts_strN {l : List Nat} (h : AllB l) : byts (strN l) = l := by
 unfold byts strN
 rw [strOfNums_data, List.map_map, List.map_map]
 conv => rhs; rw [← List.map_id l]
 refine List.map_congr_left fun x hx => ?_
 have := h x hx
 simp only [Function.comp, Int.toNat_natCast, id_eq]
 exact UInt8.toNat_ofNat_of_lt' this
theorem strN_byts (a : ByteArray) : strN (byts a) = a := by
 unfold byts strN strOfNums
 rw [List.map_map, List.map_map]
 have : (a.data.toList.map (((fun n : Int => UInt8.ofNat n.toNat) ∘ (fun x : Nat => (x : Int))) ∘ UInt8.toNat)) = a.data.toList := by
  conv => rhs; rw [← List.map_id a.data.toList]
  refine List.map_congr_left fun x _ => ?_
  simp
 rw [this]
theorem byts_inj {a b : ByteArray} (h : byts a = byts b) : a = b := by rw [← strN_byts a, ← strN_byts b, h]
theorem byt_byts (a : ByteArray) (i : Nat) : byt a i = (byts a).getD i 0 := by
 unfold byt byts
 simp only [List.getD_eq_getElem?_getD, List.getElem?_map]
 cases a.data.toList[i]? <;> simp
theorem toList_loop (a : ByteArray) : ∀ (n i : Nat) (r : List UInt8), a.size - i = n → ByteArray.toList.loop a i r = r.reverse ++ a.data.toList.drop i := by
 intro n
 induction n with
 | zero =>
  intro i r h
  rw [ByteArray.toList.loop]
  have : ¬ i < a.size := by omega
  simp only [this, if_false]
  rw [List.drop_of_length_le (by simp; have : a.size = a.data.size := rfl; omega)]
  simp
 | succ n ih =>
  intro i r h
  rw [ByteArray.toList.loop]
  have hi : i < a.size := by omega
  simp only [hi, if_true]
  rw [ih (i + 1) _ (by omega)]
  have hi' : i < a.data.toList.length := by simpa using hi
  rw [List.drop_eq_getElem_cons hi']
  simp only [List.reverse_cons, List.append_assoc, List.cons_append, List.nil_append]
  congr 2
  simp [ByteArray.get!, getElem!_pos a.data i (by simpa using hi)]
theorem toList_data (a : ByteArray) : a.toList = a.data.toList := by
 unfold ByteArray.toList
 rw [toList_loop a _ 0 [] rfl]; simp
theorem str_eq {a b : ByteArray} : a.toList = b.toList ↔ a = b := by
 rw [toList_data, toList_data]
 constructor
 ·intro h
  refine byts_inj ?_
  unfold byts; rw [h]
 ·intro h; rw [h]
theorem str_nil {a : ByteArray} : a.toList = ByteArray.toList { data := #[] } ↔ a.size = 0 := by
 rw [str_eq]
 constructor
 ·intro h; subst h; rfl
 ·intro h
  refine byts_inj ?_
  have : (byts a).length = 0 := by rw [byts_len]; exact h
  rw [List.eq_nil_of_length_eq_zero this]; rfl
theorem txt_zero : txt 0 = { data := #[48] } := rfl
theorem txt_fin {z : Int} {b : List Nat} (hz : z.natAbs ≠ 0) (hb : b = decs z.natAbs ++ if z < 0 then [45] else []) : txt z = strN b.reverse := by
 unfold txt txtL
 rw [if_neg (by omega), hb]
 split <;> simp
theorem rev_step {b : List Nat} {j : Nat} (h : 0 < j) (hj : j ≤ b.length) : (b.drop j).reverse ++ [b.getD (j - 1) 0] = (b.drop (j - 1)).reverse := by
 rw [List.drop_eq_getElem_cons (i := j - 1) (by omega), List.reverse_cons, Nat.sub_add_cancel h, List.getD_eq_getElem?_getD, List.getElem?_eq_getElem (by omega)]
 rfl
theorem drop_hi {n i : Nat} (hi : i < (digs n).length) : val ((digs n).drop i) = (digs n).getD i 0 + 10 ^ (9 - 0) * val ((digs n).drop (i + 1)) := by rw [val_drop_succ hi]
theorem bk_len {bk : List Nat} {n M : Nat} (h : bk ++ decs M = decs n) (hM : 0 < M) (hn : (digs n).length ≤ 1000000000) : bk.length + 1 ≤ 9000000000 := by
 have h1 := congrArg List.length h
 have h2 := decs_len_le n
 rw [decs_pos hM] at h1
 simp at h1
 omega
theorem bk_end {bk : List Nat} {n i : Nat} (h : bk ++ decs (val ((digs n).drop i)) = decs n) (hi : (digs n).length ≤ i) : bk = decs n := by
 rw [val_drop_all hi, decs_zero] at h; simpa using h
def sgnAt (a : ByteArray) : Nat := if byt a 0 = 45 then 1 else 0
def OkS (a : ByteArray) : Prop := sgnAt a < a.size ∧ a.size - sgnAt a ≤ 2000 ∧ ¬ (byt a (sgnAt a) = 48 ∧ 1 < a.size) ∧ ∀ i, sgnAt a ≤ i → i < a.size → 48 ≤ byt a i ∧ byt a i ≤ 57
open Classical in
noncomputable def okS (a : ByteArray) : Bool := decide (OkS a)
theorem okS_yes {a : ByteArray} (h : OkS a) : okS a = true := by unfold okS; simp [h]
theorem okS_no {a : ByteArray} (h : ¬ OkS a) : okS a = false := by unfold okS; simp [h]
theorem okS_iff {a : ByteArray} : okS a = true ↔ OkS a := by unfold okS; simp
attribute [irreducible] okS
theorem byt_nil {a : ByteArray} (h : a.size = 0) (i : Nat) : byt a i = 0 := by
 rw [byt_byts]; exact getD_ge (by rw [byts_len]; omega)
def dvk (a : ByteArray) (s : Nat) : Nat → Nat
 | 0 => 0
 | k + 1 => 10 * dvk a s k + (byt a (s + k) - 48)
theorem dvk_add (a : ByteArray) (s j : Nat) : ∀ k, dvk a s (j + k) = dvk a s j * 10 ^ k + dvk a (s + j) k
 | 0 => by simp [dvk]
 | k + 1 => by
  rw [← Nat.add_assoc, dvk, dvk_add a s j k, dvk, Nat.pow_succ, Nat.add_assoc s j k, Nat.mul_add]
  have e : 10 * (dvk a s j * 10 ^ k) = dvk a s j * (10 ^ k * 10) := by rw [Nat.mul_comm 10, Nat.mul_assoc]
  omega
theorem dvk_lt {a : ByteArray} {s : Nat} : ∀ {k : Nat}, (∀ i, s ≤ i → i < s + k → 48 ≤ byt a i ∧ byt a i ≤ 57) → dvk a s k < 10 ^ k
 | 0, _ => by simp [dvk]
 | k + 1, h => by
  have h1 := dvk_lt (a := a) (s := s) (k := k) fun i h1 h2 => h i h1 (by omega)
  have h2 := h (s + k) (by omega) (by omega)
  rw [dvk, Nat.pow_succ]; omega
def numS (a : ByteArray) : Int := sg (decide (byt a 0 = 45)) (dvk a (sgnAt a) (a.size - sgnAt a))
theorem parse_step {L : List Nat} {a : ByteArray} {e s n : Nat} (hse : s ≤ e) (hen : e ≤ n) (hl : L.length * 9 = n - e) (hv : val L = dvk a e (n - e)) : val (L ++ [dvk a s (e - s)]) = dvk a s (n - s) := by
 have h := dvk_add a s (e - s) (n - e)
 rw [show e - s + (n - e) = n - s by omega, show s + (e - s) = e by omega, ← hv, ← hl, Nat.mul_comm L.length 9, Nat.pow_mul] at h
 rw [val_snoc, h, Nat.mul_comm]
 simp only [Nat.reducePow]
 omega
theorem extract_size (a : ByteArray) {l h : Nat} (hl : l ≤ h) (hh : h ≤ a.size) : (a.extract l h).size = h - l := by
 rw [ByteArray.size_extract]; omega
theorem txtL_all (z : Int) : AllB (txtL z) := by
 have hd : ∀ n, AllB (decs n) := fun n => by
  induction n using Nat.strongRecOn with
  | _ n ih =>
   by_cases h : n = 0
   ·subst h; rw [decs_zero]; intro x hx; cases hx
   ·rw [decs_pos (by omega)]
    intro x hx
    rcases List.mem_cons.1 hx with e | e
    ·omega
    ·exact ih (n / 10) (by omega) x e
 unfold txtL
 intro x hx
 split at hx
 ·simp at hx; omega
 ·rcases List.mem_append.1 hx with e | e
  ·split at e
   ·simp at e; omega
   ·cases e
  ·exact hd _ x (List.mem_reverse.1 e)
theorem byts_txt (z : Int) : byts (txt z) = txtL z := byts_strN (txtL_all z)
theorem txt_size (x : Nat) : (txt (x : Int)).size = ndig x := by
 rw [← byts_len, byts_txt]
 unfold txtL ndig
 by_cases h : x = 0
 ·subst h; rfl
 ·rw [if_neg (by omega), if_neg h, if_neg (by omega)]; simp
theorem ndig_small {x : Nat} (h : x < 1000000000) : ndig x ≤ 9 := by
 unfold ndig
 split
 ·decide
 ·exact decs_len_lt (k := 9) h
theorem decs_pad {y : Nat} (hy : 0 < y) : ∀ {k p : Nat}, p < 10 ^ k → decs (p + 10 ^ k * y) = decs p ++ List.replicate (k - (decs p).length) 48 ++ decs y
 | 0, p, hp => by simp at hp; subst hp; simp [decs_zero]
 | k + 1, p, hp => by
  have e : 10 ^ (k + 1) * y = 10 * (10 ^ k * y) := by rw [Nat.pow_succ, Nat.mul_comm (10 ^ k) 10, Nat.mul_assoc]
  have hpos : 0 < 10 ^ k * y := Nat.mul_pos (Nat.pow_pos (by decide)) hy
  have hq : p / 10 < 10 ^ k := by rw [Nat.div_lt_iff_lt_mul (by decide), ← Nat.pow_succ]; exact hp
  rw [decs_pos (n := p + 10 ^ (k + 1) * y) (by omega), e, show (p + 10 * (10 ^ k * y)) % 10 = p % 10 by omega, show (p + 10 * (10 ^ k * y)) / 10 = p / 10 + 10 ^ k * y by omega, decs_pad hy hq]
  by_cases h : p = 0
  ·subst h; simp [decs_zero, List.replicate_succ]
  ·rw [decs_pos (n := p) (by omega)]; simp
theorem str_step {n j : Nat} {out : List Nat} (hj : 0 < j) (hjl : j ≤ (digs n).length) (ho : out = (decs (val ((digs n).drop j))).reverse) :
  (if j < (digs n).length then out ++ List.replicate (9 - ndig ((digs n).getD (j - 1) 0)) 48 else out) ++ txtL ((digs n).getD (j - 1) 0 : Nat) = (decs (val ((digs n).drop (j - 1)))).reverse := by
 have hp := (digs_dig n).getD (j - 1)
 have e := val_drop_succ (xs := digs n) (j := j - 1) (by omega)
 rw [Nat.sub_add_cancel hj] at e
 have hL : ∀ p : Nat, p ≠ 0 → txtL (p : Int) = (decs p).reverse := fun p h => by unfold txtL; rw [if_neg (by omega), if_neg (by omega)]; simp
 split
 ·rename_i h
  have hpos := val_drop_pos h
  have := decs_pad hpos (k := 9) (p := (digs n).getD (j - 1) 0) hp
  rw [show (10 : Nat) ^ 9 = 1000000000 by rfl, ← e] at this
  rw [this, ho]
  by_cases h0 : (digs n).getD (j - 1) 0 = 0
  ·rw [h0]; simp [decs_zero, ndig, txtL]
  ·rw [hL _ h0]; unfold ndig; rw [if_neg h0]; simp
 ·rename_i h
  have hd : val ((digs n).drop j) = 0 := val_drop_all (by omega)
  have hpos := val_drop_pos (n := n) (j := j - 1) (by omega)
  rw [hd, Nat.mul_zero, Nat.add_zero] at e
  rw [e] at hpos
  rw [ho, hd, decs_zero, e, hL _ (by omega)]; simp
end Go.Mth

namespace Go.Mth
open Go.Ab
structure MapM where
 mod : Int
 mul : List Int
 add : List Int
 deriving DecidableEq
def mapV (m : MapM) : AV := .agg [.lit (.int .i64 m.mod), .sl 1 (is .i64 m.mul), .sl 1 (is .i64 m.add)]
def OkM (m : MapM) : Prop := 2 ≤ m.mod ∧ m.mod ≤ 12 ∧ (m.mul.length : Int) = m.mod ∧ (m.add.length : Int) = m.mod ∧ ∀ r : Nat, (r : Int) < m.mod → 1 ≤ m.mul.getD r 0 ∧ m.mul.getD r 0 ≤ 999 ∧ -999999 ≤ m.add.getD r 0 ∧ m.add.getD r 0 ≤ 999999 ∧ Int.tmod (m.mul.getD r 0 * r + m.add.getD r 0) m.mod = 0
open Classical in
noncomputable def okM (m : MapM) : Bool := decide (OkM m)
theorem okM_yes {a : MapM} (h : OkM a) : okM a = true := by unfold okM; simp [h]
theorem okM_no {a : MapM} (h : ¬ OkM a) : okM a = false := by unfold okM; simp [h]
theorem okM_iff {a : MapM} : okM a = true ↔ OkM a := by unfold okM; simp
attribute [irreducible] okM
theorem mulb {a r : Int} (h1 : 1 ≤ a) (h2 : a ≤ 999) (h3 : 0 ≤ r) (h4 : r ≤ 12) : 0 ≤ a * r ∧ a * r ≤ 11988 := by
 have e1 : a * r ≤ 999 * r := Int.mul_le_mul_of_nonneg_right h2 h3
 have e2 : 0 ≤ a * r := Int.mul_nonneg (by omega) h3
 omega
def stepZ (m : MapM) (z : Int) : Int := (m.mul.getD (z % m.mod).toNat 0 * z + m.add.getD (z % m.mod).toNat 0) / m.mod
def Fit (z : Int) : Prop := ndig z.natAbs ≤ 2000
instance (z : Int) : Decidable (Fit z) := inferInstanceAs (Decidable (ndig z.natAbs ≤ 2000))
def runZ (m : MapM) : Nat → Int → Int
 | 0, z => z
 | k + 1, z => if Fit z then runZ m k (stepZ m z) else z
def orbZ (m : MapM) : Nat → Int → List Int
 | 0, z => [z]
 | k + 1, z => if Fit z then z :: orbZ m k (stepZ m z) else [z]
def fallZ (m : MapM) (n : Int) : Nat → Int → Nat → Nat × Int × Nat
 | 0, _, _ => (0, 0, 4)
 | k + 1, x, i => if Fit (stepZ m x) then if stepZ m x < n then (i, stepZ m x, 0) else fallZ m n k (stepZ m x) (i + 1) else (0, 0, 3)
theorem digs_len_mul (a b : Nat) : (digs (a * b)).length ≤ (digs a).length + (digs b).length := by
 refine digs_len_of_lt ?_
 rw [Nat.pow_add]
 exact Nat.mul_lt_mul'' (digs_hi a) (digs_hi b)
theorem digs_len_add (a b : Nat) : (digs (a + b)).length ≤ max (digs a).length (digs b).length + 1 := by
 refine digs_len_of_lt ?_
 have h1 := digs_hi a
 have h2 := digs_hi b
 have h3 : 1000000000 ^ (digs a).length ≤ 1000000000 ^ max (digs a).length (digs b).length := Nat.pow_le_pow_right (by decide) (by omega)
 have h4 : 1000000000 ^ (digs b).length ≤ 1000000000 ^ max (digs a).length (digs b).length := Nat.pow_le_pow_right (by decide) (by omega)
 rw [Nat.pow_succ]; omega
theorem len_mulZ (a b : Int) : (digs (a * b).natAbs).length ≤ (digs a.natAbs).length + (digs b.natAbs).length := by
 rw [Int.natAbs_mul]; exact digs_len_mul _ _
theorem len_addZ (a b : Int) : (digs (a + b).natAbs).length ≤ max (digs a.natAbs).length (digs b.natAbs).length + 1 := by
 have h := digs_len_add a.natAbs b.natAbs
 have := digs_len_le (Int.natAbs_add_le a b)
 omega
theorem len_divZ (z : Int) {d : Int} (hd : 2 ≤ d) : (digs (z / d).natAbs).length ≤ (digs z.natAbs).length + 1 := by
 have h1 := Int.emod_nonneg z (show d ≠ 0 by omega)
 have h2 := Int.emod_lt_of_pos z (show 0 < d by omega)
 have h3 := Int.mul_ediv_add_emod z d
 have h4 : (z / d).natAbs ≤ z.natAbs + 1 := by
  by_cases hz : 0 ≤ z
  ·have := Int.ediv_nonneg hz (show 0 ≤ d by omega)
   have : z / d ≤ z := Int.ediv_le_self _ hz
   omega
  ·have e : z ≤ z / d := by
    have h5 : z / d < 0 := Int.ediv_neg_of_neg_of_pos (by omega) (by omega)
    have h6 : d * (z / d + 1) ≤ 2 * (z / d + 1) := Int.mul_le_mul_of_nonpos_right hd (by omega)
    rw [Int.mul_add, Int.mul_one] at h6
    omega
   have : z / d < 0 := Int.ediv_neg_of_neg_of_pos (by omega) (by omega)
   omega
 have h5 := digs_len_le h4
 have h6 := digs_len_add z.natAbs 1
 have h7 := digs_len_small (n := 1) (by decide)
 have h8 : (digs 1).length = 1 := by rw [digs_pos (by decide), show 1 / 1000000000 = 0 by rfl, digs_zero]; rfl
 rcases Nat.eq_zero_or_pos z.natAbs with h0 | h0
 ·rw [h0] at h5; rw [Nat.zero_add, h8] at h5; omega
 ·have : (digs z.natAbs).length ≠ 0 := fun e => by have := digs_len_zero.1 e; omega
  omega
theorem fit_len {z : Int} (h : Fit z) : (digs z.natAbs).length ≤ 300 := by
 unfold Fit ndig at h
 split at h
 ·rename_i h0; rw [h0, digs_zero]; simp
 ·rename_i h0
  rw [ndig_top (by omega)] at h
  omega
theorem small_len {z : Int} (h : z.natAbs ≤ 999999) : (digs z.natAbs).length ≤ 1 := digs_len_of_lt (by omega)
theorem step_len {m : MapM} (hm : OkM m) {z : Int} {k : Nat} (hz : (digs z.natAbs).length ≤ k) (hk : 1 ≤ k) : (digs (stepZ m z).natAbs).length ≤ k + 3 := by
 obtain ⟨o1, o2, o3, o4, o5⟩ := hm
 have hr0 := Int.emod_nonneg z (b := m.mod) (by omega)
 have hr1 := Int.emod_lt_of_pos z (b := m.mod) (by omega)
 have hr := o5 (z % m.mod).toNat (by omega)
 unfold stepZ
 have h1 := len_divZ (m.mul.getD (z % m.mod).toNat 0 * z + m.add.getD (z % m.mod).toNat 0) o1
 have h2 := len_addZ (m.mul.getD (z % m.mod).toNat 0 * z) (m.add.getD (z % m.mod).toNat 0)
 have h3 := len_mulZ (m.mul.getD (z % m.mod).toNat 0) z
 have h4 := small_len (z := m.mul.getD (z % m.mod).toNat 0) (by omega)
 have h5 := small_len (z := m.add.getD (z % m.mod).toNat 0) (by omega)
 omega
theorem cmpZ_lt {x y : Int} : cmpZ x y < 0 ↔ x < y := by unfold cmpZ; split <;> (try split) <;> omega
def toldS (z : Int) : ByteArray := if Fit z then txt z else { data := #[] }
def toldE (z : Int) : Nat := if Fit z then 0 else 3
def noM : MapM := ⟨0, [], []⟩
def kinM (q c : Int) : MapM := ⟨2, [1, q], [0, c]⟩
def kinOk (q c : Int) : Prop := 1 ≤ q ∧ q ≤ 999 ∧ -999999 ≤ c ∧ c ≤ 999999 ∧ Int.tmod q 2 ≠ 0 ∧ Int.tmod c 2 ≠ 0
instance (q c : Int) : Decidable (kinOk q c) := inferInstanceAs (Decidable (1 ≤ q ∧ q ≤ 999 ∧ -999999 ≤ c ∧ c ≤ 999999 ∧ Int.tmod q 2 ≠ 0 ∧ Int.tmod c 2 ≠ 0))
theorem fit_of_pow {n k : Nat} (h : n < 10 ^ k) (hk : k ≤ 2000) (h1 : 1 ≤ k) : ndig n ≤ 2000 := by
 unfold ndig
 split
 ·decide
 ·exact Nat.le_trans (decs_len_lt h) hk
theorem fit_numS {a : ByteArray} (h : OkS a) : Fit (numS a) := by
 obtain ⟨o1, o2, o3, o4⟩ := h
 have h1 := dvk_lt (a := a) (s := sgnAt a) (k := a.size - sgnAt a) fun i h1 h2 => o4 i h1 (by omega)
 have h3 : (numS a).natAbs = dvk a (sgnAt a) (a.size - sgnAt a) := by unfold numS sg; split <;> simp
 unfold Fit
 rw [h3]
 exact fit_of_pow h1 o2 (by omega)
theorem len_numS {a : ByteArray} (h : OkS a) : (digs (numS a).natAbs).length ≤ 300 := fit_len (fit_numS h)
end Go.Mth

namespace Go.Proofs
open Go.Shelf
def Tryz.laysM171_ren : Go.Shelf.Ren := ⟨fun | 171 => 100 | 243 => 131 | 246 => 150 | 283 => 163 | 284 => 164 | 285 => 165 | 286 => 166 | 129 => 130 | 317 => 172 | 318 => 173 | 319 => 174 | 320 => 175 | 337 => 177 | 338 => 178 | n => n, fun | 3 => 3 | 9 => 9 | 2 => 2 | 4 => 4 | 171 => 211 | 0 => 0 | 53 => 144 | 37 => 112 | 5 => 5 | 173 => 213 | 212 => 224 | 51 => 145 | 20 => 20 | 213 => 225 | 46 => 151 | 232 => 231 | 233 => 232 | n => n, fun | 17 => 2 | 18 => 3 | 19 => 4 | n => n⟩
theorem Tryz.laysM171 : Go.Proofs.LaysM.n171 Tryz.prog Tryz.laysM171_ren := {
 mixed := by kernel_rfl
 f129 := Tryz.func130.trans (congrArg some (by kernel_rfl))
 f171 := Tryz.func100.trans (congrArg some (by kernel_rfl))
 f243 := Tryz.func131.trans (congrArg some (by kernel_rfl))
 f246 := Tryz.func150.trans (congrArg some (by kernel_rfl))
 f283 := Tryz.func163.trans (congrArg some (by kernel_rfl))
 f284 := Tryz.func164.trans (congrArg some (by kernel_rfl))
 f285 := Tryz.func165.trans (congrArg some (by kernel_rfl))
 f286 := Tryz.func166.trans (congrArg some (by kernel_rfl))
 f317 := Tryz.func172.trans (congrArg some (by kernel_rfl))
 f318 := Tryz.func173.trans (congrArg some (by kernel_rfl))
 f319 := Tryz.func174.trans (congrArg some (by kernel_rfl))
 f320 := Tryz.func175.trans (congrArg some (by kernel_rfl))
 f337 := Tryz.func177.trans (congrArg some (by kernel_rfl))
 f338 := Tryz.func178.trans (congrArg some (by kernel_rfl))
 t0 := Tryz.underlying0
 a0 := Tryz.isAgg0
 z0 := Tryz.sizeOf0
 v0 := Tryz.zeroValue0
 t2 := Tryz.underlying2
 a2 := Tryz.isAgg2
 z2 := Tryz.sizeOf2
 v2 := Tryz.zeroValue2
 t3 := Tryz.underlying3
 a3 := Tryz.isAgg3
 z3 := Tryz.sizeOf3
 v3 := Tryz.zeroValue3
 t4 := Tryz.underlying4
 a4 := Tryz.isAgg4
 z4 := Tryz.sizeOf4
 v4 := Tryz.zeroValue4
 t5 := Tryz.underlying5
 a5 := Tryz.isAgg5
 z5 := Tryz.sizeOf5
 v5 := Tryz.zeroValue5
 t9 := Tryz.underlying9
 a9 := Tryz.isAgg9
 z9 := Tryz.sizeOf9
 v9 := Tryz.zeroValue9
 t20 := Tryz.underlying20
 a20 := Tryz.isAgg20
 z20 := Tryz.sizeOf20
 v20 := Tryz.zeroValue20
 t37 := Tryz.underlying112
 a37 := Tryz.isAgg112
 z37 := Tryz.sizeOf112
 v37 := Tryz.zeroValue112
 t46 := Tryz.underlying151
 a46 := Tryz.isAgg151
 z46 := Tryz.sizeOf151
 v46 := Tryz.zeroValue151
 t51 := Tryz.underlying145
 a51 := Tryz.isAgg145
 z51 := Tryz.sizeOf145
 v51 := Tryz.zeroValue145
 t53 := Tryz.underlying144
 a53 := Tryz.isAgg144
 z53 := Tryz.sizeOf144
 v53 := Tryz.zeroValue144
 t171 := Tryz.underlying211
 a171 := Tryz.isAgg211
 z171 := Tryz.sizeOf211
 v171 := Tryz.zeroValue211
 t173 := Tryz.underlying213
 a173 := Tryz.isAgg213
 z173 := Tryz.sizeOf213
 v173 := Tryz.zeroValue213
 t212 := Tryz.underlying224
 a212 := Tryz.isAgg224
 z212 := Tryz.sizeOf224
 v212 := Tryz.zeroValue224
 t213 := Tryz.underlying225
 a213 := Tryz.isAgg225
 z213 := Tryz.sizeOf225
 t232 := Tryz.underlying231
 a232 := Tryz.isAgg231
 z232 := Tryz.sizeOf231
 v232 := Tryz.zeroValue231
 t233 := Tryz.underlying232
 a233 := Tryz.isAgg232
 z233 := Tryz.sizeOf232
 v233 := Tryz.zeroValue232
 g17 := by kernel_rfl
 g18 := by kernel_rfl
 g19 := by kernel_rfl
 i0 := by kernel_rfl
 i2 := by kernel_rfl
 i3 := by kernel_rfl
 i4 := by kernel_rfl
 i5 := by kernel_rfl
 i9 := by kernel_rfl
 i20 := by kernel_rfl
 i37 := by kernel_rfl
 i46 := by kernel_rfl
 i51 := by kernel_rfl
 i53 := by kernel_rfl
 i171 := by kernel_rfl
 i173 := by kernel_rfl
 i212 := by kernel_rfl
 i232 := by kernel_rfl
 i233 := by kernel_rfl
 m17 := by kernel_rfl
 m18 := by kernel_rfl
 m19 := by kernel_rfl }
open Go.RowKit Go.Sort Go.Lib in
theorem Tryz.strconv_Itoa (n : Int) (h0 : -9223372036854775808 ≤ n) (h1 : n ≤ 9223372036854775807) (w : World) (htab : Lib.TabIs Tryz.prog w "internal/strconv.uint64pow10" .u64 Lib.pow10Tab) :
  Calls Tryz.prog 100 #[.int .i64 n] w fun e w' => e = .returned (.string ⟨(Lib.itoa n).toArray⟩) ∧ ∃ k os, w' = grow (w.drewN k) os := Any.strconv_Itoa Tryz.laysM171 n h0 h1 w htab
def Tryz.lays287_ren : Go.Shelf.Ren := ⟨fun | 287 => 132 | 321 => 151 | 322 => 152 | n => n, fun | 9 => 9 | 3 => 3 | 53 => 144 | 75 => 158 | 4 => 4 | 167 => 199 | 5 => 5 | 46 => 151 | 37 => 112 | 0 => 0 | 21 => 21 | 80 => 100 | n => n, fun | n => n⟩
end Go.Proofs

namespace Go.Ab
open Go.RowKit
theorem row_ns {e sz : Nat} {k : IntKind} {a b : List Nat} (h : b = a) : some (AO.row e sz (ns k b)) = some (AO.row e sz (ns k a)) := by rw [h]
theorem ns_congr {k : IntKind} {a b : List Nat} (h : a = b) : AV.sl 1 (ns k a) = AV.sl 1 (ns k b) := by rw [h]
theorem bp_congr {p q : Prop} [Decidable p] [Decidable q] (h : p ↔ q) : bp p = bp q := by unfold bp; rw [dec_eq h]
theorem bl_bp {b : Bool} {q : Prop} [Decidable q] (h : b = true ↔ q) : AV.lit (.bool b) = bp q := by
 unfold bp; congr 2; cases b <;> simp_all
theorem awp_seqJ {C : Ctx} {n : Nat} {Q : Exit → St → Prop} {σ : St} {x y : Code} (J : St → Prop) (h1 : awp C n x (thenK (fun σ2 => ∃ σ3, J σ3 ∧ Wk C n σ2 σ3) Q) σ) (h2 : ∀ σ3, J σ3 → awp C n y Q σ3) : awp C n (.seq x y) Q σ := by
 refine awp_seq fun K hK => ?_
 refine awp_mono h1 fun e σ2 hq => ?_
 cases e with
 | normal =>
  obtain ⟨σ3, hj, hw⟩ := hq
  exact hK _ (awp_wk hw (h2 σ3 hj))
 | _ => exact hq
open Go.Mth
def intK (k : IntKind) (z : Int) : AV := .agg [bp (z < 0), .sl 1 (ns k (digs z.natAbs))]
def intR (z : Int) : AV := intK .i64 z
def intW (z : Int) : AV := intK .u32 z
abbrev oZ (t : TypeId) (k : IntKind) (z : Int) : AO := .var t [bp (z < 0), .sl 1 (ns k (digs z.natAbs))]
abbrev oM (t : TypeId) (m : MapM) : AO := .var t [.lit (.int .i64 m.mod), .sl 1 (is .i64 m.mul), .sl 1 (is .i64 m.add)]
theorem sg_abs (neg : Bool) (n : Nat) : (sg neg n).natAbs = n := by cases neg <;> simp [sg]
theorem sg_neg (neg : Bool) (n : Nat) : sg neg n < 0 ↔ neg = true ∧ 0 < n := by cases neg <;> simp [sg]
theorem intK_eq {k : IntKind} {b : AV} {l : List Nat} {z : Int} (hb : b = bp (z < 0)) (hl : l = digs z.natAbs) : AV.agg [b, .sl 1 (ns k l)] = intK k z := by subst hb; subst hl; rfl
theorem trim_fin {k : IntKind} {neg : Bool} {xs : List Nat} {n : Nat} (hx : Dig xs) (hn : n ≤ xs.length) (hv : val (xs.take n) = val xs) (h : n = 0 ∨ xs.getD (n - 1) 0 ≠ 0) :
  AV.agg [AV.lit (.bool (neg && decide (0 < n))), .sl 1 (ns k ((xs.drop 0).take (n - 0)))] = intK k (sg neg (val xs)) := by
 have e := trim_digs hx hn hv h
 have hlen : n = (digs (val xs)).length := by rw [← e]; simp; omega
 refine intK_eq (bl_bp ?_) (by rw [sg_abs, List.drop_zero, Nat.sub_zero]; exact e)
 rw [sg_neg]
 have h0 : n = 0 ↔ val xs = 0 := by rw [hlen]; exact digs_len_zero
 simp only [Bool.and_eq_true, decide_eq_true_eq]
 constructor
 ·rintro ⟨h1, h2⟩; exact ⟨h1, by omega⟩
 ·rintro ⟨h1, h2⟩; exact ⟨h1, by omega⟩
theorem minus_fin1 {k : IntKind} {z : Int} (h : ¬ z < 0) : AV.agg [bp (0 < (digs z.natAbs).length), .sl 1 (ns k (digs z.natAbs))] = intK k (-z) :=
 intK_eq (bp_congr (by have := digs_len_zero (n := z.natAbs); omega)) (by rw [Int.natAbs_neg])
theorem minus_fin2 {k : IntKind} {z : Int} (h : ¬ ¬ z < 0) : AV.agg [AV.lit (.bool false), .sl 1 (ns k (digs z.natAbs))] = intK k (-z) :=
 intK_eq (bl_bp (b := false) (by constructor <;> intro h' <;> first | cases h' | (exfalso; omega))) (by rw [Int.natAbs_neg])
theorem sg_add {x y : Int} (h : decide (x < 0) = decide (y < 0)) : x + y = sg (decide (x < 0)) (x.natAbs + y.natAbs) := by
 have h' : x < 0 ↔ y < 0 := by simpa using h
 unfold sg; split <;> rename_i h2 <;> simp at h2 <;> omega
theorem sg_sub1 {x y : Int} (h : ¬ decide (x < 0) = decide (y < 0)) (hc : y.natAbs ≤ x.natAbs) : x + y = sg (decide (x < 0)) (x.natAbs - y.natAbs) := by
 have h' : ¬ (x < 0 ↔ y < 0) := by simpa using h
 unfold sg; split <;> rename_i h2 <;> simp at h2 <;> omega
theorem sg_sub2 {x y : Int} (h : ¬ decide (x < 0) = decide (y < 0)) (hc : x.natAbs ≤ y.natAbs) : x + y = sg (decide (y < 0)) (y.natAbs - x.natAbs) := by
 have h' : ¬ (x < 0 ↔ y < 0) := by simpa using h
 unfold sg; split <;> rename_i h2 <;> simp at h2 <;> omega
theorem sg_mul (x y : Int) : x * y = sg (decide (decide (x < 0) ≠ decide (y < 0))) (x.natAbs * y.natAbs) := by
 unfold sg
 rw [Int.natCast_mul]
 by_cases hx : x < 0 <;> by_cases hy : y < 0 <;> simp [hx, hy]
 ·rw [show (x.natAbs : Int) = -x by omega, show (y.natAbs : Int) = -y by omega, Int.neg_mul_neg]
 ·rw [show (x.natAbs : Int) = -x by omega, show (y.natAbs : Int) = y by omega, Int.neg_mul, Int.neg_neg]
 ·rw [show (x.natAbs : Int) = x by omega, show (y.natAbs : Int) = -y by omega, Int.mul_neg, Int.neg_neg]
 ·rw [show (x.natAbs : Int) = x by omega, show (y.natAbs : Int) = y by omega]
theorem tup_eq2 {a b c d : AV} (h : a = b) (h2 : c = d) : AV.tup [a, c] = AV.tup [b, d] := by rw [h, h2]
theorem fdiv {z d Q R : Int} (hd : 0 < d) (h : R + d * Q = z) (h0 : 0 ≤ R) (h1 : R < d) : z / d = Q ∧ z % d = R := (Int.ediv_emod_unique hd).2 ⟨h, h0, h1⟩
theorem part1 {z : Int} {d q r : Nat} (hz : ¬ z < 0) (hd : 0 < d) (hq : q = z.natAbs / d) (hr : r = z.natAbs % d) : z / (d : Int) = sg false q ∧ z % (d : Int) = (r : Int) := by
 have h := Nat.div_add_mod z.natAbs d
 rw [← hq, ← hr] at h
 have h1 := Nat.mod_lt z.natAbs hd
 refine fdiv (by omega) ?_ (by omega) (by omega)
 have : ((d * q + r : Nat) : Int) = z := by omega
 simp only [sg, Bool.false_eq_true, if_false]
 rw [← this]; simp; omega
theorem part2 {z : Int} {d q r : Nat} (hz : z < 0) (hd : 0 < d) (hq : q = z.natAbs / d) (hr : r = z.natAbs % d) (h0 : r = 0) : z / (d : Int) = -(q : Int) ∧ z % (d : Int) = 0 := by
 have h := Nat.div_add_mod z.natAbs d
 rw [← hq, ← hr] at h
 refine fdiv (by omega) ?_ (by omega) (by omega)
 have : ((d * q + r : Nat) : Int) = -z := by omega
 rw [h0] at this
 rw [Int.mul_neg]; simp at this; omega
theorem part3 {z : Int} {d q r : Nat} (hz : z < 0) (hd : 0 < d) (hq : q = z.natAbs / d) (hr : r = z.natAbs % d) (h0 : r ≠ 0) : z / (d : Int) = -(q : Int) - 1 ∧ z % (d : Int) = (d : Int) - r := by
 have h := Nat.div_add_mod z.natAbs d
 have h1 := Nat.mod_lt z.natAbs hd
 rw [← hq, ← hr] at h
 refine fdiv (by omega) ?_ (by omega) (by omega)
 have : ((d * q + r : Nat) : Int) = -z := by omega
 rw [Int.mul_sub, Int.mul_neg]; simp at this; omega
theorem len_div {z : Int} {d q : Nat} (hq : q = z.natAbs / d) (hz : (digs z.natAbs).length ≤ 1000000000) (neg : Bool) : (digs (sg neg q).natAbs).length ≤ 1000000000 := by
 rw [sg_abs, hq]
 have := digs_len_le (Nat.div_le_self z.natAbs d)
 omega
theorem len_one : (digs (1 : Int).natAbs).length ≤ 1000000000 := by have := digs_len_small (n := (1 : Int).natAbs) (by decide); omega
theorem bl_eq {a b : Bool} (h : a = b) : AV.lit (.bool a) = AV.lit (.bool b) := by rw [h]
def rcells (zs : List Int) : List AV := zs.flatMap fun z => [bp (z < 0), .sl 1 (ns .i64 (digs z.natAbs))]
end Go.Ab
namespace Go.Proofs.YtdmkejloknejdaaGreatDoor
open Go Go.Ab
theorem mixedT : Tryz.prog.follows .mixedOrders = true := by kernel_rfl
def TabG (H : Heap) : Prop := ∃ t fr, H 2 = some (.cells (Lib.pow10Tab.map fun z => Value.int .u64 z).toArray t fr)
noncomputable def cx : Ctx := ⟨Tryz.prog, TabG, fun H H' hle ⟨t, fr, h⟩ => ⟨t, fr, hle _ _ h⟩, mixedT, []⟩
theorem tabIs {H : Heap} {w : World} (hG : TabG H) (hH : ∀ b o, H b = some o → w.heap[b]? = some o) : Lib.TabIs Tryz.prog w "internal/strconv.uint64pow10" .u64 Lib.pow10Tab := by
 obtain ⟨t, fr, h⟩ := hG
 have e : Tryz.prog.globalNamed "internal/strconv.uint64pow10" = some 2 := by kernel_rfl
 unfold Lib.TabIs World.var?
 rw [e, Option.bind_some, hH _ _ h]
end Go.Proofs.YtdmkejloknejdaaGreatDoor

namespace Go.Ab
open Go.RowKit

def postW (C : Ctx) (fn : Func) (f2 : FuncId) (t1 : TypeId) (cs1 : List AV) (t2 : TypeId) (cs2 : List AV) : Exit → St → Prop
 | .ret, σ => ∃ t id1 id2, fn.results = #[.tmp t] ∧ id1 ≠ id2 ∧ look σ.slots t = .clo f2 [.ref id1 0, .ref id2 0] ∧ lookO σ.objs id1 = some (.var t1 cs1) ∧ lookO σ.objs id2 = some (.var t2 cs2)
 | _, _ => False
theorem entry_rep {C : Ctx} {n : Nat} {w0 : World} {H : Heap} {L : Loc} {args : List AV} {vals : List Value} (hn : args.length ≤ n) (hr : RepL H args L vals) :
  (vals.toArray ++ Array.replicate (n - vals.toArray.size) undef).size = n ∧ ∀ i, RepV H (look (ent 0 args) i) L ((vals.toArray ++ Array.replicate (n - vals.toArray.size) undef).getD i undef) := by
 have hlen := hr.length
 refine ⟨by simp; omega, fun i => ?_⟩
 rw [look_ent]
 simp only [Nat.zero_le, if_true, Nat.sub_zero]
 cases hi : args[i]? with
 | none => simp [RepV]
 | some x =>
  obtain ⟨v, hv1, hv2⟩ := hr.get hi
  have hlt : i < vals.length := (List.getElem?_eq_some_iff.1 hv1).1
  simp only [Option.getD_some, Array.getD_eq_getD_getElem?]
  rw [Array.getElem?_append_left (by simpa using hlt)]
  simpa [hv1] using hv2
theorem entry_Rep {C : Ctx} (hmk : C.marks = []) {n : Nat} {H : Heap} {L : Loc} {w : World} {args : List AV} {vals : List Value} (hG : C.G H) (hH : ∀ b o, H b = some o → w.heap[b]? = some o) (hn : args.length ≤ n) (hr : RepL H args L vals) :
  Rep C n w H L (entry args).sem { tmps := vals.toArray ++ Array.replicate (n - vals.toArray.size) undef, defers := [] } w := by
 obtain ⟨h1, h2⟩ := entry_rep (C := C) (w0 := w) hn hr
 exact ⟨hG, hH, h1, h2, fun id o ho => by simp [entry, St.sem, lookO] at ho, fun id id' o o' g x x' _ ho => by simp [entry, St.sem, lookO] at ho, Bel.refl _ _, hmk.symm⟩
theorem ecallsW_of_awp {C : Ctx} {f : FuncId} {fn : Func} {c : Code} {args : List AV} {f2 : FuncId} {t1 t2 : TypeId} {cs1 cs2 : List AV} (hf : C.P.funcs[f]? = some fn) (hb : fn.body = some c) (hn : args.length ≤ fn.ntmps) (hc1 : closedL cs1 = true) (hc2 : closedL cs2 = true)
  (h : awp C fn.ntmps c (postW C fn f2 t1 cs1 t2 cs2) (entry args)) (hmk : C.marks = [] := by rfl) : ECallsW C f args f2 t1 cs1 t2 cs2 := by
 intro H L vals w hG hH hr
 refine calls_of_wp hf hb ((wpIn_wide (n := 0)).1 ?_)
 have hrep := entry_Rep hmk hG hH hn hr
 refine wpIn_mono (h w H L _ w hrep none) fun e a' w' hp => ?_
 obtain ⟨σ', H', L', hx, hr', hq⟩ := hp
 cases e with
 | ret =>
  obtain ⟨t, id1, id2, hres, hne, hs, ho1, ho2⟩ := hq
  have hsl := hr'.slot t
  rw [show σ'.sem.ρ t = look σ'.slots t from rfl, hs] at hsl
  simp only [RepV, RepL] at hsl
  obtain ⟨vs, hv, v1, r1, rfl, ⟨x1, g1, hl1, hg1, rfl⟩, v2, r2, rfl, ⟨x2, g2, hl2, hg2, rfl⟩, rfl⟩ := hsl
  obtain ⟨g1', vs1, hl1', hh1, hr1, hone1, hB1, hn1⟩ := hr'.objs id1 _ ho1
  obtain ⟨g2', vs2, hl2', hh2, hr2, hone2, hB2, hn2⟩ := hr'.objs id2 _ ho2
  rw [hl1] at hl1'
  rw [hl2] at hl2'
  cases hl1'
  cases hl2'
  have hg := hr'.apart id1 id2 _ _ g1' _ _ hne ho1 ho2 hl1 hl2 rfl
  simp [ownB] at hg1 hg2 hg
  subst hg1
  subst hg2
  refine ⟨hr'.defers.trans hmk, _, ?_, H', g1', g2', vs1, vs2, rfl, hx, hr'.heap, hr'.below, fun e => hg e.symm, hB1, hB2, hn1, hn2, hh1, hh2, RepL.closed hc1 hr1, RepL.closed hc2 hr2, hone1, hone2⟩
  have hm : (fn.results.mapM (resOne a'.tmps)).run C.P w' = .ok #[a'.tmps.getD t undef] w' := by
   rw [hres, Array.mapM_eq_mapM_toList]
   simp [resOne]
  show (do let vs ← fn.results.mapM (resOne a'.tmps); pure (if h : vs.size = 1 then vs[0] else .tuple vs) : Sem Value).run C.P w' = _
  simp only [Sem.run_bind, hm, Result.andThen_ok, Sem.run_pure]
  rw [dif_pos (by rfl)]
  simp [hv]
 | _ => exact hq.elim

/-! ### Ghosts, and frames over the same memory -/
section
variable {C : Ctx} {n : Nat} {w0 : World} {H : Heap} {L : Loc} {S : SS} {a : Act} {w : World}
theorem Rep.pinned (h : Rep C n w0 H L S a w) {id : Nat} (hf : S.Fresh id) {cs : List AV} {us : List Value} (hr : RepL H cs L us) (hn : hasL id cs = false) :
  Rep C n w0 H (L.set id (some (.tuple #[]))) { ρ := S.ρ, μ := fun i => if i = id then some (.pin cs us) else S.μ i } a w :=
 h.new hf (Bel.refl _ _) (fun g hg => by simp [ownB] at hg) ⟨by simp [Loc.set], RepL.setL hn hr⟩ h.heap
theorem Rep.frame (h : Rep C n w0 H L S a w) (mk : List Deferred) {n' : Nat} {a' : Act} (hs : a'.tmps.size = n') (hd : a'.defers = mk) {ρ : Nat → AV} (hρ : ∀ i, RepV H (ρ i) L (a'.tmps.getD i undef)) : Rep { C with marks := mk } n' w0 H L ⟨ρ, S.μ⟩ a' w :=
 ⟨h.glob, h.heap, hs, hρ, h.objs, h.apart, h.below, hd⟩
end
def valsOf : List (Nat × AV) → List AV
 | [] => []
 | (_, v) :: r => v :: valsOf r
theorem valsOf_has {id : Nat} : ∀ {so : List (Nat × AV)}, so.all (fun p => !p.2.has id) = true → hasL id (valsOf so) = false
 | [], _ => rfl
 | (i, v) :: r, h => by
  simp only [List.all_cons, Bool.and_eq_true, Bool.not_eq_true'] at h
  simp only [valsOf, hasL, h.1, valsOf_has h.2, Bool.or_self]
theorem slots_rep {H : Heap} {L : Loc} {t : Nat → Value} : ∀ {so : List (Nat × AV)}, (∀ p ∈ so, RepV H p.2 L (t p.1)) → RepL H (valsOf so) L (so.map fun p => t p.1)
 | [], _ => by simp [valsOf, RepL]
 | (i, v) :: r, h => by
  simp only [valsOf, List.map_cons, RepL]
  exact ⟨_, _, rfl, h (i, v) (by simp), slots_rep fun p hp => h p (by simp [hp])⟩
theorem slots_of {H : Heap} {L : Loc} {t : Nat → Value} : ∀ {so : List (Nat × AV)}, RepL H (valsOf so) L (so.map fun p => t p.1) → ∀ i, RepV H (look so i) L (t i)
 | [], _, i => by simp [look, RepV]
 | (j, v) :: r, h, i => by
  simp only [valsOf, List.map_cons, RepL] at h
  obtain ⟨x, y, e, h1, h2⟩ := h
  cases e
  simp only [look]
  cases hb : Nat.beq j i with
  | true => have := Nat.eq_of_beq_eq_true hb; subst this; exact h1
  | false => exact slots_of h2 i
def pinA (so : List (Nat × AV)) (tmps : Array Value) : AO := .pin (valsOf so) (so.map fun p => tmps.getD p.1 undef)
def parS : List Nat → List AV → List (Nat × AV) → List (Nat × AV)
 | p :: ps, v :: vs, s => parS ps vs ((p, v) :: s)
 | _, _, s => s
theorem par_rep {H : Heap} {L : Loc} : ∀ (ps : List Nat) (asx : List AV) (vals : List Value) (s : List (Nat × AV)) (tmps : Array Value), RepL H asx L vals → (∀ p ∈ ps, p < tmps.size) → asx.length = ps.length → (∀ i, RepV H (look s i) L (tmps.getD i undef)) →
  ∀ i, RepV H (look (parS ps asx s) i) L (((ps.zip vals).foldl (fun (t : Array Value) (p : Nat × Value) => t.setIfInBounds p.1 p.2) tmps).getD i undef)
 | [], [], vals, s, tmps, hr, hp, hl, hs => by simpa [parS] using hs
 | p :: ps, [], vals, s, tmps, hr, hp, hl, hs => by simp at hl
 | [], a :: asx, vals, s, tmps, hr, hp, hl, hs => by simp at hl
 | p :: ps, a :: asx, vals, s, tmps, hr, hp, hl, hs => by
  simp only [RepL] at hr
  obtain ⟨v, r, rfl, h1, h2⟩ := hr
  simp only [parS, List.zip_cons_cons, List.foldl_cons]
  refine par_rep ps asx r _ _ h2 (fun q hq => by simpa using hp q (by simp [hq])) (by simpa using hl) fun i => ?_
  have hlt := hp p (by simp)
  simp only [look]
  cases hb : Nat.beq p i with
  | true => have := Nat.eq_of_beq_eq_true hb; subst this; simpa [Array.getD_eq_getD_getElem?, hlt] using h1
  | false =>
   have := Nat.ne_of_beq_eq_false hb
   have h3 := hs i
   simpa [Array.getD_eq_getD_getElem?, Array.getElem?_setIfInBounds_ne this] using h3
theorem foldl_size : ∀ (l : List (Nat × Value)) (tmps : Array Value), (l.foldl (fun (t : Array Value) (p : Nat × Value) => t.setIfInBounds p.1 p.2) tmps).size = tmps.size
 | [], _ => rfl
 | p :: l, tmps => by simp [foldl_size l]

/-! ### One round -/
def lrec (fn : FuncId) (tmps : Array Value) (ps : Array Tmp) (assign body : Code) (D : Nat) (st : LoopState) (pe : Option Code) : Loop := { state := st, pending := pe, fn := fn, tmps := tmps, params := ps, assign := assign, body := body, defers := D }
def YldAt (C : Ctx) (nI : Nat) (l : Nat) (asx : List AV) (σ : St) (K : Bool → St → Prop) : Prop :=
 ∀ (w0 : World) (H : Heap) (L : Loc) (a : Act) (w : World) (vals : List Value), Rep C nI w0 H L σ.sem a w → RepL H asx L vals →
  ∃ fn tmps assign body, (Instr.yield l vals.toArray).run C.P w = .ok (.round l fn tmps assign body) w ∧
   RoundIn (fen none) 0 C.P l fn tmps assign body w fun e w' => ∃ b σ' H' L', e = .returned (.bool b) ∧ Ext w0.heap.size H H' ∧ Rep C nI w0 H' L' (St.sem σ') a w' ∧ K b σ'
theorem YldAt.wk {C : Ctx} {nI l : Nat} {asx : List AV} {σ σ1 : St} {K : Bool → St → Prop} (hw : Wk C nI σ σ1) (hc : closedL asx = true) (h : YldAt C nI l asx σ1 K) : YldAt C nI l asx σ K := fun w0 H L a w vals hr hv => by
 obtain ⟨H1, L1, hx, hr1⟩ := hw w0 H L a w hr
 obtain ⟨fn, tmps, assign, body, h1, h2⟩ := h w0 H1 L1 a w vals hr1 (RepL.closed hc (RepL.mono hx.1 (Loc.le_refl _) hv))
 exact ⟨fn, tmps, assign, body, h1, h2.mono fun e w' ⟨b, σ', H', L', a1, a2, a3, a4⟩ => ⟨b, σ', H', L', a1, hx.trans a2, a3, a4⟩⟩
theorem YldAt.mono {C : Ctx} {nI l : Nat} {asx : List AV} {σ : St} {K K' : Bool → St → Prop} (h : YldAt C nI l asx σ K) (hk : ∀ b σ, K b σ → K' b σ) : YldAt C nI l asx σ K' := fun w0 H L a w vals hr hv => by
 obtain ⟨fn, tmps, assign, body, h1, h2⟩ := h w0 H L a w vals hr hv
 exact ⟨fn, tmps, assign, body, h1, h2.mono fun e w' ⟨b, σ', H', L', a1, a2, a3, a4⟩ => ⟨b, σ', H', L', a1, a2, a3, hk _ _ a4⟩⟩

def awpRound (C : Ctx) (n : Nat) (assign body : Code) (o o' : Obj) (pl : AO) (Q : Exit → St → Prop) (σ : St) : Prop :=
 awp C n assign (thenK (fun σ1 => ∃ s1 m1, Wk C n σ1 ⟨s1, (9001, .blk o) :: m1⟩ ∧ lookO m1 9004 = some pl ∧ awp C n body Q ⟨s1, (9001, .blk o') :: m1⟩) (fun _ _ => False)) σ
def pinL (l : Nat) (D : Nat) : AO := .pin [.ref 9001 0, .ref 9002 0] [.pointer (some ⟨l, 0, none⟩), .pointer (some ⟨D, 0, none⟩)]
def roundQ (C : Ctx) (n : Nat) (o' : Obj) (pI : AO) (l D : Nat) (KN : List (Nat × AO) → Prop) (KX : Code → List (Nat × AO) → Prop) : Exit → St → Prop
 | .normal, σ => ∃ m', Wk C n σ ⟨[], (9005, pI) :: (9001, .blk o') :: m'⟩ ∧ lookO m' 9004 = some (pinL l D) ∧ lookO m' 9005 = none ∧ KN m'
 | .ret, σ => ∃ m', Wk C n σ ⟨[], (9005, pI) :: (9001, .blk o') :: m'⟩ ∧ lookO m' 9004 = some (pinL l D) ∧ lookO m' 9005 = none ∧ KX .ret m'
 | .exit id, σ => ∃ m', Wk C n σ ⟨[], (9005, pI) :: (9001, .blk o') :: m'⟩ ∧ lookO m' 9004 = some (pinL l D) ∧ lookO m' 9005 = none ∧ KX (.exit id) m'
 | _, _ => False

theorem mu_sem (s : List (Nat × AV)) (m : List (Nat × AO)) (i : Nat) : (St.sem ⟨s, m⟩).μ i = lookO m i := rfl
theorem pinL_loc {C : Ctx} {n : Nat} {w0 : World} {H : Heap} {L : Loc} {S : SS} {a : Act} {w : World} (hr : Rep C n w0 H L S a w) {l D : Nat} (h : S.μ 9004 = some (pinL l D)) {o : Obj} (ho : S.μ 9001 = some (.blk o)) :
  L 9001 = some (.pointer (some ⟨l, 0, none⟩)) ∧ w.heap[l]? = some o ∧ w0.heap.size ≤ l ∧ H l = none := by
 obtain ⟨_, hp⟩ := hr.objs 9004 _ h
 simp only [RepL] at hp
 obtain ⟨v, r, e, hv, _⟩ := hp
 cases e
 simp only [RepV] at hv
 obtain ⟨x, g, h1, h2, h3⟩ := hv
 obtain ⟨g', k1, k2, k3, k4⟩ := hr.objs 9001 _ ho
 rw [h1] at k1
 cases k1
 simp [ownB] at h2 h3
 subst h2
 subst h3
 exact ⟨h1, k2, k3, k4⟩
theorem lookO_hd (i : Nat) (o : AO) (m : List (Nat × AO)) : lookO ((i, o) :: m) i = some o := by simp [lookO]

theorem Rep.putRec {C : Ctx} {n : Nat} {w0 : World} {H : Heap} {L : Loc} {s : List (Nat × AV)} {m : List (Nat × AO)} {a : Act} {w : World} {o : Obj} {l D : Nat} (hr : Rep C n w0 H L (St.sem ⟨s, m⟩) a w) (h1 : lookO m 9001 = some (.blk o)) (h4 : lookO m 9004 = some (pinL l D)) (o' : Obj) (m' : List (Nat × AO))
  (hm : ∀ i, lookO m' i = if i = 9001 then some (.blk o') else lookO m i) : Rep C n w0 H L (St.sem ⟨s, m'⟩) a (w.putObj l o') := by
 obtain ⟨hl, hh, hB, hH⟩ := pinL_loc hr h4 h1
 have hlt := (Array.getElem?_eq_some_iff.1 hh).1
 have hw := hr.wrote (ob' := .blk o') h1 hl rfl (w' := w.putObj l o') (fun k hk => World.putObj_heap_other hk) ⟨rfl, rfl, rfl, by simp, fun k hk => World.putObj_heap_other (by omega), Nat.le_refl _⟩ ⟨l, hl, World.putObj_heap_same hlt, hB, hH⟩
 have e : (St.sem ⟨s, m'⟩) = { ρ := (St.sem ⟨s, m⟩).ρ, μ := fun i => if i = 9001 then some (.blk o') else (St.sem ⟨s, m⟩).μ i } := by
  unfold St.sem
  congr 1
  funext i
  exact hm i
 rw [e]
 exact hw

theorem nod_look : ∀ {so : List (Nat × AV)}, nodB (so.map (·.1)) = true → ∀ p ∈ so, look so p.1 = p.2
 | [], _, p, hp => by cases hp
 | (i, v) :: r, h, p, hp => by
  simp only [List.map_cons, nodB, Bool.and_eq_true] at h
  simp only [look]
  rcases List.mem_cons.1 hp with e | e
  ·subst e; simp
  ·have h1 := List.all_eq_true.1 h.1 p.1 (List.mem_map_of_mem e)
   simp only [Bool.not_eq_true'] at h1
   rw [h1]
   exact nod_look h.2 p e
theorem marks_nil {C : Ctx} (h : C.marks = []) : { C with marks := [] } = C := by cases C; simp at h; subst h; rfl
theorem Rep.frameS {C : Ctx} {n n' : Nat} {w0 : World} {H : Heap} {L : Loc} {S : SS} {a a' : Act} {w : World} (h : Rep C n w0 H L S a w) (mk : List Deferred) (hs : a'.tmps.size = n') (hd : a'.defers = mk) {s : List (Nat × AV)} (hρ : ∀ i, RepV H (look s i) L (a'.tmps.getD i undef))
  {m : List (Nat × AO)} (hm : ∀ i o, lookO m i = some o → S.μ i = some o) : Rep { C with marks := mk } n' w0 H L (St.sem ⟨s, m⟩) a' w := (h.frame mk hs hd hρ).fewer hm

theorem lex_prefix {C : Ctx} {n : Nat} {w0 : World} {ops : Array Oper} {Q : Exit → Act → World → Prop} (r : Option Nat) (rest : List Nat) : ∀ (os : List Oper) (i : Nat) (S S' : SS) (es : List Eff) (H : Heap) (L : Loc) (a : Act) (w : World), (ops.toList.drop i).take os.length = os → Trace C ops S os es S' → Rep C n w0 H L S a w → (∀ o ∈ os, ∀ d, o.dst = some d → d < n) →
  (∀ a' w' H' L', Ext w0.heap.size H H' → Rep C n w0 H' L' S' a' w' → wpOpsIn (fen r) 0 C.P ops Q rest a' w') → wpOpsIn (fen r) 0 C.P ops Q (List.range' i os.length ++ rest) a w
 | [], i, S, S', es, H, L, a, w, hos, ht, hr, hd, hQ => by
  cases ht
  simp only [List.length_nil, List.range'_zero, List.nil_append]
  exact hQ a w H L (Ext.refl _ _) hr
 | o :: os, i, S, S', es, H, L, a, w, hos, ht, hr, hd, hQ => by
  cases ht with
  | cons h hf t =>
   simp only [List.length_cons, List.range'_succ, List.cons_append]
   rw [wpOpsIn_cons]
   have hi : ops[i]? = some o := by
    have := congrArg (·[0]?) hos
    simp only [List.length_cons, List.getElem?_take, List.getElem?_drop, Nat.add_zero, List.getElem?_cons_zero, Array.getElem?_toList] at this
    simpa using this
   have hos' : (ops.toList.drop (i + 1)).take os.length = os := by
    have := congrArg (List.drop 1) hos
    simpa [List.drop_take] using this
   refine h.sound hi hr (hd o (by simp)) hf (fun a' w' H' L' hx hr' => ?_) r
   exact lex_prefix r rest os (i + 1) _ S' _ H' L' a' w' hos' t hr' (fun o' ho' => hd o' (by simp [ho'])) fun a2 w2 H2 L2 hx2 hr2 => hQ a2 w2 H2 L2 (hx.trans hx2) hr2

def mark (D : Nat) : Deferred := { target := .collected D, args := #[] }
def awpT (C : Ctx) (n : Nat) (mk : List Deferred) (c : Code) (Q : List Deferred → Exit → St → Prop) (σ : St) : Prop :=
 ∀ w0 H L a w, Rep { C with marks := mk } n w0 H L σ.sem a w → c.wpIn (fen none) 0 C.P (fun e a w => ∃ mk', Post { C with marks := mk' } n w0 H (Q mk') e a w) a w
def thenKT (K : List Deferred → St → Prop) (Q : List Deferred → Exit → St → Prop) : List Deferred → Exit → St → Prop
 | mk, .normal, σ => K mk σ
 | mk, e, σ => Q mk e σ
def inBlkT (id : Nat) (Q : List Deferred → Exit → St → Prop) : List Deferred → Exit → St → Prop
 | mk, .exit i, σ => bif Nat.beq i id then Q mk .normal σ else Q mk (.exit i) σ
 | mk, e, σ => Q mk e σ
section
variable {C : Ctx} {n : Nat} {mk : List Deferred} {Q : List Deferred → Exit → St → Prop} {σ : St}
end

def jumpQ (Q : Exit → St → Prop) (σ : St) : Option Code → Prop
 | none => Q .normal σ
 | some .ret => Q .ret σ
 | some (.exit id) => Q (.exit id) σ
 | _ => False

theorem Rep.blkS {C : Ctx} {n : Nat} {w0 : World} {H : Heap} {L : Loc} {s : List (Nat × AV)} {m : List (Nat × AO)} {a : Act} {w : World} (hr : Rep C n w0 H L (St.sem ⟨s, m⟩) a w) {id : Nat} (hf : St.freshB ⟨s, m⟩ id = true) (o : Obj) :
  Rep C n w0 H (L.set id (some (.pointer (some ⟨w.heap.size, 0, none⟩)))) (St.sem ⟨s, (id, .blk o) :: m⟩) a (w.alloc o) := by
 have hnone : H w.heap.size = none := by
  cases hh : H w.heap.size with
  | none => rfl
  | some ob => have := (Array.getElem?_eq_some_iff.1 (hr.heap _ _ hh)).1; omega
 have hnew := hr.new (id := id) (ob := .blk o) (x := .pointer (some ⟨w.heap.size, 0, none⟩)) (w' := w.alloc o) (fresh_sem hf) (alloc_below w _) (fun g hg => by simp [ownB] at hg; omega)
  ⟨w.heap.size, by simp [Loc.set], by rw [heap_alloc_new], hr.below.size, hnone⟩
  (fun b ob hb => by rw [(alloc_below w _).block b (Array.getElem?_eq_some_iff.1 (hr.heap _ _ hb)).1]; exact hr.heap _ _ hb)
 exact hnew.fewer fun i o' hi => by
  have hi' : lookO ((id, .blk o) :: m) i = some o' := hi
  simp only [lookO] at hi'
  by_cases h : i = id
  ·subst h; simpa using hi'
  ·rw [beq_ne (fun e => h e.symm)] at hi'; simp only [h, if_false]; exact hi'
theorem Rep.pinS {C : Ctx} {n : Nat} {w0 : World} {H : Heap} {L : Loc} {s : List (Nat × AV)} {m : List (Nat × AO)} {a : Act} {w : World} (hr : Rep C n w0 H L (St.sem ⟨s, m⟩) a w) {id : Nat} (hf : St.freshB ⟨s, m⟩ id = true) {cs : List AV} {us : List Value} (hp : RepL H cs L us) (hn : hasL id cs = false) :
  Rep C n w0 H (L.set id (some (.tuple #[]))) (St.sem ⟨s, (id, .pin cs us) :: m⟩) a w :=
 (hr.pinned (fresh_sem hf) hp hn).fewer fun i o' hi => by
  have hi' : lookO ((id, .pin cs us) :: m) i = some o' := hi
  simp only [lookO] at hi'
  by_cases h : i = id
  ·subst h; simpa using hi'
  ·rw [beq_ne (fun e => h e.symm)] at hi'; simp only [h, if_false]; exact hi'
theorem run_callFunc {P : Program} {f : FuncId} (hc : callable P f = true) (args : Array Value) (w : World) : (callFunc f args).run P w = .ok (.enter f args) w := by
 obtain ⟨hb, hnm⟩ := callable_spec hc
 cases hf : P.funcs[f]? with
 | none => simp [hf] at hb
 | some fn =>
  have hb' : fn.body.isNone = false := by
   have : fn.body.isSome = true := by simpa [hf] using hb
   cases hbb : fn.body <;> simp_all
  have hn' : (fn.name == "runtime.NumGoroutine") = false := by simpa [hf] using hnm
  simp only [callFunc, Sem.run_bind, Sem.run_pure, Result.andThen_ok, run_program, hf, hn', hb', Bool.false_eq_true, if_false]
theorem RepL.cons {H : Heap} {L : Loc} {x : AV} {v : Value} {xs : List AV} {vs : List Value} (h : RepV H x L v) (k : RepL H xs L vs) : RepL H (x :: xs) L (v :: vs) := by
 simp only [RepL]
 exact ⟨_, _, rfl, h, k⟩
theorem clo_has {σ : St} {id : Nat} {gf : FuncId} {caps : List AV} (g : Operand) (hf : σ.sem.Fresh id) (hg : σ.ev g = .clo gf caps) : hasL id caps = false := by
 have := ev_has hf g
 rw [ev_sem, hg] at this
 exact this
theorem freshB_cons {s : List (Nat × AV)} {m : List (Nat × AO)} {id i : Nat} {o : AO} (h : St.freshB ⟨s, m⟩ id = true) (hi : Nat.beq i id = false) (ho : o.has id = false) : St.freshB ⟨s, (i, o) :: m⟩ id = true := by
 simp only [St.freshB, Bool.and_eq_true, List.all_cons, hi, ho, Bool.not_false] at h ⊢
 exact ⟨h.1, ⟨trivial, trivial⟩, h.2⟩

def postT (C : Ctx) (fn : Func) (res : AV) : List Deferred → Exit → St → Prop
 | [], e, σ => postF C fn res e σ
 | [d], .ret, σ => ∃ vs D l, d = mark D ∧ ResOk C σ fn.results.toList vs ∧ closedL vs = true ∧ res = packR vs ∧ lookO σ.objs 9002 = some (.blk (.deferred (some []))) ∧ lookO σ.objs 9004 = some (pinL l D)
 | [d], .normal, σ => ∃ vs D l, d = mark D ∧ ResOk C σ fn.results.toList vs ∧ closedL vs = true ∧ res = packR vs ∧ lookO σ.objs 9002 = some (.blk (.deferred (some []))) ∧ lookO σ.objs 9004 = some (pinL l D)
 | _, _, _ => False
theorem res_ends {C : Ctx} {fn : Func} {σ : St} {n : Nat} {w0 w : World} {H : Heap} {L : Loc} {a : Act} (hr : Rep C n w0 H L σ.sem a w) {vs : List AV} (hres : ResOk C σ fn.results.toList vs) (hcl : closedL vs = true) :
  ∃ v, (results fn a.tmps).run C.P w = .ok v w ∧ RepV H (packR vs) noLoc v := by
 obtain ⟨us, hrun, hrl⟩ := res_run hr _ _ hres
 have hlu := hrl.length
 refine ⟨if h : us.toArray.size = 1 then us.toArray[0] else .tuple us.toArray, ?_, ?_⟩
 ·show (do let vs ← fn.results.mapM (resOne a.tmps); pure (if h : vs.size = 1 then vs[0] else .tuple vs) : Sem Value).run C.P w = _
  have hm : (fn.results.mapM (resOne a.tmps)).run C.P w = .ok us.toArray w := by
   rw [Array.mapM_eq_mapM_toList]
   simp [hrun]
  simp only [Sem.run_bind, hm, Result.andThen_ok, Sem.run_pure]
 ·have hrc := RepL.closed (L' := noLoc) hcl hrl
  match vs, us, hrc, hlu with
  | [v], [u], hrc, _ =>
   simp only [packR]
   simp only [RepL] at hrc
   obtain ⟨x, r, e, hx, _⟩ := hrc
   cases e
   simpa using hx
  | [], us, hrc, hlu =>
   have : us = [] := List.eq_nil_of_length_eq_zero (by simpa using hlu)
   subst this
   simp only [packR, RepV]
   exact ⟨[], by simp, hrc⟩
  | v1 :: v2 :: vs, us, hrc, hlu =>
   simp only [packR, RepV]
   refine ⟨us, ?_, hrc⟩
   rw [dif_neg (by simp at hlu ⊢; omega)]
theorem Wk.nilIn {C : Ctx} {n : Nat} {σ : St} {i id ty e sz : Nat} (hs : lookO σ.objs i = some (.var ty [.lit (.slice none 0 0)])) (hf : σ.freshB id = true) (hsz : 0 < sz) : Wk C n σ ⟨σ.slots, (id, .row e sz []) :: (i, .var ty [.row id]) :: σ.objs⟩ := fun w0 H L a w hr => by
 have hne : i ≠ id := fun e => by
  subst e
  have := (fresh_sem hf).1
  rw [show σ.sem.μ i = lookO σ.objs i from rfl, hs] at this
  cases this
 have hnew := hr.new (id := id) (ob := .row e sz []) (x := .slice none 0 0) (w' := w) (fresh_sem hf) (Bel.refl _ _) (fun g hg => by simp [ownB] at hg)
  ⟨.slice none 0 0, [], 0, by simp [Loc.set], by simp, World.ownsRow_nil w _ e sz, by simp [RepL], by simp, hsz, by simp, fun g hg => by simp [ownB] at hg⟩ hr.heap
 have conv : ∀ j o, lookO ((id, .row e sz []) :: (i, .var ty [.row id]) :: σ.objs) j = some o → (j = i ∧ o = .var ty [.row id]) ∨ (j ≠ i ∧ (if j = id then some (AO.row e sz []) else σ.sem.μ j) = some o) := fun j o ho => by
  simp only [lookO] at ho
  by_cases h1 : j = id
  ·subst h1
   simp at ho
   exact .inr ⟨fun e => hne e.symm, by simp [ho]⟩
  ·rw [beq_ne (fun e => h1 e.symm)] at ho
   by_cases h2 : j = i
   ·subst h2
    simp at ho
    exact .inl ⟨rfl, ho.symm⟩
   ·rw [beq_ne (fun e => h2 e.symm)] at ho
    exact .inr ⟨h2, by simp only [h1, if_false]; exact ho⟩
 have hi0 := hnew.objs i (.var ty [.lit (.slice none 0 0)]) (by simp only [hne, if_false]; exact hs)
 refine ⟨H, L.set id (some (.slice none 0 0)), Ext.refl _ _, ⟨hnew.glob, hnew.heap, hnew.size, hnew.slot, fun j o ho => ?_, fun j k o o' g x x' hjk hj hk => ?_, hnew.below, hnew.defers⟩⟩
 ·rcases conv j o ho with ⟨rfl, rfl⟩ | ⟨h1, h2⟩
  ·obtain ⟨g, vs, a1, a2, a3, a4, a5, a6⟩ := hi0
   refine ⟨g, vs, a1, a2, ?_, a4, a5, a6⟩
   simp only [RepL, RepV] at a3 ⊢
   obtain ⟨v, r, rfl, rfl, rfl⟩ := a3
   exact ⟨_, [], rfl, ⟨by simp [Loc.set], rfl⟩, rfl⟩
  ·exact hnew.objs j o h2
 ·have conv' : ∀ j o, lookO ((id, .row e sz []) :: (i, .var ty [.row id]) :: σ.objs) j = some o → ∃ o', (if j = id then some (AO.row e sz []) else σ.sem.μ j) = some o' := fun j o ho => by
   rcases conv j o ho with ⟨rfl, rfl⟩ | ⟨h1, h2⟩
   ·exact ⟨_, by simp only [hne, if_false]; exact hs⟩
   ·exact ⟨_, h2⟩
  obtain ⟨o1, h1⟩ := conv' j o hj
  obtain ⟨o2, h2⟩ := conv' k o' hk
  exact hnew.apart j k o1 o2 g x x' hjk h1 h2
end Go.Ab

namespace Go.Ab
open Go.ChangeShapes Go.WideShapes Go.ChangeAt Go.RowKit
open Go.ChangeMaps (open_string shut_string)

section
variable {H : Type} {enc : TypeId × Value → H} {P : Program}
theorem witness_laid {C : Checked} {os : Os} {f : FuncId} {fn : Func} {s : OpenSpec} {conds : List PathCond} {apart : Bool} {laid : List (String × DataW Unit)} (args : Array Value)
  (hv : ((World.laidAll C.prog os laid).forCall (fun _ _ => 0) ⟨#[], args, []⟩).variablesZipB C.prog = true)
  (hr : (((World.laidAll C.prog os laid).forCall (fun _ _ => 0) ⟨#[], args, []⟩).heap.toList.drop C.prog.globals.size).take ((begin C.prog (fun _ _ => 0) default).world.heap.size - C.prog.globals.size) =
   (begin C.prog (fun _ _ => 0) default).world.heap.toList.drop C.prog.globals.size)
  (hok : Input.okWideB C.prog ((World.laidAll C.prog os laid).forCall (fun _ _ => 0) ⟨#[], args, []⟩) f ⟨#[], args, []⟩ = true)
  (hrow : s.preRow enc C.prog fn conds apart laid ((World.laidAll C.prog os laid).forCall (fun _ _ => 0) ⟨#[], args, []⟩).memory args) :
  ∃ (w : World) (tape : Tape) (i : Input), w.os = os ∧ (w.forCall tape i).Shaped C.prog ∧ i.vars = [] ∧ Input.okWide C.prog (w.forCall tape i) .any w.heap.size f i ∧
   s.preRow enc C.prog fn conds apart laid (w.forCall tape i).memory i.args ∧ ({} : Assume).holds C.prog (lone (Frame.enter C.prog f i.args .normal) [] (w.forCall tape i)) :=
 ⟨World.laidAll C.prog os laid, fun _ _ => 0, ⟨#[], args, []⟩, World.laidAll_os _ _ _, World.shaped_of_ZipB hv hr, (Input.okWide_of_okWideB (base := 0) hok).1, (Input.okWide_of_okWideB hok).2, hrow, by
  exact ⟨fun h => absurd h Bool.false_ne_true, fun h => absurd h Bool.false_ne_true, fun h => absurd h Bool.false_ne_true, fun d h => absurd h (by simp), fun d h => absurd h (by simp), fun h => absurd h Bool.false_ne_true⟩⟩

theorem trodAll_back (hl : laidOutB P = true) {W W' : World} (hb : Below W.heap.size W W') : ∀ (ts : List TypeId) (vs : List Value) (ds : List (DataW H)) (ps : List MemPlace), (ts.all fun t => P.readableRec t && decide (t < P.types.size)) = true →
  DataW.TrodAll enc P W 0 (fun _ => true) true ts vs ds ps → (∀ x ∈ ps, x.block < W.heap.size) → DataW.TrodAll enc P W' 0 (fun b => decide (b < W.heap.size)) true ts vs ds ps
 | [], [], [], ps, _, h, _ => h
 | t :: ts, v :: vs, d :: ds, ps, hr, h, hlt => by
  obtain ⟨p, q, h1, h2, rfl⟩ := h
  simp only [List.all_cons, Bool.and_eq_true, decide_eq_true_eq] at hr
  exact ⟨p, q, Below.trod hl hr.1.1 hr.1.2 h1 hb (fun x hx => hlt x (by simp [hx])), trodAll_back hl hb ts vs ds q (by simpa using hr.2) h2 (fun x hx => hlt x (by simp [hx])), rfl⟩
 | [], [], _ :: _, _, _, h, _ => h.elim
 | [], _ :: _, _, _, _, h, _ => by cases ‹List (DataW H)› <;> exact h.elim
 | _ :: _, [], _, _, _, h, _ => by cases ‹List (DataW H)› <;> exact h.elim
 | _ :: _, _ :: _, [], _, _, h, _ => h.elim

def memOf (W : World) : Heap := fun b => W.heap[b]?

theorem rep_ints {W : World} {sp : Nat → Bool} {hd : Bool} {t e : TypeId} {k : IntKind} {fuel : Nat} {v : Value} {y : DataW H × List MemPlace} {c : Nat} (ht : P.underlying t = some (.slice e)) (he : P.underlying e = some (.int k)) (hc : P.cellsOf e = 1)
  (h : DataW.trod enc P W 0 sp hd fuel t [v] = some y) (hbt : P.bytesOf e = c) (hc0 : 0 < c) (hsz : ∀ n ∈ y.1.weights P t, n ≤ reachBytes) (L : Loc) :
  ∃ zs : List Int, RepV (memOf W) (.sl 1 (is k zs)) L v ∧ v.oneCell' = true ∧ zs.length * c ≤ reachBytes ∧ (∀ z ∈ zs, (Lit.int k z).wf = true) ∧ ((y.1 = .nil ∧ zs = []) ∨ ∃ es sp, y.1 = .slice es sp ∧ es.length = zs.length) := by
 have hrb : reachBytes = 140737488351232 := by decide
 rcases open_ints ht he hc h with ⟨hcs, hy⟩ | ⟨a, len, cap, zs, hcs, _, hl, hm, hz, hy, hcell, hwf⟩
 ·simp at hcs
  subst hcs
  refine ⟨[], ?_, rfl, by simp, by simp, .inl ⟨by rw [hy], rfl⟩⟩
  simp only [RepV]
  exact ⟨none, 0, 0, rfl, Nat.le_refl _, by simp [maxLen], by decide, by simp [is], ⟨by simp [is], fun _ => rfl⟩, fun hp => absurd hp (by omega)⟩
 ·simp at hcs
  subst hcs
  have hlz : len ≤ zs.length := by rw [hz]; split <;> omega
  have hw := hsz (zs.length * c) (by
   subst hy
   subst hbt
   simp only [DataW.weights, ht]
   have : (lits (H := H) k (zs.take len)).length + (lits (H := H) k (zs.drop len)).length = zs.length := by simp [lits]; omega
   rw [this]
   simp)
  have hlen : (zs.take len).length = len := by simp; omega
  have hle : len * c ≤ zs.length * c := Nat.mul_le_mul_right _ hlz
  have hle2 : len * 1 ≤ len * c := Nat.mul_le_mul_left _ hc0
  refine ⟨zs.take len, ?_, rfl, by rw [hlen]; omega, fun z hz' => hwf z (List.mem_of_mem_take hz'), .inr ⟨_, _, by rw [hy], by simp [lits]⟩⟩
  simp only [RepV]
  refine ⟨some a, len, cap, rfl, hl, hm, by decide, by simp [is]; omega, ⟨by simp [is]; omega, by simp⟩, fun hp => ?_⟩
  have h0 := hcell 0 (by omega)
  have ha : a.spot = none ∧ ∃ o t fr, W.heap[a.block]? = some (.cells o t fr) := by
   simp only [Addr.add, if_true] at h0
   unfold World.cell? at h0
   split at h0
   ·rename_i o t fr hh
    split at h0
    ·cases h0
    ·rename_i hs
     exact ⟨by simpa using hs, o, t, fr, hh⟩
   ·cases h0
  obtain ⟨hsp, o, t', fr, hh⟩ := ha
  obtain ⟨b, off, spot⟩ := a
  simp only at hsp hh
  subst hsp
  refine ⟨b, off, o, t', fr, (zs.take len).map (.int k), rfl, hh, fun j u hu => ?_, ?_, fun u hu => ?_⟩
  ·simp only [List.getElem?_map, Option.map_eq_some_iff] at hu
   obtain ⟨z, hz', rfl⟩ := hu
   have hj : j < zs.length := by
    have := (List.getElem?_eq_some_iff.1 hz').1
    simp at this
    omega
   have := hcell j hj
   rw [cell_at hh] at this
   rw [this]
   rw [List.getElem?_take] at hz'
   split at hz'
   ·simp [List.getD_eq_getElem?_getD, hz']
   ·cases hz'
  ·have := RepL.lits (H := memOf W) noLoc ((zs.take len).map (Value.int k))
   rw [List.map_map] at this
   exact this
  ·obtain ⟨z, _, rfl⟩ := List.mem_map.1 hu
   rfl
theorem post_true {f : Func} {s : ChangeSpec} {W W' : World} {args : Array Value} {ds gs : List (DataW H)} {before : List MemPlace} {tb : TypeId} (hW : DataW.Whole enc P f.params.toList s.vars false W args.toList ds gs before)
  (hl : laidOutB P = true) (hp : (f.params.toList.all fun t => P.readableRec t && decide (t < P.types.size)) = true) (hr : f.resultTypes = #[tb]) (htb : P.underlying tb = some .bool) (hvs : s.vars = [])
  (hs : (s.fn H (ds ++ gs)).results = [.lit (.bool true)] ∧ (s.fn H (ds ++ gs)).args = ds ∧ (s.fn H (ds ++ gs)).vars = []) (bel : Below W.heap.size W W') : s.post enc P f false true false false W args (.bool true) W' := by
 have hW' := hW
 obtain ⟨p, q, hA, hV, rfl, hfz, hnd⟩ := hW
 rw [hvs] at hV
 obtain ⟨rfl, rfl⟩ := trodVars_none hV
 refine ⟨ds, [], _, [], p, [], hW', ?_, ?_, ?_, bel.frame _, fun h => by cases h⟩
 ·rw [hs.1, hr]
  exact trodAll_mk1 (shut_bool htb _)
 ·rw [hs.2.1]
  exact trodAll_back hl bel _ _ _ _ hp hA fun x hx => hW'.lt x (by simp [hx])
 ·rw [hs.2.2, hvs]
  rfl

theorem lifted_of {C : Checked} {os : Os} (started : os.Started) {f : FuncId} {fn : Func} {s : ChangeSpec} {conds : List PathCond} {laid : List (String × DataW Unit)} {F : Stop.Interp} (Cx : Ctx) (hP : Cx.P = C.prog) (own : ownKnob C.prog.godebug = none) (noInit : C.prog.inits.idxOf? f = none)
  (hfn : C.prog.funcs[f]? = some fn) (witness : ∃ (w : World) (tape : Tape) (i : Input), w.os = os ∧ (w.forCall tape i).Shaped C.prog ∧ i.vars = [] ∧ Input.okWide C.prog (w.forCall tape i) .any w.heap.size f i ∧
   (OpenSpec.ofChange s).preRow enc C.prog fn conds false laid (w.forCall tape i).memory i.args ∧ ({} : Assume).holds C.prog (lone (Frame.enter C.prog f i.args .normal) [] (w.forCall tape i)))
  {tb : TypeId} (hl : laidOutB C.prog = true) (hp : (fn.params.toList.all fun t => C.prog.readableRec t && decide (t < C.prog.types.size)) = true) (hr : fn.resultTypes = #[tb]) (htb : C.prog.underlying tb = some .bool) (hvs : s.vars = [])
  (hs : ∀ ds : List (DataW H), ds.length = fn.params.size → (s.fn H ds).results = [.lit (.bool true)] ∧ (s.fn H ds).args = ds ∧ (s.fn H ds).vars = [])
  (hG : ∀ W : World, laidMetH C.prog laid W → Cx.G (memOf W))
  (hlaw : ∀ (W : World) (base : Nat) (args : Array Value) (ds : List (DataW H)) (ps : List MemPlace), (∀ (j : Nat) t v, fn.params[j]? = some t → args[j]? = some v → Value.okWide C.prog W .any base t v) → DataW.TrodAll enc C.prog W 0 (fun _ => true) true fn.params.toList args.toList ds ps →
   (DataW.weightsEach C.prog fn.params.toList ds).all (· ≤ reachBytes) = true → ∃ xs, RepL (memOf W) xs noLoc args.toList ∧ ECalls Cx f xs (.lit (.bool true))) :
  ReturnsInHanded {} C os f .any ((OpenSpec.ofChange s).preRow enc C.prog fn conds false laid) (((OpenSpec.ofChange s).at F).post enc C.prog fn false true false false) := by
 refine returnsInHanded_of_row (C := C) (s := OpenSpec.ofChange s) own started noInit hfn witness ?_
 intro W base args ds gs before hval hW _ _ hsz hL _ _
 have hW2 : DataW.Whole enc C.prog fn.params.toList s.vars false W args.toList ds gs before := hW
 have hsz2 : (DataW.weightsEach C.prog (fn.params.toList ++ s.plain.varTypes C.prog) (ds ++ gs)).all (· ≤ reachBytes) = true := hsz
 have hW3 := hW2
 obtain ⟨p, q, hA, hV, rfl, _, _⟩ := hW2
 rw [hvs] at hV
 obtain ⟨rfl, rfl⟩ := trodVars_none hV
 have hvt : s.plain.varTypes C.prog = [] := by
  unfold ChangeSpec.plain DataSpec.varTypes
  rw [hvs]
  rfl
 rw [hvt, List.append_nil, List.append_nil] at hsz2
 obtain ⟨xs, hrep, hcall⟩ := hlaw W base args ds p hval hA hsz2
 have hc := hcall (memOf W) noLoc args.toList W (hG W hL) (fun b o h => h) hrep
 rw [hP] at hc
 refine Calls.mono hc ?_
 rintro e W' ⟨H', v, rfl, hv, _, _, bel⟩
 simp only [RepV] at hv
 subst hv
 refine ⟨.bool true, rfl, ?_⟩
 have hlen : ds.length = fn.params.size := by
  have : ∀ (ts : List TypeId) (vs : List Value) (ds : List (DataW H)) (ps : List MemPlace), DataW.TrodAll enc C.prog W 0 (fun _ => true) true ts vs ds ps → ds.length = ts.length := by
   intro ts
   induction ts with
   | nil => intro vs ds ps h; cases vs <;> cases ds <;> first | rfl | exact h.elim
   | cons t ts ih =>
    intro vs ds ps h
    cases vs with
    | nil => cases ds <;> exact h.elim
    | cons v vs =>
     cases ds with
     | nil => exact h.elim
     | cons d ds =>
      obtain ⟨p, q, _, h2, _⟩ := h
      simp [ih vs ds q h2]
  simpa using this _ _ _ _ hA
 exact post_true hW3 hl hp hr htb hvs (by rw [List.append_nil]; exact hs ds hlen) bel.low
end
end Go.Ab

namespace Go.Proofs.YtdmkejloknejdaaGreatDoor
open Go Go.Ab Go.Mth Go.ChangeShapes Go.WideShapes Go.ChangeAt Go.RowKit
open Go.ChangeMaps (open_string shut_string)
theorem ownT : ownKnob Tryz.prog.godebug = none := by kernel_rfl
theorem laidOutT : laidOutB Tryz.prog = true := by kernel_rfl
theorem gTab : Tryz.prog.globalNamed "internal/strconv.uint64pow10" = some 2 := by kernel_rfl
noncomputable def tyTab : TypeId := ((Tryz.prog.globals[2]?).map (·.type)).getD 0
theorem gTabType : (Tryz.prog.globals[2]?).map (·.type) = some tyTab := by kernel_rfl
noncomputable def elTab : TypeId := match Tryz.prog.underlying tyTab with | some (.array _ e) => e | _ => 0
theorem uTab : Tryz.prog.underlying tyTab = some (.array 20 elTab) := by kernel_rfl
theorem uElTab : Tryz.prog.underlying elTab = some (.int .u64) := by kernel_rfl
theorem cElTab : Tryz.prog.cellsOf elTab = 1 := by kernel_rfl
theorem cTab : Tryz.prog.cellsOf tyTab = 20 := by kernel_rfl
theorem var_mem {P : Program} {W : World} {name : String} {g : Nat} {a : Array Value} (hg : P.globalNamed name = some g) (h : W.var? P name = some a) : ∃ t fr, memOf W g = some (.cells a t fr) := by
 unfold World.var? at h
 rw [hg, Option.bind_some] at h
 unfold memOf
 split at h
 ·rename_i cs t fr hh
  cases h
  exact ⟨t, fr, hh⟩
 ·cases h
theorem u22T : Tryz.prog.underlying 22 = some (.slice 3) := by kernel_rfl
theorem u3T : Tryz.prog.underlying 3 = some (.int .i64) := by kernel_rfl
theorem u9T : Tryz.prog.underlying 9 = some .string := by kernel_rfl
theorem u4T : Tryz.prog.underlying 4 = some .bool := by kernel_rfl
theorem c3T : Tryz.prog.cellsOf 3 = 1 := by kernel_rfl
theorem b3T : Tryz.prog.bytesOf 3 = 8 := by kernel_rfl
theorem reachB : reachBytes = 140737488351232 := by decide
set_option maxRecDepth 100000 in
theorem rep_str {H : Type} {enc : TypeId × Value → H} {W : World} {base : Nat} {v : Value} {d : DataW H} {p : List MemPlace} (hv : Value.okWide Tryz.prog W .any base 9 v) (h : DataW.Trod enc Tryz.prog W 0 (fun _ => true) true 9 v d p) :
  ∃ a : ByteArray, RepV (memOf W) (.lit (.string a)) noLoc v ∧ a.size ≤ 9223372036854775807 := by
 obtain ⟨a, rfl, _, _, ha⟩ := open_string u9T hv h
 refine ⟨a, by simp only [RepV], Nat.le_trans ha ?_⟩
 simp [maxLen]
end Go.Proofs.YtdmkejloknejdaaGreatDoor

namespace Go.Proofs.YtdmkejloknejdaaGreatDoor
open Go Go.Ab Go.Mth Go.ChangeShapes Go.WideShapes Go.ChangeAt Go.RowKit
open Go.ChangeMaps (open_string shut_string)
theorem u24T : Tryz.prog.underlying 24 = some (.struct #[{ name := "Mod", type := 3, offset := 0, embedded := false, tag := "", pkgPath := "", byteOffset := 0 }, { name := "Mul", type := 22, offset := 1, embedded := false, tag := "", pkgPath := "", byteOffset := 8 }, { name := "Add", type := 22, offset := 2, embedded := false, tag := "", pkgPath := "", byteOffset := 32 }]) := by kernel_rfl
theorem one24T : Deep.oneCellFields Tryz.prog #[{ name := "Mod", type := 3, offset := 0, embedded := false, tag := "", pkgPath := "", byteOffset := 0 }, { name := "Mul", type := 22, offset := 1, embedded := false, tag := "", pkgPath := "", byteOffset := 8 }, { name := "Add", type := 22, offset := 2, embedded := false, tag := "", pkgPath := "", byteOffset := 32 }] = true := by kernel_rfl
theorem c24T : Tryz.prog.cellsOf 24 = 3 := by kernel_rfl
set_option maxRecDepth 100000 in
/-- A map that came in. -/
theorem rep_map {H : Type} {enc : TypeId × Value → H} {W : World} {base : Nat} {v : Value} {d : DataW H} {p : List MemPlace} (hv : Value.okWide Tryz.prog W .any base 24 v) (h : DataW.Trod enc Tryz.prog W 0 (fun _ => true) true 24 v d p)
  (hsz : ∀ n ∈ d.weights Tryz.prog 24, n ≤ reachBytes) : ∃ m : MapM, RepV (memOf W) (mapV m) noLoc v ∧ m.mul.length ≤ 17592186044416 ∧ m.add.length ≤ 17592186044416 := by
 obtain ⟨v0, v1, v2, y0, y1, y2, n, rfl, rfl, rfl, h0, h1, h2⟩ := Joins.open_agg3 u24T one24T c24T hv h
 have w1 : ∀ n ∈ y1.1.weights Tryz.prog 22, n ≤ reachBytes := fun n hn => hsz n (by simp only [DataW.weights, u24T]; exact DataW.weights_mem_each (j := 1) rfl rfl n hn)
 have w2 : ∀ n ∈ y2.1.weights Tryz.prog 22, n ≤ reachBytes := fun n hn => hsz n (by simp only [DataW.weights, u24T]; exact DataW.weights_mem_each (j := 2) rfl rfl n hn)
 obtain ⟨z, hc, _, _⟩ := DataW.trod_int u3T h0
 simp only [List.cons.injEq, and_true] at hc
 obtain ⟨zs1, r1, o1, l1, _⟩ := rep_ints (c := 8) u22T u3T c3T h1 b3T (by decide) w1 noLoc
 obtain ⟨zs2, r2, o2, l2, _⟩ := rep_ints (c := 8) u22T u3T c3T h2 b3T (by decide) w2 noLoc
 rw [reachB] at l1 l2
 refine ⟨⟨z, zs1, zs2⟩, ?_, by show zs1.length ≤ _; omega, by show zs2.length ≤ _; omega⟩
 unfold mapV
 simp only [RepV]
 refine ⟨[v0, v1, v2], rfl, ?_, ?_⟩
 ·exact RepL.cons (by simp only [RepV]; exact hc) (RepL.cons r1 (RepL.cons r2 (by simp only [RepL])))
 ·intro u hu
  simp only [List.mem_cons, List.not_mem_nil, or_false] at hu
  rcases hu with rfl | rfl | rfl
  ·rw [hc]; rfl
  ·exact o1
  ·exact o2
end Go.Proofs.YtdmkejloknejdaaGreatDoor

namespace Go.Proofs.YtdmkejloknejdaaGreatDoor
open Go Go.Ab Go.Mth Go.ChangeShapes Go.WideShapes Go.ChangeAt Go.RowKit
set_option maxRecDepth 100000 in
theorem rep_listB {H : Type} {enc : TypeId × Value → H} {W : World} {base : Nat} {v : Value} {d : DataW H} {p : List MemPlace} (hv : Value.okWide Tryz.prog W .any base 22 v) (h : DataW.Trod enc Tryz.prog W 0 (fun _ => true) true 22 v d p)
  (hsz : ∀ n ∈ d.weights Tryz.prog 22, n ≤ reachBytes) : ∃ l : List Int, RepV (memOf W) (.sl 1 (is .i64 l)) noLoc v ∧ l.length ≤ 17592186044416 ∧ ∀ z ∈ l, -9223372036854775808 ≤ z ∧ z ≤ 9223372036854775807 := by
 obtain ⟨a, len, cap, rfl⟩ := okWide_slice u22T hv
 obtain ⟨fuel, hf⟩ := h
 obtain ⟨zs, r, _, l, wf, _⟩ := rep_ints (c := 8) (y := (d, p)) u22T u3T c3T hf b3T (by decide) hsz noLoc
 rw [reachB] at l
 refine ⟨zs, r, by omega, fun z hz => ?_⟩
 have := wf z hz
 simp only [Lit.wf, Bool.and_eq_true, decide_eq_true_eq] at this
 exact this
end Go.Proofs.YtdmkejloknejdaaGreatDoor

namespace Go.Ab
open Go Go.Mth
abbrev Iv (z : Int) : AV := .lit (.int .i64 z)
abbrev Sv (a : ByteArray) : AV := .lit (.string a)
abbrev Nv (n : Nat) : AV := nm .i64 n
abbrev Lv (l : List Int) : AV := .sl 1 (is .i64 l)
abbrev Tv : AV := .lit (.bool true)
abbrev Fv : AV := .lit (.bool false)
abbrev Zv : AV := .lit (.slice none 0 0)
theorem gn {ops : Array Oper} {s : List (Nat × AV)} : Gd ops s none := .none
abbrev Ev : ByteArray := { data := #[] }
abbrev Bv (z : Int) : AV := bp (z < 0)
abbrev Dv (z : Int) : AV := .sl 1 (ns .u32 (digs z.natAbs))
abbrev Rv (z : Int) : AV := .sl 1 (ns .i64 (digs z.natAbs))
end Go.Ab
namespace Go.Proofs.YtdmkejloknejdaaGreatDoor
open Go Go.Ab Go.Mth
theorem f0_ : tyField cx.P 42 1 = some (1, 22) := by kernel_rfl
theorem f1_ : tySc cx.P 22 = true := by kernel_rfl
theorem f2_ : cx.P.underlying 22 = some (.slice 3) := by kernel_rfl
theorem f3_ : tyField cx.P 42 0 = some (0, 4) := by kernel_rfl
theorem f4_ : tySc cx.P 4 = true := by kernel_rfl
theorem f5_ : tyField cx.P 90 1 = some (1, 88) := by kernel_rfl
theorem f6_ : tySc cx.P 88 = true := by kernel_rfl
theorem f7_ : cx.P.underlying 88 = some (.slice 145) := by kernel_rfl
theorem f8_ : tyField cx.P 90 0 = some (0, 4) := by kernel_rfl
theorem f9_ : tyZero cx.P 42 = some [Go.Value.bool false, Go.Value.slice none 0 0] := by kernel_rfl
theorem f10_ : tyElem cx.P 22 = some (3, 1, 8) := by kernel_rfl
theorem f11_ : tySc cx.P 3 = true := by kernel_rfl
theorem f12_ : tyPlaces cx.P 42 = some (fun i => (#[(0, 1), (1, 1)] : Array (Nat × Nat))[i]?) := by kernel_rfl
theorem f13_ : tySize cx.P 42 = some 2 := by kernel_rfl
theorem f14_ : tyAgg cx.P 42 = some 2 := by kernel_rfl
theorem f15_ : tyZero cx.P 90 = some [Go.Value.bool false, Go.Value.slice none 0 0] := by kernel_rfl
theorem f16_ : tyElem cx.P 88 = some (145, 1, 4) := by kernel_rfl
theorem f17_ : tySc cx.P 145 = true := by kernel_rfl
theorem f18_ : tyPlaces cx.P 90 = some (fun i => (#[(0, 1), (1, 1)] : Array (Nat × Nat))[i]?) := by kernel_rfl
theorem f19_ : tySize cx.P 90 = some 2 := by kernel_rfl
theorem f20_ : tyAgg cx.P 90 = some 2 := by kernel_rfl
theorem f21_ : callable cx.P 39 = true := by kernel_rfl
theorem f22_ : callable cx.P 67 = true := by kernel_rfl
theorem f23_ : callable cx.P 94 = true := by kernel_rfl
theorem f24_ : callable cx.P 95 = true := by kernel_rfl
theorem f25_ : callable cx.P 106 = true := by kernel_rfl
theorem f26_ : tyZero cx.P 3 = some [Go.Value.int IntKind.i64 0] := by kernel_rfl
theorem f27_ : tyZero cx.P 145 = some [Go.Value.int IntKind.u32 0] := by kernel_rfl
theorem f28_ : tyInt cx.P 145 = some .u32 := by kernel_rfl
theorem f29_ : tyInt cx.P 2 = some .i64 := by kernel_rfl
theorem f30_ : cx.P.underlying 4 = some .bool := by kernel_rfl
theorem f31_ : callable cx.P 104 = true := by kernel_rfl
theorem f32_ : callable cx.P 68 = true := by kernel_rfl
theorem f33_ : callable cx.P 105 = true := by kernel_rfl
theorem f34_ : callable cx.P 110 = true := by kernel_rfl
theorem f35_ : callable cx.P 109 = true := by kernel_rfl
theorem f36_ : callable cx.P 111 = true := by kernel_rfl
theorem f37_ : callable cx.P 61 = true := by kernel_rfl
theorem f38_ : callable cx.P 71 = true := by kernel_rfl
theorem f39_ : callable cx.P 117 = true := by kernel_rfl
theorem f40_ : callable cx.P 82 = true := by kernel_rfl
theorem c_rSign (z : Int) : ECalls cx 39 [intR z] (.lit (.int .i64 (sgn z))) := by
 refine ecalls_of_awp Tryz.func39 (c := _) rfl (Nat.le_of_ble_eq_true rfl) ?_
 show awp cx 11 _ (postF cx Tryz.f39 _) ⟨[(0, intR z)], []⟩
 refine awp_seq fun K0 hK0 => awp_region rfl ?_
 refine o_box 2 [bp (z < 0), .sl 1 (ns .i64 (digs z.natAbs))] gn rfl rfl ?_
 refine o_as (Nv 0) rfl (aops_end (hK0 _ (awp_seq fun K1 hK1 => ?_)))
 refine awp_block ?_
 refine awp_seq fun K2 hK2 => awp_region rfl ?_
 refine o_fieldRef 1 gn f0_ rfl rfl ?_
 refine o_loadS (.sl 1 (ns .i64 (digs z.natAbs))) gn f1_ rfl rfl rfl ?_
 refine n_len (digs z.natAbs) gn f2_ rfl ?_
 refine n_eql ((digs z.natAbs).length) 0 gn rfl rfl ?_
 refine o_as (bp (((digs z.natAbs).length) = 0)) rfl (aops_end (hK2 _ ?_))
 refine awp_condQ (q := ((digs z.natAbs).length) = 0) rfl (fun h1 => ?_) (fun h1 => ?_)
 ·refine awp_seq fun K3 hK3 => awp_region rfl (o_as (Nv 0) rfl (aops_end (hK3 _ ?_)))
  refine awp_ret ?_
  refine post_ret ⟨[Nv 0], ⟨AV.le_refl _, trivial⟩, rfl, ?_⟩
  have e := digs_len_zero (n := z.natAbs)
  refine int_eq (k := .i64) ?_
  unfold sgn
  split <;> (try split) <;> omega
 ·refine awp_seq fun K4 hK4 => awp_region rfl ?_
  refine o_fieldRef 0 gn f3_ rfl rfl ?_
  refine o_loadS (bp (z < 0)) gn f4_ rfl rfl rfl ?_
  refine o_as (bp (z < 0)) rfl (aops_end (hK4 _ ?_))
  refine awp_condQ (q := z < 0) rfl (fun h2 => ?_) (fun h2 => ?_)
  ·refine awp_seq fun K5 hK5 => awp_region rfl (o_as (Iv (-1)) rfl (aops_end (hK5 _ ?_)))
   refine awp_ret ?_
   refine post_ret ⟨[Iv (-1)], ⟨AV.le_refl _, trivial⟩, rfl, ?_⟩
   have e := digs_len_zero (n := z.natAbs)
   refine int_eq (k := .i64) ?_
   unfold sgn
   split <;> (try split) <;> omega
  ·refine awp_skip (hK1 _ (awp_seq fun K6 hK6 => awp_region rfl (o_as (Nv 1) rfl (aops_end (hK6 _ ?_)))))
   refine awp_ret ?_
   refine post_ret ⟨[Nv 1], ⟨AV.le_refl _, trivial⟩, rfl, ?_⟩
   have e := digs_len_zero (n := z.natAbs)
   refine int_eq (k := .i64) ?_
   unfold sgn
   split <;> (try split) <;> omega

theorem c_wSign (z : Int) : ECalls cx 94 [intW z] (.lit (.int .i64 (sgn z))) := by
 refine ecalls_of_awp Tryz.func94 (c := _) rfl (Nat.le_of_ble_eq_true rfl) ?_
 show awp cx 11 _ (postF cx Tryz.f94 _) ⟨[(0, intW z)], []⟩
 refine awp_seq fun K0 hK0 => awp_region rfl ?_
 refine o_box 2 [bp (z < 0), .sl 1 (ns .u32 (digs z.natAbs))] gn rfl rfl ?_
 refine o_as (Nv 0) rfl (aops_end (hK0 _ (awp_seq fun K1 hK1 => ?_)))
 refine awp_block ?_
 refine awp_seq fun K2 hK2 => awp_region rfl ?_
 refine o_fieldRef 1 gn f5_ rfl rfl ?_
 refine o_loadS (.sl 1 (ns .u32 (digs z.natAbs))) gn f6_ rfl rfl rfl ?_
 refine n_len (digs z.natAbs) gn f7_ rfl ?_
 refine n_eql ((digs z.natAbs).length) 0 gn rfl rfl ?_
 refine o_as (bp (((digs z.natAbs).length) = 0)) rfl (aops_end (hK2 _ ?_))
 refine awp_condQ (q := ((digs z.natAbs).length) = 0) rfl (fun h1 => ?_) (fun h1 => ?_)
 ·refine awp_seq fun K3 hK3 => awp_region rfl (o_as (Nv 0) rfl (aops_end (hK3 _ ?_)))
  refine awp_ret ?_
  refine post_ret ⟨[Nv 0], ⟨AV.le_refl _, trivial⟩, rfl, ?_⟩
  have e := digs_len_zero (n := z.natAbs)
  refine int_eq (k := .i64) ?_
  unfold sgn
  split <;> (try split) <;> omega
 ·refine awp_seq fun K4 hK4 => awp_region rfl ?_
  refine o_fieldRef 0 gn f8_ rfl rfl ?_
  refine o_loadS (bp (z < 0)) gn f4_ rfl rfl rfl ?_
  refine o_as (bp (z < 0)) rfl (aops_end (hK4 _ ?_))
  refine awp_condQ (q := z < 0) rfl (fun h2 => ?_) (fun h2 => ?_)
  ·refine awp_seq fun K5 hK5 => awp_region rfl (o_as (Iv (-1)) rfl (aops_end (hK5 _ ?_)))
   refine awp_ret ?_
   refine post_ret ⟨[Iv (-1)], ⟨AV.le_refl _, trivial⟩, rfl, ?_⟩
   have e := digs_len_zero (n := z.natAbs)
   refine int_eq (k := .i64) ?_
   unfold sgn
   split <;> (try split) <;> omega
  ·refine awp_skip (hK1 _ (awp_seq fun K6 hK6 => awp_region rfl (o_as (Nv 1) rfl (aops_end (hK6 _ ?_)))))
   refine awp_ret ?_
   refine post_ret ⟨[Nv 1], ⟨AV.le_refl _, trivial⟩, rfl, ?_⟩
   have e := digs_len_zero (n := z.natAbs)
   refine int_eq (k := .i64) ?_
   unfold sgn
   split <;> (try split) <;> omega

theorem c_rTrim (neg : Bool) (xs : List Nat) (hx : Dig xs) : ECalls cx 68 [.lit (.bool neg), .sl 1 (ns .i64 xs)] (intR (sg neg (val xs))) := by
 refine ecalls_of_awp Tryz.func68 (c := _) rfl (Nat.le_of_ble_eq_true rfl) ?_
 show awp cx 29 _ (postF cx Tryz.f68 _) ⟨[(0, .lit (.bool neg)), (1, .sl 1 (ns .i64 xs))], []⟩
 refine awp_bound (i := 1) rfl fun hb => ?_
 replace hb := n_bnd hb
 refine awp_seq fun K0 hK0 => awp_region rfl ?_
 refine o_alloc 2 [Fv, Zv] gn f9_ rfl rfl rfl ?_
 refine aops_end (hK0 _ (awp_seq fun K1 hK1 => awp_region rfl (o_mv (.sl 1 (ns .i64 xs)) rfl ?_)))
 refine n_len xs gn f2_ rfl ?_
 refine o_as (Nv (xs.length)) rfl (aops_end (hK1 _ (awp_seq fun K2 hK2 => ?_)))
 refine awp_block ?_
 refine awp_loopR (fun κ σ => ∃ (n : Nat), (n ≤ xs.length) ∧ (val (xs.take n) = val xs) ∧ n = κ ∧ σ = ⟨[(0, .lit (.bool neg)), (1, .sl 1 (ns .i64 xs)), (4, .ref 2 0), (5, Nv n)], [(2, .var 42 [Fv, Zv])]⟩) ⟨_, _, ⟨xs.length, Nat.le_refl _, (by rw [List.take_length]), rfl, rfl⟩, ?wk0⟩ ?rd0
 case wk0 =>
  exact Wk.sub ⟨rfl, rfl, rfl, (by first | rfl | exact nm_int (by omega)), trivial⟩ ⟨rfl, trivial⟩
 rintro κ _ ⟨n, hn, hv, rfl, rfl⟩
 refine awp_seq fun K3 hK3 => awp_seq fun K4 hK4 => awp_region rfl (o_mv (Nv n) rfl ?_)
 refine n_gtr n 0 gn rfl rfl ?_
 refine o_mv (bp (0 < n)) rfl ?_
 refine o_splitP (q := 0 < n) 10 rfl (fun h1 => ?_) (fun h1 => ?_)
 ·refine o_move (.sl 1 (ns .i64 xs)) (Gd.yes rfl rfl (decide_eq_true h1)) rfl (o_move (Nv n) (Gd.yes rfl rfl (decide_eq_true h1)) rfl ?_)
  refine n_sub n 1 (Gd.yes rfl rfl (decide_eq_true h1)) rfl rfl (by omega) (by simp only [topOf]; omega) ?_
  refine n_index xs (n - 1) (Gd.yes rfl rfl (decide_eq_true h1)) f10_ rfl rfl (by omega) ?_
  refine n_loadI xs (n - 1) (Gd.yes rfl rfl (decide_eq_true h1)) f11_ rfl (by omega) ?_
  refine n_eql (xs.getD (n - 1) 0) 0 (Gd.yes rfl rfl (decide_eq_true h1)) rfl rfl ?_
  refine o_pickT (bp ((xs.getD (n - 1) 0) = 0)) gn rfl (decide_eq_true h1) rfl ?_
  refine aops_end (hK4 _ ?_)
  refine awp_condQ (q := (xs.getD (n - 1) 0) = 0) rfl (fun h2 => ?_) (fun h2 => ?_)
  ·refine awp_skip (hK3 _ ?_)
   refine awp_block ?_
   refine awp_region rfl (o_mv (Nv n) rfl ?_)
   refine n_sub n 1 gn rfl rfl (by omega) (by simp only [topOf]; omega) ?_
   refine o_as (Nv (n - 1)) rfl (aops_end ?_)
   refine ⟨_, _, ?lt, ⟨n - 1, (by omega), (by rw [← take_getD_zero (by assumption) hn (by assumption)]; exact hv), rfl, rfl⟩, ?wk⟩
   case lt => omega
   case wk => exact Wk.sub ⟨rfl, rfl, rfl, (by first | rfl | exact nm_int (by omega)), trivial⟩ ⟨rfl, trivial⟩
  ·refine awp_exit ?_
   refine hK2 _ (awp_seq fun K5 hK5 => awp_region rfl (o_mv (.lit (.bool neg)) rfl (o_mv (.lit (.bool neg)) rfl ?_)))
   refine o_split (b := neg) 21 rfl (fun h3 => ?_) (fun h3 => ?_)
   ·refine o_move (Nv n) (Gd.yes rfl rfl h3) rfl ?_
    refine n_gtr n 0 (Gd.yes rfl rfl h3) rfl rfl ?_
    refine o_pickT (bp (0 < n)) gn rfl h3 rfl ?_
    refine o_mv (.sl 1 (ns .i64 xs)) rfl (o_mv (Nv n) rfl ?_)
    refine n_slice xs 0 n gn f10_ rfl rfl (hi_nm rfl) trivial (by omega) (by omega) ?_
    refine o_build [bp (0 < n), .sl 1 (ns .i64 ((xs.drop 0).take (n - 0)))] [(0, [bp (0 < n)]), (1, [.sl 1 (ns .i64 ((xs.drop 0).take (n - 0)))])] gn f12_ f9_ rfl rfl rfl ?_
    refine o_store [(2, .var 42 [bp (0 < n), .sl 1 (ns .i64 ((xs.drop 0).take (n - 0)))])] gn f13_ rfl rfl rfl rfl rfl rfl ?_
    refine aops_end (hK5 _ ?_)
    refine awp_ret ?_
    refine post_ret ⟨[.agg [bp (0 < n), .sl 1 (ns .i64 ((xs.drop 0).take (n - 0)))]], ⟨⟨2, .var 42 [bp (0 < n), .sl 1 (ns .i64 ((xs.drop 0).take (n - 0)))], rfl, rfl, rfl, Or.inl ⟨f14_, AV.le_refl _⟩⟩, trivial⟩, rfl, ?_⟩
    subst h3
    exact (trim_fin (k := .i64) (neg := true) hx hn hv (by first | (left; omega) | (right; assumption))).symm
   ·refine o_skip rfl rfl h3 (o_skip rfl rfl h3 ?_)
    refine o_pickF Fv gn rfl h3 rfl ?_
    refine o_mv (.sl 1 (ns .i64 xs)) rfl (o_mv (Nv n) rfl ?_)
    refine n_slice xs 0 n gn f10_ rfl rfl (hi_nm rfl) trivial (by omega) (by omega) ?_
    refine o_build [Fv, .sl 1 (ns .i64 ((xs.drop 0).take (n - 0)))] [(0, [Fv]), (1, [.sl 1 (ns .i64 ((xs.drop 0).take (n - 0)))])] gn f12_ f9_ rfl rfl rfl ?_
    refine o_store [(2, .var 42 [Fv, .sl 1 (ns .i64 ((xs.drop 0).take (n - 0)))])] gn f13_ rfl rfl rfl rfl rfl rfl ?_
    refine aops_end (hK5 _ ?_)
    refine awp_ret ?_
    refine post_ret ⟨[.agg [Fv, .sl 1 (ns .i64 ((xs.drop 0).take (n - 0)))]], ⟨⟨2, .var 42 [Fv, .sl 1 (ns .i64 ((xs.drop 0).take (n - 0)))], rfl, rfl, rfl, Or.inl ⟨f14_, AV.le_refl _⟩⟩, trivial⟩, rfl, ?_⟩
    subst h3
    exact (trim_fin (k := .i64) (neg := false) hx hn hv (by first | (left; omega) | (right; assumption))).symm
 ·refine o_skip rfl rfl (decide_eq_false h1) (o_skip rfl rfl (decide_eq_false h1) (o_skip rfl rfl (decide_eq_false h1) (o_skip rfl rfl (decide_eq_false h1) (o_skip rfl rfl (decide_eq_false h1) (o_skip rfl rfl (decide_eq_false h1) ?_)))))
  refine o_pickF Fv gn rfl (decide_eq_false h1) rfl ?_
  refine aops_end (hK4 _ ?_)
  refine awp_condB (b := false) rfl (fun hh => absurd (hh.symm.trans rfl) (by decide)) (fun _ => ?_)
  refine awp_exit ?_
  refine hK2 _ (awp_seq fun K6 hK6 => awp_region rfl (o_mv (.lit (.bool neg)) rfl (o_mv (.lit (.bool neg)) rfl ?_)))
  refine o_split (b := neg) 21 rfl (fun h4 => ?_) (fun h4 => ?_)
  ·refine o_move (Nv n) (Gd.yes rfl rfl h4) rfl ?_
   refine n_gtr n 0 (Gd.yes rfl rfl h4) rfl rfl ?_
   refine o_pickT (bp (0 < n)) gn rfl h4 rfl ?_
   refine o_mv (.sl 1 (ns .i64 xs)) rfl (o_mv (Nv n) rfl ?_)
   refine n_slice xs 0 n gn f10_ rfl rfl (hi_nm rfl) trivial (by omega) (by omega) ?_
   refine o_build [bp (0 < n), .sl 1 (ns .i64 ((xs.drop 0).take (n - 0)))] [(0, [bp (0 < n)]), (1, [.sl 1 (ns .i64 ((xs.drop 0).take (n - 0)))])] gn f12_ f9_ rfl rfl rfl ?_
   refine o_store [(2, .var 42 [bp (0 < n), .sl 1 (ns .i64 ((xs.drop 0).take (n - 0)))])] gn f13_ rfl rfl rfl rfl rfl rfl ?_
   refine aops_end (hK6 _ ?_)
   refine awp_ret ?_
   refine post_ret ⟨[.agg [bp (0 < n), .sl 1 (ns .i64 ((xs.drop 0).take (n - 0)))]], ⟨⟨2, .var 42 [bp (0 < n), .sl 1 (ns .i64 ((xs.drop 0).take (n - 0)))], rfl, rfl, rfl, Or.inl ⟨f14_, AV.le_refl _⟩⟩, trivial⟩, rfl, ?_⟩
   subst h4
   exact (trim_fin (k := .i64) (neg := true) hx hn hv (by first | (left; omega) | (right; assumption))).symm
  ·refine o_skip rfl rfl h4 (o_skip rfl rfl h4 ?_)
   refine o_pickF Fv gn rfl h4 rfl ?_
   refine o_mv (.sl 1 (ns .i64 xs)) rfl (o_mv (Nv n) rfl ?_)
   refine n_slice xs 0 n gn f10_ rfl rfl (hi_nm rfl) trivial (by omega) (by omega) ?_
   refine o_build [Fv, .sl 1 (ns .i64 ((xs.drop 0).take (n - 0)))] [(0, [Fv]), (1, [.sl 1 (ns .i64 ((xs.drop 0).take (n - 0)))])] gn f12_ f9_ rfl rfl rfl ?_
   refine o_store [(2, .var 42 [Fv, .sl 1 (ns .i64 ((xs.drop 0).take (n - 0)))])] gn f13_ rfl rfl rfl rfl rfl rfl ?_
   refine aops_end (hK6 _ ?_)
   refine awp_ret ?_
   refine post_ret ⟨[.agg [Fv, .sl 1 (ns .i64 ((xs.drop 0).take (n - 0)))]], ⟨⟨2, .var 42 [Fv, .sl 1 (ns .i64 ((xs.drop 0).take (n - 0)))], rfl, rfl, rfl, Or.inl ⟨f14_, AV.le_refl _⟩⟩, trivial⟩, rfl, ?_⟩
   subst h4
   exact (trim_fin (k := .i64) (neg := false) hx hn hv (by first | (left; omega) | (right; assumption))).symm

theorem c_wTrim (neg : Bool) (xs : List Nat) (hx : Dig xs) : ECalls cx 109 [.lit (.bool neg), .sl 1 (ns .u32 xs)] (intW (sg neg (val xs))) := by
 refine ecalls_of_awp Tryz.func109 (c := _) rfl (Nat.le_of_ble_eq_true rfl) ?_
 show awp cx 30 _ (postF cx Tryz.f109 _) ⟨[(0, .lit (.bool neg)), (1, .sl 1 (ns .u32 xs))], []⟩
 refine awp_bound (i := 1) rfl fun hb => ?_
 replace hb := n_bnd hb
 refine awp_seq fun K0 hK0 => awp_region rfl ?_
 refine o_alloc 2 [Fv, Zv] gn f15_ rfl rfl rfl ?_
 refine aops_end (hK0 _ (awp_seq fun K1 hK1 => awp_region rfl (o_mv (.sl 1 (ns .u32 xs)) rfl ?_)))
 refine n_len xs gn f7_ rfl ?_
 refine o_as (Nv (xs.length)) rfl (aops_end (hK1 _ (awp_seq fun K2 hK2 => ?_)))
 refine awp_block ?_
 refine awp_loopR (fun κ σ => ∃ (n : Nat), (n ≤ xs.length) ∧ (val (xs.take n) = val xs) ∧ n = κ ∧ σ = ⟨[(0, .lit (.bool neg)), (1, .sl 1 (ns .u32 xs)), (4, .ref 2 0), (5, Nv n)], [(2, .var 90 [Fv, Zv])]⟩) ⟨_, _, ⟨xs.length, Nat.le_refl _, (by rw [List.take_length]), rfl, rfl⟩, ?wk0⟩ ?rd0
 case wk0 =>
  exact Wk.sub ⟨rfl, rfl, rfl, (by first | rfl | exact nm_int (by omega)), trivial⟩ ⟨rfl, trivial⟩
 rintro κ _ ⟨n, hn, hv, rfl, rfl⟩
 refine awp_seq fun K3 hK3 => awp_seq fun K4 hK4 => awp_region rfl (o_mv (Nv n) rfl ?_)
 refine n_gtr n 0 gn rfl rfl ?_
 refine o_mv (bp (0 < n)) rfl ?_
 refine o_splitP (q := 0 < n) 10 rfl (fun h1 => ?_) (fun h1 => ?_)
 ·refine o_move (.sl 1 (ns .u32 xs)) (Gd.yes rfl rfl (decide_eq_true h1)) rfl (o_move (Nv n) (Gd.yes rfl rfl (decide_eq_true h1)) rfl ?_)
  refine n_sub n 1 (Gd.yes rfl rfl (decide_eq_true h1)) rfl rfl (by omega) (by simp only [topOf]; omega) ?_
  refine n_index xs (n - 1) (Gd.yes rfl rfl (decide_eq_true h1)) f16_ rfl rfl (by omega) ?_
  refine n_loadI xs (n - 1) (Gd.yes rfl rfl (decide_eq_true h1)) f17_ rfl (by omega) ?_
  refine n_eql (xs.getD (n - 1) 0) 0 (Gd.yes rfl rfl (decide_eq_true h1)) rfl rfl ?_
  refine o_pickT (bp ((xs.getD (n - 1) 0) = 0)) gn rfl (decide_eq_true h1) rfl ?_
  refine aops_end (hK4 _ ?_)
  refine awp_condQ (q := (xs.getD (n - 1) 0) = 0) rfl (fun h2 => ?_) (fun h2 => ?_)
  ·refine awp_skip (hK3 _ ?_)
   refine awp_block ?_
   refine awp_region rfl (o_mv (Nv n) rfl ?_)
   refine n_sub n 1 gn rfl rfl (by omega) (by simp only [topOf]; omega) ?_
   refine o_as (Nv (n - 1)) rfl (aops_end ?_)
   refine ⟨_, _, ?lt, ⟨n - 1, (by omega), (by rw [← take_getD_zero (by assumption) hn (by assumption)]; exact hv), rfl, rfl⟩, ?wk⟩
   case lt => omega
   case wk => exact Wk.sub ⟨rfl, rfl, rfl, (by first | rfl | exact nm_int (by omega)), trivial⟩ ⟨rfl, trivial⟩
  ·refine awp_exit ?_
   refine hK2 _ (awp_seq fun K5 hK5 => awp_region rfl (o_mv (.lit (.bool neg)) rfl (o_mv (.lit (.bool neg)) rfl ?_)))
   refine o_split (b := neg) 21 rfl (fun h3 => ?_) (fun h3 => ?_)
   ·refine o_move (Nv n) (Gd.yes rfl rfl h3) rfl ?_
    refine n_gtr n 0 (Gd.yes rfl rfl h3) rfl rfl ?_
    refine o_pickT (bp (0 < n)) gn rfl h3 rfl ?_
    refine o_mv (.sl 1 (ns .u32 xs)) rfl (o_mv (Nv n) rfl (o_mv (Nv n) rfl ?_))
    refine n_slice xs 0 n gn f16_ rfl rfl (hi_nm rfl) (mx_nm rfl) (by omega) (by omega) ?_
    refine o_build [bp (0 < n), .sl 1 (ns .u32 ((xs.drop 0).take (n - 0)))] [(0, [bp (0 < n)]), (1, [.sl 1 (ns .u32 ((xs.drop 0).take (n - 0)))])] gn f18_ f15_ rfl rfl rfl ?_
    refine o_store [(2, .var 90 [bp (0 < n), .sl 1 (ns .u32 ((xs.drop 0).take (n - 0)))])] gn f19_ rfl rfl rfl rfl rfl rfl ?_
    refine aops_end (hK5 _ ?_)
    refine awp_ret ?_
    refine post_ret ⟨[.agg [bp (0 < n), .sl 1 (ns .u32 ((xs.drop 0).take (n - 0)))]], ⟨⟨2, .var 90 [bp (0 < n), .sl 1 (ns .u32 ((xs.drop 0).take (n - 0)))], rfl, rfl, rfl, Or.inl ⟨f20_, AV.le_refl _⟩⟩, trivial⟩, rfl, ?_⟩
    subst h3
    exact (trim_fin (k := .u32) (neg := true) hx hn hv (by first | (left; omega) | (right; assumption))).symm
   ·refine o_skip rfl rfl h3 (o_skip rfl rfl h3 ?_)
    refine o_pickF Fv gn rfl h3 rfl ?_
    refine o_mv (.sl 1 (ns .u32 xs)) rfl (o_mv (Nv n) rfl (o_mv (Nv n) rfl ?_))
    refine n_slice xs 0 n gn f16_ rfl rfl (hi_nm rfl) (mx_nm rfl) (by omega) (by omega) ?_
    refine o_build [Fv, .sl 1 (ns .u32 ((xs.drop 0).take (n - 0)))] [(0, [Fv]), (1, [.sl 1 (ns .u32 ((xs.drop 0).take (n - 0)))])] gn f18_ f15_ rfl rfl rfl ?_
    refine o_store [(2, .var 90 [Fv, .sl 1 (ns .u32 ((xs.drop 0).take (n - 0)))])] gn f19_ rfl rfl rfl rfl rfl rfl ?_
    refine aops_end (hK5 _ ?_)
    refine awp_ret ?_
    refine post_ret ⟨[.agg [Fv, .sl 1 (ns .u32 ((xs.drop 0).take (n - 0)))]], ⟨⟨2, .var 90 [Fv, .sl 1 (ns .u32 ((xs.drop 0).take (n - 0)))], rfl, rfl, rfl, Or.inl ⟨f20_, AV.le_refl _⟩⟩, trivial⟩, rfl, ?_⟩
    subst h3
    exact (trim_fin (k := .u32) (neg := false) hx hn hv (by first | (left; omega) | (right; assumption))).symm
 ·refine o_skip rfl rfl (decide_eq_false h1) (o_skip rfl rfl (decide_eq_false h1) (o_skip rfl rfl (decide_eq_false h1) (o_skip rfl rfl (decide_eq_false h1) (o_skip rfl rfl (decide_eq_false h1) (o_skip rfl rfl (decide_eq_false h1) ?_)))))
  refine o_pickF Fv gn rfl (decide_eq_false h1) rfl ?_
  refine aops_end (hK4 _ ?_)
  refine awp_condB (b := false) rfl (fun hh => absurd (hh.symm.trans rfl) (by decide)) (fun _ => ?_)
  refine awp_exit ?_
  refine hK2 _ (awp_seq fun K6 hK6 => awp_region rfl (o_mv (.lit (.bool neg)) rfl (o_mv (.lit (.bool neg)) rfl ?_)))
  refine o_split (b := neg) 21 rfl (fun h4 => ?_) (fun h4 => ?_)
  ·refine o_move (Nv n) (Gd.yes rfl rfl h4) rfl ?_
   refine n_gtr n 0 (Gd.yes rfl rfl h4) rfl rfl ?_
   refine o_pickT (bp (0 < n)) gn rfl h4 rfl ?_
   refine o_mv (.sl 1 (ns .u32 xs)) rfl (o_mv (Nv n) rfl (o_mv (Nv n) rfl ?_))
   refine n_slice xs 0 n gn f16_ rfl rfl (hi_nm rfl) (mx_nm rfl) (by omega) (by omega) ?_
   refine o_build [bp (0 < n), .sl 1 (ns .u32 ((xs.drop 0).take (n - 0)))] [(0, [bp (0 < n)]), (1, [.sl 1 (ns .u32 ((xs.drop 0).take (n - 0)))])] gn f18_ f15_ rfl rfl rfl ?_
   refine o_store [(2, .var 90 [bp (0 < n), .sl 1 (ns .u32 ((xs.drop 0).take (n - 0)))])] gn f19_ rfl rfl rfl rfl rfl rfl ?_
   refine aops_end (hK6 _ ?_)
   refine awp_ret ?_
   refine post_ret ⟨[.agg [bp (0 < n), .sl 1 (ns .u32 ((xs.drop 0).take (n - 0)))]], ⟨⟨2, .var 90 [bp (0 < n), .sl 1 (ns .u32 ((xs.drop 0).take (n - 0)))], rfl, rfl, rfl, Or.inl ⟨f20_, AV.le_refl _⟩⟩, trivial⟩, rfl, ?_⟩
   subst h4
   exact (trim_fin (k := .u32) (neg := true) hx hn hv (by first | (left; omega) | (right; assumption))).symm
  ·refine o_skip rfl rfl h4 (o_skip rfl rfl h4 ?_)
   refine o_pickF Fv gn rfl h4 rfl ?_
   refine o_mv (.sl 1 (ns .u32 xs)) rfl (o_mv (Nv n) rfl (o_mv (Nv n) rfl ?_))
   refine n_slice xs 0 n gn f16_ rfl rfl (hi_nm rfl) (mx_nm rfl) (by omega) (by omega) ?_
   refine o_build [Fv, .sl 1 (ns .u32 ((xs.drop 0).take (n - 0)))] [(0, [Fv]), (1, [.sl 1 (ns .u32 ((xs.drop 0).take (n - 0)))])] gn f18_ f15_ rfl rfl rfl ?_
   refine o_store [(2, .var 90 [Fv, .sl 1 (ns .u32 ((xs.drop 0).take (n - 0)))])] gn f19_ rfl rfl rfl rfl rfl rfl ?_
   refine aops_end (hK6 _ ?_)
   refine awp_ret ?_
   refine post_ret ⟨[.agg [Fv, .sl 1 (ns .u32 ((xs.drop 0).take (n - 0)))]], ⟨⟨2, .var 90 [Fv, .sl 1 (ns .u32 ((xs.drop 0).take (n - 0)))], rfl, rfl, rfl, Or.inl ⟨f20_, AV.le_refl _⟩⟩, trivial⟩, rfl, ?_⟩
   subst h4
   exact (trim_fin (k := .u32) (neg := false) hx hn hv (by first | (left; omega) | (right; assumption))).symm

theorem c_rMinus (z : Int) : ECalls cx 61 [intR z] (intR (-z)) := by
 refine ecalls_of_awp Tryz.func61 (c := _) rfl (Nat.le_of_ble_eq_true rfl) ?_
 show awp cx 15 _ (postF cx Tryz.f61 _) ⟨[(0, intR z)], []⟩
 refine awp_seq fun K0 hK0 => awp_region rfl ?_
 refine o_box 2 [bp (z < 0), .sl 1 (ns .i64 (digs z.natAbs))] gn rfl rfl ?_
 refine o_alloc 3 [Fv, Zv] gn f9_ rfl rfl rfl ?_
 refine aops_end (hK0 _ (awp_seq fun K1 hK1 => awp_region rfl ?_))
 refine o_fieldRef 0 gn f3_ rfl rfl ?_
 refine o_loadS (bp (z < 0)) gn f4_ rfl rfl rfl ?_
 refine o_notP (q := z < 0) gn rfl ?_
 refine o_mv (bp (¬ (z < 0))) rfl ?_
 refine o_splitP (q := ¬ (z < 0)) 6 rfl (fun h1 => ?_) (fun h1 => ?_)
 ·refine o_fieldRef 1 (Gd.yes rfl rfl (decide_eq_true h1)) f0_ rfl rfl ?_
  refine o_loadS (.sl 1 (ns .i64 (digs z.natAbs))) (Gd.yes rfl rfl (decide_eq_true h1)) f1_ rfl rfl rfl ?_
  refine n_len (digs z.natAbs) (Gd.yes rfl rfl (decide_eq_true h1)) f2_ rfl ?_
  refine n_gtr ((digs z.natAbs).length) 0 (Gd.yes rfl rfl (decide_eq_true h1)) rfl rfl ?_
  refine o_pickT (bp (0 < ((digs z.natAbs).length))) gn rfl (decide_eq_true h1) rfl ?_
  refine o_fieldRef 1 gn f0_ rfl rfl ?_
  refine o_loadS (.sl 1 (ns .i64 (digs z.natAbs))) gn f1_ rfl rfl rfl ?_
  refine o_build [bp (0 < ((digs z.natAbs).length)), .sl 1 (ns .i64 (digs z.natAbs))] [(0, [bp (0 < ((digs z.natAbs).length))]), (1, [.sl 1 (ns .i64 (digs z.natAbs))])] gn f12_ f9_ rfl rfl rfl ?_
  refine o_store [(3, .var 42 [bp (0 < ((digs z.natAbs).length)), .sl 1 (ns .i64 (digs z.natAbs))]), (2, oZ 42 .i64 z)] gn f13_ rfl rfl rfl rfl rfl rfl ?_
  refine aops_end (hK1 _ ?_)
  refine awp_ret ?_
  refine post_ret ⟨[.agg [bp (0 < ((digs z.natAbs).length)), .sl 1 (ns .i64 (digs z.natAbs))]], ⟨⟨3, .var 42 [bp (0 < ((digs z.natAbs).length)), .sl 1 (ns .i64 (digs z.natAbs))], rfl, rfl, rfl, Or.inl ⟨f14_, AV.le_refl _⟩⟩, trivial⟩, rfl, ?_⟩
  exact (minus_fin1 (k := .i64) h1).symm
 ·refine o_skip rfl rfl (decide_eq_false h1) (o_skip rfl rfl (decide_eq_false h1) (o_skip rfl rfl (decide_eq_false h1) (o_skip rfl rfl (decide_eq_false h1) ?_)))
  refine o_pickF Fv gn rfl (decide_eq_false h1) rfl ?_
  refine o_fieldRef 1 gn f0_ rfl rfl ?_
  refine o_loadS (.sl 1 (ns .i64 (digs z.natAbs))) gn f1_ rfl rfl rfl ?_
  refine o_build [Fv, .sl 1 (ns .i64 (digs z.natAbs))] [(0, [Fv]), (1, [.sl 1 (ns .i64 (digs z.natAbs))])] gn f12_ f9_ rfl rfl rfl ?_
  refine o_store [(3, .var 42 [Fv, .sl 1 (ns .i64 (digs z.natAbs))]), (2, oZ 42 .i64 z)] gn f13_ rfl rfl rfl rfl rfl rfl ?_
  refine aops_end (hK1 _ ?_)
  refine awp_ret ?_
  refine post_ret ⟨[.agg [Fv, .sl 1 (ns .i64 (digs z.natAbs))]], ⟨⟨3, .var 42 [Fv, .sl 1 (ns .i64 (digs z.natAbs))], rfl, rfl, rfl, Or.inl ⟨f14_, AV.le_refl _⟩⟩, trivial⟩, rfl, ?_⟩
  exact (minus_fin2 (k := .i64) h1).symm

theorem c_wMinus (z : Int) : ECalls cx 117 [intW z] (intW (-z)) := by
 refine ecalls_of_awp Tryz.func117 (c := _) rfl (Nat.le_of_ble_eq_true rfl) ?_
 show awp cx 15 _ (postF cx Tryz.f117 _) ⟨[(0, intW z)], []⟩
 refine awp_seq fun K0 hK0 => awp_region rfl ?_
 refine o_box 2 [bp (z < 0), .sl 1 (ns .u32 (digs z.natAbs))] gn rfl rfl ?_
 refine o_alloc 3 [Fv, Zv] gn f15_ rfl rfl rfl ?_
 refine aops_end (hK0 _ (awp_seq fun K1 hK1 => awp_region rfl ?_))
 refine o_fieldRef 0 gn f8_ rfl rfl ?_
 refine o_loadS (bp (z < 0)) gn f4_ rfl rfl rfl ?_
 refine o_notP (q := z < 0) gn rfl ?_
 refine o_mv (bp (¬ (z < 0))) rfl ?_
 refine o_splitP (q := ¬ (z < 0)) 6 rfl (fun h1 => ?_) (fun h1 => ?_)
 ·refine o_fieldRef 1 (Gd.yes rfl rfl (decide_eq_true h1)) f5_ rfl rfl ?_
  refine o_loadS (.sl 1 (ns .u32 (digs z.natAbs))) (Gd.yes rfl rfl (decide_eq_true h1)) f6_ rfl rfl rfl ?_
  refine n_len (digs z.natAbs) (Gd.yes rfl rfl (decide_eq_true h1)) f7_ rfl ?_
  refine n_gtr ((digs z.natAbs).length) 0 (Gd.yes rfl rfl (decide_eq_true h1)) rfl rfl ?_
  refine o_pickT (bp (0 < ((digs z.natAbs).length))) gn rfl (decide_eq_true h1) rfl ?_
  refine o_fieldRef 1 gn f5_ rfl rfl ?_
  refine o_loadS (.sl 1 (ns .u32 (digs z.natAbs))) gn f6_ rfl rfl rfl ?_
  refine o_build [bp (0 < ((digs z.natAbs).length)), .sl 1 (ns .u32 (digs z.natAbs))] [(0, [bp (0 < ((digs z.natAbs).length))]), (1, [.sl 1 (ns .u32 (digs z.natAbs))])] gn f18_ f15_ rfl rfl rfl ?_
  refine o_store [(3, .var 90 [bp (0 < ((digs z.natAbs).length)), .sl 1 (ns .u32 (digs z.natAbs))]), (2, oZ 90 .u32 z)] gn f19_ rfl rfl rfl rfl rfl rfl ?_
  refine aops_end (hK1 _ ?_)
  refine awp_ret ?_
  refine post_ret ⟨[.agg [bp (0 < ((digs z.natAbs).length)), .sl 1 (ns .u32 (digs z.natAbs))]], ⟨⟨3, .var 90 [bp (0 < ((digs z.natAbs).length)), .sl 1 (ns .u32 (digs z.natAbs))], rfl, rfl, rfl, Or.inl ⟨f20_, AV.le_refl _⟩⟩, trivial⟩, rfl, ?_⟩
  exact (minus_fin1 (k := .u32) h1).symm
 ·refine o_skip rfl rfl (decide_eq_false h1) (o_skip rfl rfl (decide_eq_false h1) (o_skip rfl rfl (decide_eq_false h1) (o_skip rfl rfl (decide_eq_false h1) ?_)))
  refine o_pickF Fv gn rfl (decide_eq_false h1) rfl ?_
  refine o_fieldRef 1 gn f5_ rfl rfl ?_
  refine o_loadS (.sl 1 (ns .u32 (digs z.natAbs))) gn f6_ rfl rfl rfl ?_
  refine o_build [Fv, .sl 1 (ns .u32 (digs z.natAbs))] [(0, [Fv]), (1, [.sl 1 (ns .u32 (digs z.natAbs))])] gn f18_ f15_ rfl rfl rfl ?_
  refine o_store [(3, .var 90 [Fv, .sl 1 (ns .u32 (digs z.natAbs))]), (2, oZ 90 .u32 z)] gn f19_ rfl rfl rfl rfl rfl rfl ?_
  refine aops_end (hK1 _ ?_)
  refine awp_ret ?_
  refine post_ret ⟨[.agg [Fv, .sl 1 (ns .u32 (digs z.natAbs))]], ⟨⟨3, .var 90 [Fv, .sl 1 (ns .u32 (digs z.natAbs))], rfl, rfl, rfl, Or.inl ⟨f20_, AV.le_refl _⟩⟩, trivial⟩, rfl, ?_⟩
  exact (minus_fin2 (k := .u32) h1).symm

theorem c_rSize (m n : Nat) : ECalls cx 67 [.sl 1 (ns .i64 (digs m)), .sl 1 (ns .i64 (digs n))] (.lit (.int .i64 (cmpN m n))) := by
 refine ecalls_of_awp Tryz.func67 (c := _) rfl (Nat.le_of_ble_eq_true rfl) ?_
 show awp cx 41 _ (postF cx Tryz.f67 _) ⟨[(0, .sl 1 (ns .i64 (digs m))), (1, .sl 1 (ns .i64 (digs n)))], []⟩
 refine awp_bound (i := 0) rfl fun hb => ?_
 replace hb := n_bnd hb
 refine awp_bound (i := 1) rfl fun hb2 => ?_
 replace hb2 := n_bnd hb2
 refine awp_seq fun K0 hK0 => awp_region rfl (o_as (Nv 0) rfl (aops_end (hK0 _ (awp_seq fun K1 hK1 => awp_seq fun K2 hK2 => awp_region rfl (o_mv (.sl 1 (ns .i64 (digs m))) rfl ?_)))))
 refine n_len (digs m) gn f2_ rfl ?_
 refine o_mv (.sl 1 (ns .i64 (digs n))) rfl ?_
 refine n_len (digs n) gn f2_ rfl ?_
 refine n_neq ((digs m).length) ((digs n).length) gn rfl rfl ?_
 refine aops_end (hK2 _ ?_)
 refine awp_condQ (q := ((digs m).length) ≠ ((digs n).length)) rfl (fun h1 => ?_) (fun h1 => ?_)
 ·refine awp_seq fun K3 hK3 => awp_seq fun K4 hK4 => awp_region rfl (o_mv (.sl 1 (ns .i64 (digs m))) rfl ?_)
  refine n_len (digs m) gn f2_ rfl ?_
  refine o_mv (.sl 1 (ns .i64 (digs n))) rfl ?_
  refine n_len (digs n) gn f2_ rfl ?_
  refine n_lss ((digs m).length) ((digs n).length) gn rfl rfl ?_
  refine aops_end (hK4 _ ?_)
  refine awp_condQ (q := ((digs m).length) < ((digs n).length)) rfl (fun h2 => ?_) (fun h2 => ?_)
  ·refine awp_seq fun K5 hK5 => awp_region rfl (o_as (Iv (-1)) rfl (aops_end (hK5 _ ?_)))
   refine awp_ret ?_
   refine post_ret ⟨[Iv (-1)], ⟨AV.le_refl _, trivial⟩, rfl, ?_⟩
   refine int_eq (k := .i64) ?_
   rw [cmpN_len h1, if_pos h2]
  ·refine awp_skip (hK3 _ (awp_seq fun K6 hK6 => awp_region rfl (o_as (Nv 1) rfl (aops_end (hK6 _ ?_)))))
   refine awp_ret ?_
   refine post_ret ⟨[Nv 1], ⟨AV.le_refl _, trivial⟩, rfl, ?_⟩
   refine int_eq (k := .i64) ?_
   rw [cmpN_len h1, if_neg h2]
   rfl
 ·refine awp_skip (hK1 _ (awp_seq fun K7 hK7 => awp_seq fun K8 hK8 => awp_region rfl (o_mv (.sl 1 (ns .i64 (digs m))) rfl ?_)))
  refine n_len (digs m) gn f2_ rfl ?_
  refine o_sub (a := (((digs m).length : Nat) : Int)) (c := ((1 : Nat) : Int)) gn rfl rfl (by exact wrap64 (by omega) (by omega)) ?_
  refine o_as (Iv ((((digs m).length : Nat) : Int) - ((1 : Nat) : Int))) rfl (aops_end (hK8 _ ?_))
  refine awp_block ?_
  refine awp_loopR (fun κ σ => ∃ (j : Nat), (j ≤ (digs m).length) ∧ (val ((digs m).drop j) = val ((digs n).drop j)) ∧ j = κ ∧ σ = ⟨[(0, .sl 1 (ns .i64 (digs m))), (1, .sl 1 (ns .i64 (digs n))), (5, (Iv ((j : Int) - 1)))], []⟩) ⟨_, _, ⟨(digs m).length, Nat.le_refl _, (by rw [val_drop_all (Nat.le_refl _), val_drop_all (by omega)]), rfl, rfl⟩, ?wk0⟩ ?rd0
  case wk0 =>
   exact Wk.sub ⟨rfl, rfl, (by first | rfl | exact int_eq (by omega) | exact int_nm (by omega)), trivial⟩ trivial
  rintro κ _ ⟨j, hj, hv, rfl, rfl⟩
  refine awp_seq fun K9 hK9 => awp_seq fun K10 hK10 => awp_region rfl (o_mv (Iv ((j : Int) - 1)) rfl ?_)
  refine o_geq (a := ((j : Int) - 1)) (c := ((0 : Nat) : Int)) gn rfl rfl ?_
  refine aops_end (hK10 _ ?_)
  refine awp_condQ (q := ((0 : Nat) : Int) ≤ ((j : Int) - 1)) rfl (fun h3 => ?_) (fun h3 => ?_)
  ·refine awp_wk (Wk.slot (i := 5) (y := (Nv (j - 1))) (AV.le_eq (by exact nm_int (by omega)))) ?_
   refine awp_skip (hK9 _ (awp_seq fun K11 hK11 => ?_))
   refine awp_block ?_
   refine awp_seq fun K12 hK12 => awp_seq fun K13 hK13 => awp_regionD rfl (o_mv (.sl 1 (ns .i64 (digs m))) rfl (o_mv (Nv (j - 1)) rfl ?_))
   refine n_index (digs m) (j - 1) gn f10_ rfl rfl (by omega) ?_
   refine n_loadI (digs m) (j - 1) gn f11_ rfl (by omega) ?_
   refine o_mv (.sl 1 (ns .i64 (digs n))) rfl (o_mv (Nv (j - 1)) rfl ?_)
   refine n_index (digs n) (j - 1) gn f10_ rfl rfl (by omega) ?_
   refine n_loadI (digs n) (j - 1) gn f11_ rfl (by omega) ?_
   refine n_lss ((digs m).getD (j - 1) 0) ((digs n).getD (j - 1) 0) gn rfl rfl ?_
   refine aops_end ⟨by kernel_rfl, ?_⟩
   refine hK13 _ ?_
   refine awp_condQ (q := ((digs m).getD (j - 1) 0) < ((digs n).getD (j - 1) 0)) rfl (fun h4 => ?_) (fun h4 => ?_)
   ·refine awp_seq fun K14 hK14 => awp_region rfl (o_as (Iv (-1)) rfl (aops_end (hK14 _ ?_)))
    refine awp_ret ?_
    refine post_ret ⟨[Iv (-1)], ⟨AV.le_refl _, trivial⟩, rfl, ?_⟩
    exact int_eq (k := .i64) (cmpN_lt (j := j - 1) (by omega) (by omega) (by rw [Nat.sub_add_cancel (by omega)]; exact hv) (by assumption))
   ·refine awp_skip (hK12 _ (awp_seq fun K15 hK15 => awp_regionD rfl (o_mv (.sl 1 (ns .i64 (digs m))) rfl (o_mv (Nv (j - 1)) rfl ?_))))
    refine n_index (digs m) (j - 1) gn f10_ rfl rfl (by omega) ?_
    refine n_loadI (digs m) (j - 1) gn f11_ rfl (by omega) ?_
    refine o_mv (.sl 1 (ns .i64 (digs n))) rfl (o_mv (Nv (j - 1)) rfl ?_)
    refine n_index (digs n) (j - 1) gn f10_ rfl rfl (by omega) ?_
    refine n_loadI (digs n) (j - 1) gn f11_ rfl (by omega) ?_
    refine n_gtr ((digs m).getD (j - 1) 0) ((digs n).getD (j - 1) 0) gn rfl rfl ?_
    refine aops_end ⟨by kernel_rfl, ?_⟩
    refine hK15 _ ?_
    refine awp_condQ (q := ((digs n).getD (j - 1) 0) < ((digs m).getD (j - 1) 0)) rfl (fun h5 => ?_) (fun h5 => ?_)
    ·refine awp_seq fun K16 hK16 => awp_region rfl (o_as (Nv 1) rfl (aops_end (hK16 _ ?_)))
     refine awp_ret ?_
     refine post_ret ⟨[Nv 1], ⟨AV.le_refl _, trivial⟩, rfl, ?_⟩
     exact int_eq (k := .i64) (cmpN_gt (j := j - 1) (by omega) (by omega) (by rw [Nat.sub_add_cancel (by omega)]; exact hv) (by assumption))
    ·refine awp_skip (hK11 _ (awp_region rfl (o_mv (Nv (j - 1)) rfl ?_)))
     refine o_sub (a := ((j - 1 : Nat) : Int)) (c := ((1 : Nat) : Int)) gn rfl rfl (by exact wrap64 (by omega) (by omega)) ?_
     refine o_as (Iv (((j - 1 : Nat) : Int) - ((1 : Nat) : Int))) rfl (aops_end ?_)
     refine ⟨_, _, ?lt, ⟨j - 1, (by omega), (by rw [val_drop_succ (xs := digs m) (j := j - 1) (by omega), val_drop_succ (xs := digs n) (j := j - 1) (by omega), Nat.sub_add_cancel (by omega), hv, show (digs m).getD (j - 1) 0 = (digs n).getD (j - 1) 0 by omega]), rfl, rfl⟩, ?wk⟩
     case lt => omega
     case wk => exact Wk.sub ⟨rfl, rfl, (by first | rfl | exact int_eq (by omega) | exact int_nm (by omega)), trivial⟩ trivial
  ·refine awp_exit ?_
   refine hK7 _ (awp_seq fun K17 hK17 => awp_region rfl (o_as (Nv 0) rfl (aops_end (hK17 _ ?_))))
   refine awp_ret ?_
   refine post_ret ⟨[Nv 0], ⟨AV.le_refl _, trivial⟩, rfl, ?_⟩
   have : j = 0 := by omega
   subst this
   exact int_eq (k := .i64) (cmpN_eq hv)

theorem c_wSize (m n : Nat) : ECalls cx 95 [.sl 1 (ns .u32 (digs m)), .sl 1 (ns .u32 (digs n))] (.lit (.int .i64 (cmpN m n))) := by
 refine ecalls_of_awp Tryz.func95 (c := _) rfl (Nat.le_of_ble_eq_true rfl) ?_
 show awp cx 45 _ (postF cx Tryz.f95 _) ⟨[(0, .sl 1 (ns .u32 (digs m))), (1, .sl 1 (ns .u32 (digs n)))], []⟩
 refine awp_bound (i := 0) rfl fun hb => ?_
 replace hb := n_bnd hb
 refine awp_bound (i := 1) rfl fun hb2 => ?_
 replace hb2 := n_bnd hb2
 refine awp_seq fun K0 hK0 => awp_region rfl (o_as (Nv 0) rfl (aops_end (hK0 _ (awp_seq fun K1 hK1 => awp_seq fun K2 hK2 => awp_region rfl (o_mv (.sl 1 (ns .u32 (digs m))) rfl ?_)))))
 refine n_len (digs m) gn f7_ rfl ?_
 refine o_mv (.sl 1 (ns .u32 (digs n))) rfl ?_
 refine n_len (digs n) gn f7_ rfl ?_
 refine n_neq ((digs m).length) ((digs n).length) gn rfl rfl ?_
 refine aops_end (hK2 _ ?_)
 refine awp_condQ (q := ((digs m).length) ≠ ((digs n).length)) rfl (fun h1 => ?_) (fun h1 => ?_)
 ·refine awp_seq fun K3 hK3 => awp_region rfl (o_mv (.sl 1 (ns .u32 (digs m))) rfl ?_)
  refine n_len (digs m) gn f7_ rfl ?_
  refine o_mv (.sl 1 (ns .u32 (digs n))) rfl ?_
  refine n_len (digs n) gn f7_ rfl ?_
  refine o_sub (a := (((digs m).length : Nat) : Int)) (c := (((digs n).length : Nat) : Int)) gn rfl rfl (by exact wrap64 (by omega) (by omega)) ?_
  refine o_max (a := (-1)) (c := (((digs m).length : Nat) : Int) - (((digs n).length : Nat) : Int)) gn rfl rfl (fun w => run_max _ _ w) ?_
  refine o_min (a := ((1 : Nat) : Int)) (c := max (-1) ((((digs m).length : Nat) : Int) - (((digs n).length : Nat) : Int))) gn rfl rfl (fun w => run_min _ _ w) ?_
  refine o_as (Iv (min ((1 : Nat) : Int) (max (-1) ((((digs m).length : Nat) : Int) - (((digs n).length : Nat) : Int))))) rfl (aops_end (hK3 _ ?_))
  refine awp_ret ?_
  refine post_ret ⟨[(Iv (min ((1 : Nat) : Int) (max (-1) ((((digs m).length : Nat) : Int) - (((digs n).length : Nat) : Int)))))], ⟨AV.le_refl _, trivial⟩, rfl, ?_⟩
  refine int_eq (k := .i64) ?_
  rw [cmpN_len h1]
  split <;> omega
 ·refine awp_skip (hK1 _ (awp_seq fun K4 hK4 => awp_seq fun K5 hK5 => awp_region rfl (o_mv (.sl 1 (ns .u32 (digs m))) rfl ?_)))
  refine n_len (digs m) gn f7_ rfl ?_
  refine o_sub (a := (((digs m).length : Nat) : Int)) (c := ((1 : Nat) : Int)) gn rfl rfl (by exact wrap64 (by omega) (by omega)) ?_
  refine o_as (Iv ((((digs m).length : Nat) : Int) - ((1 : Nat) : Int))) rfl (aops_end (hK5 _ ?_))
  refine awp_block ?_
  refine awp_loopR (fun κ σ => ∃ (j : Nat), (j ≤ (digs m).length) ∧ (val ((digs m).drop j) = val ((digs n).drop j)) ∧ j = κ ∧ σ = ⟨[(0, .sl 1 (ns .u32 (digs m))), (1, .sl 1 (ns .u32 (digs n))), (5, (Iv ((j : Int) - 1)))], []⟩) ⟨_, _, ⟨(digs m).length, Nat.le_refl _, (by rw [val_drop_all (Nat.le_refl _), val_drop_all (by omega)]), rfl, rfl⟩, ?wk0⟩ ?rd0
  case wk0 =>
   exact Wk.sub ⟨rfl, rfl, (by first | rfl | exact int_eq (by omega) | exact int_nm (by omega)), trivial⟩ trivial
  rintro κ _ ⟨j, hj, hv, rfl, rfl⟩
  refine awp_seq fun K6 hK6 => awp_seq fun K7 hK7 => awp_region rfl (o_mv (Iv ((j : Int) - 1)) rfl ?_)
  refine o_geq (a := ((j : Int) - 1)) (c := ((0 : Nat) : Int)) gn rfl rfl ?_
  refine aops_end (hK7 _ ?_)
  refine awp_condQ (q := ((0 : Nat) : Int) ≤ ((j : Int) - 1)) rfl (fun h2 => ?_) (fun h2 => ?_)
  ·refine awp_wk (Wk.slot (i := 5) (y := (Nv (j - 1))) (AV.le_eq (by exact nm_int (by omega)))) ?_
   refine awp_skip (hK6 _ (awp_seq fun K8 hK8 => ?_))
   refine awp_block ?_
   refine awp_block ?_
   refine awp_seq fun K9 hK9 => awp_regionD rfl (o_mv (.sl 1 (ns .u32 (digs m))) rfl (o_mv (Nv (j - 1)) rfl ?_))
   refine n_index (digs m) (j - 1) gn f16_ rfl rfl (by omega) ?_
   refine n_loadI (digs m) (j - 1) gn f17_ rfl (by omega) ?_
   refine o_mv (.sl 1 (ns .u32 (digs n))) rfl (o_mv (Nv (j - 1)) rfl ?_)
   refine n_index (digs n) (j - 1) gn f16_ rfl rfl (by omega) ?_
   refine n_loadI (digs n) (j - 1) gn f17_ rfl (by omega) ?_
   refine n_lss ((digs m).getD (j - 1) 0) ((digs n).getD (j - 1) 0) gn rfl rfl ?_
   refine o_as (bp (((digs m).getD (j - 1) 0) < ((digs n).getD (j - 1) 0))) rfl ?_
   refine aops_end ⟨by kernel_rfl, ?_⟩
   refine hK9 _ ?_
   refine awp_condQ (q := ((digs m).getD (j - 1) 0) < ((digs n).getD (j - 1) 0)) rfl (fun h3 => ?_) (fun h3 => ?_)
   ·refine awp_seq fun K10 hK10 => awp_region rfl (o_as (Iv (-1)) rfl (aops_end (hK10 _ ?_)))
    refine awp_ret ?_
    refine post_ret ⟨[Iv (-1)], ⟨AV.le_refl _, trivial⟩, rfl, ?_⟩
    exact int_eq (k := .i64) (cmpN_lt (j := j - 1) (by omega) (by omega) (by rw [Nat.sub_add_cancel (by omega)]; exact hv) (by assumption))
   ·refine awp_seq fun K11 hK11 => awp_regionD rfl (o_mv (.sl 1 (ns .u32 (digs m))) rfl (o_mv (Nv (j - 1)) rfl ?_))
    refine n_index (digs m) (j - 1) gn f16_ rfl rfl (by omega) ?_
    refine n_loadI (digs m) (j - 1) gn f17_ rfl (by omega) ?_
    refine o_mv (.sl 1 (ns .u32 (digs n))) rfl (o_mv (Nv (j - 1)) rfl ?_)
    refine n_index (digs n) (j - 1) gn f16_ rfl rfl (by omega) ?_
    refine n_loadI (digs n) (j - 1) gn f17_ rfl (by omega) ?_
    refine n_gtr ((digs m).getD (j - 1) 0) ((digs n).getD (j - 1) 0) gn rfl rfl ?_
    refine o_as (bp (((digs n).getD (j - 1) 0) < ((digs m).getD (j - 1) 0))) rfl ?_
    refine aops_end ⟨by kernel_rfl, ?_⟩
    refine hK11 _ ?_
    refine awp_condQ (q := ((digs n).getD (j - 1) 0) < ((digs m).getD (j - 1) 0)) rfl (fun h4 => ?_) (fun h4 => ?_)
    ·refine awp_seq fun K12 hK12 => awp_region rfl (o_as (Nv 1) rfl (aops_end (hK12 _ ?_)))
     refine awp_ret ?_
     refine post_ret ⟨[Nv 1], ⟨AV.le_refl _, trivial⟩, rfl, ?_⟩
     exact int_eq (k := .i64) (cmpN_gt (j := j - 1) (by omega) (by omega) (by rw [Nat.sub_add_cancel (by omega)]; exact hv) (by assumption))
    ·refine awp_skip (hK8 _ (awp_region rfl (o_mv (Nv (j - 1)) rfl ?_)))
     refine o_sub (a := ((j - 1 : Nat) : Int)) (c := ((1 : Nat) : Int)) gn rfl rfl (by exact wrap64 (by omega) (by omega)) ?_
     refine o_as (Iv (((j - 1 : Nat) : Int) - ((1 : Nat) : Int))) rfl (aops_end ?_)
     refine ⟨_, _, ?lt, ⟨j - 1, (by omega), (by rw [val_drop_succ (xs := digs m) (j := j - 1) (by omega), val_drop_succ (xs := digs n) (j := j - 1) (by omega), Nat.sub_add_cancel (by omega), hv, show (digs m).getD (j - 1) 0 = (digs n).getD (j - 1) 0 by omega]), rfl, rfl⟩, ?wk⟩
     case lt => omega
     case wk => exact Wk.sub ⟨rfl, rfl, (by first | rfl | exact int_eq (by omega) | exact int_nm (by omega)), trivial⟩ trivial
  ·refine awp_exit ?_
   refine hK4 _ (awp_seq fun K13 hK13 => awp_region rfl (o_as (Nv 0) rfl (aops_end (hK13 _ ?_))))
   refine awp_ret ?_
   refine post_ret ⟨[Nv 0], ⟨AV.le_refl _, trivial⟩, rfl, ?_⟩
   have : j = 0 := by omega
   subst this
   exact int_eq (k := .i64) (cmpN_eq hv)

theorem c_rCmp (x y : Int) : ECalls cx 21 [intR x, intR y] (.lit (.int .i64 (cmpZ x y))) := by
 refine ecalls_of_awp Tryz.func21 (c := _) rfl (Nat.le_of_ble_eq_true rfl) ?_
 show awp cx 27 _ (postF cx Tryz.f21 _) ⟨[(0, intR x), (1, intR y)], []⟩
 refine awp_seq fun K0 hK0 => awp_region rfl ?_
 refine o_box 2 [bp (x < 0), .sl 1 (ns .i64 (digs x.natAbs))] gn rfl rfl ?_
 refine o_box 3 [bp (y < 0), .sl 1 (ns .i64 (digs y.natAbs))] gn rfl rfl ?_
 refine o_as (Nv 0) rfl (aops_end (hK0 _ (awp_seq fun K1 hK1 => awp_seq fun K2 hK2 => awp_regionD rfl ?_)))
 refine o_loadA [bp (x < 0), .sl 1 (ns .i64 (digs x.natAbs))] gn f14_ rfl rfl rfl rfl rfl ?_
 refine o_ct (c_rSign x) gn f21_ rfl ?_
 refine o_loadA [bp (y < 0), .sl 1 (ns .i64 (digs y.natAbs))] gn f14_ rfl rfl rfl rfl rfl ?_
 refine o_ct (c_rSign y) gn f21_ rfl ?_
 refine o_neq (a := (sgn x)) (c := (sgn y)) gn rfl rfl ?_
 refine aops_end ⟨by kernel_rfl, ?_⟩
 refine hK2 _ ?_
 refine awp_condQ (q := (sgn x) ≠ (sgn y)) rfl (fun h1 => ?_) (fun h1 => ?_)
 ·refine awp_seq fun K3 hK3 => awp_seq fun K4 hK4 => awp_regionD rfl ?_
  refine o_loadA [bp (x < 0), .sl 1 (ns .i64 (digs x.natAbs))] gn f14_ rfl rfl rfl rfl rfl ?_
  refine o_ct (c_rSign x) gn f21_ rfl ?_
  refine o_loadA [bp (y < 0), .sl 1 (ns .i64 (digs y.natAbs))] gn f14_ rfl rfl rfl rfl rfl ?_
  refine o_ct (c_rSign y) gn f21_ rfl ?_
  refine o_lss (a := (sgn x)) (c := (sgn y)) gn rfl rfl ?_
  refine aops_end ⟨by kernel_rfl, ?_⟩
  refine hK4 _ ?_
  refine awp_condQ (q := (sgn x) < (sgn y)) rfl (fun h2 => ?_) (fun h2 => ?_)
  ·refine awp_seq fun K5 hK5 => awp_region rfl (o_as (Iv (-1)) rfl (aops_end (hK5 _ ?_)))
   refine awp_ret ?_
   refine post_ret ⟨[Iv (-1)], ⟨AV.le_refl _, trivial⟩, rfl, ?_⟩
   exact int_eq (k := .i64) (cmpZ_sgn_lt h2)
  ·refine awp_skip (hK3 _ (awp_seq fun K6 hK6 => awp_region rfl (o_as (Nv 1) rfl (aops_end (hK6 _ ?_)))))
   refine awp_ret ?_
   refine post_ret ⟨[Nv 1], ⟨AV.le_refl _, trivial⟩, rfl, ?_⟩
   exact int_eq (k := .i64) (cmpZ_sgn_gt h1 h2)
 ·refine awp_skip (hK1 _ (awp_seq fun K7 hK7 => awp_seq fun K8 hK8 => awp_region rfl ?_))
  refine o_fieldRef 0 gn f3_ rfl rfl ?_
  refine o_loadS (bp (x < 0)) gn f4_ rfl rfl rfl ?_
  refine aops_end (hK8 _ ?_)
  refine awp_condQ (q := x < 0) rfl (fun h3 => ?_) (fun h3 => ?_)
  ·refine awp_seq fun K9 hK9 => awp_region rfl ?_
   refine o_fieldRef 1 gn f0_ rfl rfl ?_
   refine o_loadS (.sl 1 (ns .i64 (digs y.natAbs))) gn f1_ rfl rfl rfl ?_
   refine o_fieldRef 1 gn f0_ rfl rfl ?_
   refine o_loadS (.sl 1 (ns .i64 (digs x.natAbs))) gn f1_ rfl rfl rfl ?_
   refine o_ct (c_rSize (y.natAbs) (x.natAbs)) gn f22_ rfl ?_
   refine o_as (Iv (cmpN (y.natAbs) (x.natAbs))) rfl (aops_end (hK9 _ ?_))
   refine awp_ret ?_
   refine post_ret ⟨[Iv (cmpN (y.natAbs) (x.natAbs))], ⟨AV.le_refl _, trivial⟩, rfl, ?_⟩
   exact int_eq (k := .i64) (cmpZ_neg h3 (Decidable.not_not.1 h1))
  ·refine awp_skip (hK7 _ (awp_seq fun K10 hK10 => awp_region rfl ?_))
   refine o_fieldRef 1 gn f0_ rfl rfl ?_
   refine o_loadS (.sl 1 (ns .i64 (digs x.natAbs))) gn f1_ rfl rfl rfl ?_
   refine o_fieldRef 1 gn f0_ rfl rfl ?_
   refine o_loadS (.sl 1 (ns .i64 (digs y.natAbs))) gn f1_ rfl rfl rfl ?_
   refine o_ct (c_rSize (x.natAbs) (y.natAbs)) gn f22_ rfl ?_
   refine o_as (Iv (cmpN (x.natAbs) (y.natAbs))) rfl (aops_end (hK10 _ ?_))
   refine awp_ret ?_
   refine post_ret ⟨[Iv (cmpN (x.natAbs) (y.natAbs))], ⟨AV.le_refl _, trivial⟩, rfl, ?_⟩
   exact int_eq (k := .i64) (cmpZ_pos h3 (Decidable.not_not.1 h1))

theorem c_wCmp (x y : Int) : ECalls cx 50 [intW x, intW y] (.lit (.int .i64 (cmpZ x y))) := by
 refine ecalls_of_awp Tryz.func50 (c := _) rfl (Nat.le_of_ble_eq_true rfl) ?_
 show awp cx 31 _ (postF cx Tryz.f50 _) ⟨[(0, intW x), (1, intW y)], []⟩
 have hx := sgn_lo x
 have hy := sgn_lo y
 refine awp_seq fun K0 hK0 => awp_region rfl ?_
 refine o_box 2 [bp (x < 0), .sl 1 (ns .u32 (digs x.natAbs))] gn rfl rfl ?_
 refine o_box 3 [bp (y < 0), .sl 1 (ns .u32 (digs y.natAbs))] gn rfl rfl ?_
 refine o_as (Nv 0) rfl (aops_end (hK0 _ (awp_seq fun K1 hK1 => ?_)))
 refine awp_block ?_
 refine awp_seq fun K2 hK2 => awp_regionD rfl ?_
 refine o_loadA [bp (x < 0), .sl 1 (ns .u32 (digs x.natAbs))] gn f20_ rfl rfl rfl rfl rfl ?_
 refine o_ct (c_wSign x) gn f23_ rfl ?_
 refine o_loadA [bp (y < 0), .sl 1 (ns .u32 (digs y.natAbs))] gn f20_ rfl rfl rfl rfl rfl ?_
 refine o_ct (c_wSign y) gn f23_ rfl ?_
 refine o_neq (a := (sgn x)) (c := (sgn y)) gn rfl rfl ?_
 refine o_as (bp ((sgn x) ≠ (sgn y))) rfl ?_
 refine aops_end ⟨by kernel_rfl, ?_⟩
 refine hK2 _ ?_
 refine awp_condQ (q := (sgn x) ≠ (sgn y)) rfl (fun h1 => ?_) (fun h1 => ?_)
 ·refine awp_seq fun K3 hK3 => awp_regionD rfl ?_
  refine o_loadA [bp (x < 0), .sl 1 (ns .u32 (digs x.natAbs))] gn f20_ rfl rfl rfl rfl rfl ?_
  refine o_ct (c_wSign x) gn f23_ rfl ?_
  refine o_loadA [bp (y < 0), .sl 1 (ns .u32 (digs y.natAbs))] gn f20_ rfl rfl rfl rfl rfl ?_
  refine o_ct (c_wSign y) gn f23_ rfl ?_
  refine o_sub (a := (sgn x)) (c := (sgn y)) gn rfl rfl (by exact wrap64 (by omega) (by omega)) ?_
  refine o_max (a := (-1)) (c := (sgn x) - (sgn y)) gn rfl rfl (fun w => run_max _ _ w) ?_
  refine o_min (a := ((1 : Nat) : Int)) (c := max (-1) ((sgn x) - (sgn y))) gn rfl rfl (fun w => run_min _ _ w) ?_
  refine o_as (Iv (min ((1 : Nat) : Int) (max (-1) ((sgn x) - (sgn y))))) rfl ?_
  refine aops_end ⟨by kernel_rfl, ?_⟩
  refine hK3 _ ?_
  refine awp_ret ?_
  refine post_ret ⟨[(Iv (min ((1 : Nat) : Int) (max (-1) ((sgn x) - (sgn y)))))], ⟨AV.le_refl _, trivial⟩, rfl, ?_⟩
  refine int_eq (k := .i64) ?_
  by_cases hh : sgn x < sgn y
  ·rw [cmpZ_sgn_lt hh]; omega
  ·rw [cmpZ_sgn_gt h1 hh]; omega
 ·refine awp_seq fun K4 hK4 => awp_region rfl ?_
  refine o_fieldRef 0 gn f8_ rfl rfl ?_
  refine o_loadS (bp (x < 0)) gn f4_ rfl rfl rfl ?_
  refine o_as (bp (x < 0)) rfl (aops_end (hK4 _ ?_))
  refine awp_condQ (q := x < 0) rfl (fun h2 => ?_) (fun h2 => ?_)
  ·refine awp_seq fun K5 hK5 => awp_region rfl ?_
   refine o_fieldRef 1 gn f5_ rfl rfl ?_
   refine o_loadS (.sl 1 (ns .u32 (digs y.natAbs))) gn f6_ rfl rfl rfl ?_
   refine o_fieldRef 1 gn f5_ rfl rfl ?_
   refine o_loadS (.sl 1 (ns .u32 (digs x.natAbs))) gn f6_ rfl rfl rfl ?_
   refine o_ct (c_wSize (y.natAbs) (x.natAbs)) gn f24_ rfl ?_
   refine o_as (Iv (cmpN (y.natAbs) (x.natAbs))) rfl (aops_end (hK5 _ ?_))
   refine awp_ret ?_
   refine post_ret ⟨[Iv (cmpN (y.natAbs) (x.natAbs))], ⟨AV.le_refl _, trivial⟩, rfl, ?_⟩
   exact int_eq (k := .i64) (cmpZ_neg h2 (Decidable.not_not.1 h1))
  ·refine awp_skip (hK1 _ (awp_seq fun K6 hK6 => awp_region rfl ?_))
   refine o_fieldRef 1 gn f5_ rfl rfl ?_
   refine o_loadS (.sl 1 (ns .u32 (digs x.natAbs))) gn f6_ rfl rfl rfl ?_
   refine o_fieldRef 1 gn f5_ rfl rfl ?_
   refine o_loadS (.sl 1 (ns .u32 (digs y.natAbs))) gn f6_ rfl rfl rfl ?_
   refine o_ct (c_wSize (x.natAbs) (y.natAbs)) gn f24_ rfl ?_
   refine o_as (Iv (cmpN (x.natAbs) (y.natAbs))) rfl (aops_end (hK6 _ ?_))
   refine awp_ret ?_
   refine post_ret ⟨[Iv (cmpN (x.natAbs) (y.natAbs))], ⟨AV.le_refl _, trivial⟩, rfl, ?_⟩
   exact int_eq (k := .i64) (cmpZ_pos h2 (Decidable.not_not.1 h1))

theorem c_rPart (xs : List Nat) (i : Nat) : ECalls cx 106 [.sl 1 (ns .i64 xs), Nv i] (Nv (xs.getD i 0)) := by
 refine ecalls_of_awp Tryz.func106 (c := _) rfl (Nat.le_of_ble_eq_true rfl) ?_
 show awp cx 13 _ (postF cx Tryz.f106 _) ⟨[(0, .sl 1 (ns .i64 xs)), (1, Nv i)], []⟩
 refine awp_seq fun K0 hK0 => awp_region rfl (o_as (Nv 0) rfl (aops_end (hK0 _ (awp_seq fun K1 hK1 => awp_seq fun K2 hK2 => awp_region rfl (o_mv (Nv i) rfl (o_mv (.sl 1 (ns .i64 xs)) rfl ?_))))))
 refine n_len xs gn f2_ rfl ?_
 refine n_lss i (xs.length) gn rfl rfl ?_
 refine aops_end (hK2 _ ?_)
 refine awp_condQ (q := i < (xs.length)) rfl (fun h1 => ?_) (fun h1 => ?_)
 ·refine awp_seq fun K3 hK3 => awp_region rfl (o_mv (.sl 1 (ns .i64 xs)) rfl (o_mv (Nv i) rfl ?_))
  refine n_index xs i gn f10_ rfl rfl (by omega) ?_
  refine n_loadI xs i gn f11_ rfl (by omega) ?_
  refine o_as (Nv (xs.getD i 0)) rfl (aops_end (hK3 _ ?_))
  refine awp_ret ?_
  refine post_ret ⟨[Nv (xs.getD i 0)], ⟨AV.le_refl _, trivial⟩, rfl, ?_⟩
  rfl
 ·refine awp_skip (hK1 _ (awp_seq fun K4 hK4 => awp_region rfl (o_as (Nv 0) rfl (aops_end (hK4 _ ?_)))))
  refine awp_ret ?_
  refine post_ret ⟨[Nv 0], ⟨AV.le_refl _, trivial⟩, rfl, ?_⟩
  exact congrArg (nm .i64) (getD_ge (by omega))

theorem c_rMore (m n : Nat) (hm : (digs m).length ≤ 1000000000) (hn : (digs n).length ≤ 1000000000) : ECalls cx 104 [.sl 1 (ns .i64 (digs m)), .sl 1 (ns .i64 (digs n))] (.sl 1 (ns .i64 (dgn (moreN m n) (m + n)))) := by
 refine ecalls_of_awp Tryz.func104 (c := _) rfl (Nat.le_of_ble_eq_true rfl) ?_
 show awp cx 42 _ (postF cx Tryz.f104 _) ⟨[(0, .sl 1 (ns .i64 (digs m))), (1, .sl 1 (ns .i64 (digs n)))], []⟩
 refine awp_bound (i := 0) rfl fun hb => ?_
 replace hb := n_bnd hb
 refine awp_bound (i := 1) rfl fun hb2 => ?_
 replace hb2 := n_bnd hb2
 refine awp_seq fun K0 hK0 => awp_region rfl (o_as Zv rfl (aops_end (hK0 _ (awp_seq fun K1 hK1 => awp_region rfl (o_as Zv rfl (aops_end (hK1 _ (awp_seq fun K2 hK2 => awp_region rfl ?_))))))))
 refine o_as (Nv 0) rfl (aops_end (hK2 _ (awp_seq fun K3 hK3 => awp_seq fun K4 hK4 => awp_region rfl (o_as (Nv 0) rfl (aops_end (hK4 _ ?_))))))
 refine awp_block ?_
 refine awp_loopR (fun κ σ => ∃ (i : Nat), ∃ (r : List Nat), ∃ (c : Nat), (r.length = i) ∧ (Dig r) ∧ (c ≤ 1) ∧ (val r + 1000000000 ^ i * c = val ((digs m).take i) + val ((digs n).take i)) ∧ (i ≤ max (digs m).length (digs n).length ∨ (i = max (digs m).length (digs n).length + 1 ∧ c = 0 ∧ 1000000000 ^ (max (digs m).length (digs n).length) ≤ m + n)) ∧ (max (digs m).length (digs n).length + 2 - i) = κ ∧ σ = ⟨[(0, .sl 1 (ns .i64 (digs m))), (1, .sl 1 (ns .i64 (digs n))), (5, .row 3), (6, Nv c), (7, Nv i)], [(3, .row 3 1 (ns .i64 r))]⟩) ⟨_, _, ⟨0, [], 0, rfl, Dig.nil, (by omega), (by simp [val]), (Or.inl (by omega)), rfl, rfl⟩, ?wk0⟩ ?rd0
 case wk0 =>
  exact Wk.trans (Wk.newNil (i := 5) (id := 502) (e := 3) (sz := 1) rfl rfl (by decide)) (Wk.trans (Wk.sub (σ' := ⟨[(0, .sl 1 (ns .i64 (digs m))), (1, .sl 1 (ns .i64 (digs n))), (5, .row 502), (6, Nv 0), (7, Nv 0)], [(502, .row 3 1 (ns .i64 ([])))]⟩) ⟨rfl, rfl, rfl, rfl, rfl, trivial⟩ ⟨rfl, trivial⟩) (Wk.trans (Wk.ren (id := 502) (id' := 3) rfl) (Wk.sub ⟨rfl, rfl, (by first | rfl | simp), (by first | rfl | exact nm_int (by omega)), (by first | rfl | exact nm_int (by omega)), trivial⟩ ⟨(by first | rfl | exact row_ns (by simp)), trivial⟩)))
 rintro κ _ ⟨i, r, c, hl, hd, hc, hv, hi, rfl, rfl⟩
 have hA := Dig.getD (digs_dig m) i
 have hB := Dig.getD (digs_dig n) i
 refine awp_seq fun K5 hK5 => awp_seq fun K6 hK6 => awp_region rfl (o_mv (Nv i) rfl (o_mv (.sl 1 (ns .i64 (digs m))) rfl ?_))
 refine n_len (digs m) gn f2_ rfl ?_
 refine n_lss i ((digs m).length) gn rfl rfl ?_
 refine o_mv (bp (i < ((digs m).length))) rfl ?_
 refine o_splitP (q := i < ((digs m).length)) 13 rfl (fun h1 => ?_) (fun h1 => ?_)
 ·refine o_skip rfl rfl (decide_eq_true h1) (o_skip rfl rfl (decide_eq_true h1) (o_skip rfl rfl (decide_eq_true h1) (o_skip rfl rfl (decide_eq_true h1) ?_)))
  refine o_pickT Tv gn rfl (decide_eq_true h1) rfl ?_
  refine o_mv Tv rfl (o_skip rfl rfl rfl (o_skip rfl rfl rfl ?_))
  refine o_pickT Tv gn rfl rfl rfl ?_
  refine aops_end (hK6 _ ?_)
  refine awp_condB (b := true) rfl (fun _ => ?_) (fun hh => absurd (hh.symm.trans rfl) (by decide))
  refine awp_skip (hK5 _ (awp_seq fun K7 hK7 => ?_))
  refine awp_block ?_
  refine awp_seq fun K8 hK8 => awp_region rfl (o_mv (.sl 1 (ns .i64 (digs m))) rfl (o_mv (Nv i) rfl ?_))
  refine o_ct (c_rPart (digs m) i) gn f25_ rfl ?_
  refine o_mv (.sl 1 (ns .i64 (digs n))) rfl (o_mv (Nv i) rfl ?_)
  refine o_ct (c_rPart (digs n) i) gn f25_ rfl ?_
  refine n_add ((digs m).getD i 0) ((digs n).getD i 0) gn rfl rfl (by simp only [topOf]; omega) ?_
  refine o_mv (Nv c) rfl ?_
  refine n_add (((digs m).getD i 0) + ((digs n).getD i 0)) c gn rfl rfl (by simp only [topOf]; omega) ?_
  refine o_as (Nv ((((digs m).getD i 0) + ((digs n).getD i 0)) + c)) rfl (aops_end (hK8 _ (awp_seq fun K9 hK9 => awp_region rfl (o_mv (.row 3) rfl (o_mv (Nv ((((digs m).getD i 0) + ((digs n).getD i 0)) + c)) rfl ?_)))))
  refine n_rem ((((digs m).getD i 0) + ((digs n).getD i 0)) + c) 1000000000 gn rfl rfl (by omega) ?_
  refine o_buildSlice 101 (ns .i64 ([((((digs m).getD i 0) + ((digs n).getD i 0)) + c) % 1000000000])) [(0, [Nv (((((digs m).getD i 0) + ((digs n).getD i 0)) + c) % 1000000000)])] gn f10_ rfl f26_ rfl rfl rfl rfl rfl rfl rfl ?_
  refine n_append 102 r ([((((digs m).getD i 0) + ((digs n).getD i 0)) + c) % 1000000000]) [(101, .row 3 1 (ns .i64 ([((((digs m).getD i 0) + ((digs n).getD i 0)) + c) % 1000000000])))] gn f10_ f26_ rfl rfl rfl rfl rfl (by simp only [List.length_append, List.length_cons, List.length_nil]; omega) (by decide) rfl rfl ?_
  refine o_as (.row 102) rfl (aops_end (hK9 _ (awp_region rfl (o_mv (Nv ((((digs m).getD i 0) + ((digs n).getD i 0)) + c)) rfl ?_))))
  refine n_quo ((((digs m).getD i 0) + ((digs n).getD i 0)) + c) 1000000000 gn rfl rfl (by omega) (by simp only [topOf]; omega) ?_
  refine o_as (Nv (((((digs m).getD i 0) + ((digs n).getD i 0)) + c) / 1000000000)) rfl (aops_end (hK7 _ (awp_region rfl (o_mv (Nv i) rfl ?_))))
  refine n_add i 1 gn rfl rfl (by simp only [topOf]; omega) ?_
  refine o_as (Nv (i + 1)) rfl (aops_end ?_)
  refine ⟨_, _, ?lt, ⟨i + 1, r ++ ([((((digs m).getD i 0) + ((digs n).getD i 0)) + c) % 1000000000]), ((((digs m).getD i 0) + ((digs n).getD i 0)) + c) / 1000000000, (by simp [hl]), (hd.snoc (Nat.mod_lt _ (by decide))), (by omega), add_step hl hv rfl, (more_hi hc hv hi (by omega)), rfl, rfl⟩, ?wk⟩
  case lt => omega
  case wk => exact Wk.trans (Wk.sub (σ' := ⟨[(0, .sl 1 (ns .i64 (digs m))), (1, .sl 1 (ns .i64 (digs n))), (5, .row 102), (6, Nv (((((digs m).getD i 0) + ((digs n).getD i 0)) + c) / 1000000000)), (7, Nv (i + 1))], [(102, .row 3 1 (ns .i64 (r ++ ([((((digs m).getD i 0) + ((digs n).getD i 0)) + c) % 1000000000]))))]⟩) ⟨rfl, rfl, rfl, rfl, rfl, trivial⟩ ⟨rfl, trivial⟩) (Wk.trans (Wk.ren (id := 102) (id' := 3) rfl) (Wk.sub ⟨rfl, rfl, (by first | rfl | simp), (by first | rfl | exact nm_int (by omega)), (by first | rfl | exact nm_int (by omega)), trivial⟩ ⟨(by first | rfl | exact row_ns (by simp)), trivial⟩))
 ·refine o_move (Nv i) (Gd.yes rfl rfl (decide_eq_false h1)) rfl (o_move (.sl 1 (ns .i64 (digs n))) (Gd.yes rfl rfl (decide_eq_false h1)) rfl ?_)
  refine n_len (digs n) (Gd.yes rfl rfl (decide_eq_false h1)) f2_ rfl ?_
  refine n_lss i ((digs n).length) (Gd.yes rfl rfl (decide_eq_false h1)) rfl rfl ?_
  refine o_pickF (bp (i < ((digs n).length))) gn rfl (decide_eq_false h1) rfl ?_
  refine o_mv (bp (i < ((digs n).length))) rfl ?_
  refine o_splitP (q := i < ((digs n).length)) 19 rfl (fun h2 => ?_) (fun h2 => ?_)
  ·refine o_skip rfl rfl (decide_eq_true h2) (o_skip rfl rfl (decide_eq_true h2) ?_)
   refine o_pickT Tv gn rfl (decide_eq_true h2) rfl ?_
   refine aops_end (hK6 _ ?_)
   refine awp_condB (b := true) rfl (fun _ => ?_) (fun hh => absurd (hh.symm.trans rfl) (by decide))
   refine awp_skip (hK5 _ (awp_seq fun K10 hK10 => ?_))
   refine awp_block ?_
   refine awp_seq fun K11 hK11 => awp_region rfl (o_mv (.sl 1 (ns .i64 (digs m))) rfl (o_mv (Nv i) rfl ?_))
   refine o_ct (c_rPart (digs m) i) gn f25_ rfl ?_
   refine o_mv (.sl 1 (ns .i64 (digs n))) rfl (o_mv (Nv i) rfl ?_)
   refine o_ct (c_rPart (digs n) i) gn f25_ rfl ?_
   refine n_add ((digs m).getD i 0) ((digs n).getD i 0) gn rfl rfl (by simp only [topOf]; omega) ?_
   refine o_mv (Nv c) rfl ?_
   refine n_add (((digs m).getD i 0) + ((digs n).getD i 0)) c gn rfl rfl (by simp only [topOf]; omega) ?_
   refine o_as (Nv ((((digs m).getD i 0) + ((digs n).getD i 0)) + c)) rfl (aops_end (hK11 _ (awp_seq fun K12 hK12 => awp_region rfl (o_mv (.row 3) rfl (o_mv (Nv ((((digs m).getD i 0) + ((digs n).getD i 0)) + c)) rfl ?_)))))
   refine n_rem ((((digs m).getD i 0) + ((digs n).getD i 0)) + c) 1000000000 gn rfl rfl (by omega) ?_
   refine o_buildSlice 101 (ns .i64 ([((((digs m).getD i 0) + ((digs n).getD i 0)) + c) % 1000000000])) [(0, [Nv (((((digs m).getD i 0) + ((digs n).getD i 0)) + c) % 1000000000)])] gn f10_ rfl f26_ rfl rfl rfl rfl rfl rfl rfl ?_
   refine n_append 102 r ([((((digs m).getD i 0) + ((digs n).getD i 0)) + c) % 1000000000]) [(101, .row 3 1 (ns .i64 ([((((digs m).getD i 0) + ((digs n).getD i 0)) + c) % 1000000000])))] gn f10_ f26_ rfl rfl rfl rfl rfl (by simp only [List.length_append, List.length_cons, List.length_nil]; omega) (by decide) rfl rfl ?_
   refine o_as (.row 102) rfl (aops_end (hK12 _ (awp_region rfl (o_mv (Nv ((((digs m).getD i 0) + ((digs n).getD i 0)) + c)) rfl ?_))))
   refine n_quo ((((digs m).getD i 0) + ((digs n).getD i 0)) + c) 1000000000 gn rfl rfl (by omega) (by simp only [topOf]; omega) ?_
   refine o_as (Nv (((((digs m).getD i 0) + ((digs n).getD i 0)) + c) / 1000000000)) rfl (aops_end (hK10 _ (awp_region rfl (o_mv (Nv i) rfl ?_))))
   refine n_add i 1 gn rfl rfl (by simp only [topOf]; omega) ?_
   refine o_as (Nv (i + 1)) rfl (aops_end ?_)
   refine ⟨_, _, ?lt, ⟨i + 1, r ++ ([((((digs m).getD i 0) + ((digs n).getD i 0)) + c) % 1000000000]), ((((digs m).getD i 0) + ((digs n).getD i 0)) + c) / 1000000000, (by simp [hl]), (hd.snoc (Nat.mod_lt _ (by decide))), (by omega), add_step hl hv rfl, (more_hi hc hv hi (by omega)), rfl, rfl⟩, ?wk⟩
   case lt => omega
   case wk => exact Wk.trans (Wk.sub (σ' := ⟨[(0, .sl 1 (ns .i64 (digs m))), (1, .sl 1 (ns .i64 (digs n))), (5, .row 102), (6, Nv (((((digs m).getD i 0) + ((digs n).getD i 0)) + c) / 1000000000)), (7, Nv (i + 1))], [(102, .row 3 1 (ns .i64 (r ++ ([((((digs m).getD i 0) + ((digs n).getD i 0)) + c) % 1000000000]))))]⟩) ⟨rfl, rfl, rfl, rfl, rfl, trivial⟩ ⟨rfl, trivial⟩) (Wk.trans (Wk.ren (id := 102) (id' := 3) rfl) (Wk.sub ⟨rfl, rfl, (by first | rfl | simp), (by first | rfl | exact nm_int (by omega)), (by first | rfl | exact nm_int (by omega)), trivial⟩ ⟨(by first | rfl | exact row_ns (by simp)), trivial⟩))
  ·refine o_move (Nv c) (Gd.yes rfl rfl (decide_eq_false h2)) rfl ?_
   refine n_gtr c 0 (Gd.yes rfl rfl (decide_eq_false h2)) rfl rfl ?_
   refine o_pickF (bp (0 < c)) gn rfl (decide_eq_false h2) rfl ?_
   refine aops_end (hK6 _ ?_)
   refine awp_condQ (q := 0 < c) rfl (fun h3 => ?_) (fun h3 => ?_)
   ·refine awp_skip (hK5 _ (awp_seq fun K13 hK13 => ?_))
    refine awp_block ?_
    refine awp_seq fun K14 hK14 => awp_region rfl (o_mv (.sl 1 (ns .i64 (digs m))) rfl (o_mv (Nv i) rfl ?_))
    refine o_ct (c_rPart (digs m) i) gn f25_ rfl ?_
    refine o_mv (.sl 1 (ns .i64 (digs n))) rfl (o_mv (Nv i) rfl ?_)
    refine o_ct (c_rPart (digs n) i) gn f25_ rfl ?_
    refine n_add ((digs m).getD i 0) ((digs n).getD i 0) gn rfl rfl (by simp only [topOf]; omega) ?_
    refine o_mv (Nv c) rfl ?_
    refine n_add (((digs m).getD i 0) + ((digs n).getD i 0)) c gn rfl rfl (by simp only [topOf]; omega) ?_
    refine o_as (Nv ((((digs m).getD i 0) + ((digs n).getD i 0)) + c)) rfl (aops_end (hK14 _ (awp_seq fun K15 hK15 => awp_region rfl (o_mv (.row 3) rfl (o_mv (Nv ((((digs m).getD i 0) + ((digs n).getD i 0)) + c)) rfl ?_)))))
    refine n_rem ((((digs m).getD i 0) + ((digs n).getD i 0)) + c) 1000000000 gn rfl rfl (by omega) ?_
    refine o_buildSlice 101 (ns .i64 ([((((digs m).getD i 0) + ((digs n).getD i 0)) + c) % 1000000000])) [(0, [Nv (((((digs m).getD i 0) + ((digs n).getD i 0)) + c) % 1000000000)])] gn f10_ rfl f26_ rfl rfl rfl rfl rfl rfl rfl ?_
    refine n_append 102 r ([((((digs m).getD i 0) + ((digs n).getD i 0)) + c) % 1000000000]) [(101, .row 3 1 (ns .i64 ([((((digs m).getD i 0) + ((digs n).getD i 0)) + c) % 1000000000])))] gn f10_ f26_ rfl rfl rfl rfl rfl (by simp only [List.length_append, List.length_cons, List.length_nil]; omega) (by decide) rfl rfl ?_
    refine o_as (.row 102) rfl (aops_end (hK15 _ (awp_region rfl (o_mv (Nv ((((digs m).getD i 0) + ((digs n).getD i 0)) + c)) rfl ?_))))
    refine n_quo ((((digs m).getD i 0) + ((digs n).getD i 0)) + c) 1000000000 gn rfl rfl (by omega) (by simp only [topOf]; omega) ?_
    refine o_as (Nv (((((digs m).getD i 0) + ((digs n).getD i 0)) + c) / 1000000000)) rfl (aops_end (hK13 _ (awp_region rfl (o_mv (Nv i) rfl ?_))))
    refine n_add i 1 gn rfl rfl (by simp only [topOf]; omega) ?_
    refine o_as (Nv (i + 1)) rfl (aops_end ?_)
    refine ⟨_, _, ?lt, ⟨i + 1, r ++ ([((((digs m).getD i 0) + ((digs n).getD i 0)) + c) % 1000000000]), ((((digs m).getD i 0) + ((digs n).getD i 0)) + c) / 1000000000, (by simp [hl]), (hd.snoc (Nat.mod_lt _ (by decide))), (by omega), add_step hl hv rfl, (more_hi hc hv hi (by omega)), rfl, rfl⟩, ?wk⟩
    case lt => omega
    case wk => exact Wk.trans (Wk.sub (σ' := ⟨[(0, .sl 1 (ns .i64 (digs m))), (1, .sl 1 (ns .i64 (digs n))), (5, .row 102), (6, Nv (((((digs m).getD i 0) + ((digs n).getD i 0)) + c) / 1000000000)), (7, Nv (i + 1))], [(102, .row 3 1 (ns .i64 (r ++ ([((((digs m).getD i 0) + ((digs n).getD i 0)) + c) % 1000000000]))))]⟩) ⟨rfl, rfl, rfl, rfl, rfl, trivial⟩ ⟨rfl, trivial⟩) (Wk.trans (Wk.ren (id := 102) (id' := 3) rfl) (Wk.sub ⟨rfl, rfl, (by first | rfl | simp), (by first | rfl | exact nm_int (by omega)), (by first | rfl | exact nm_int (by omega)), trivial⟩ ⟨(by first | rfl | exact row_ns (by simp)), trivial⟩))
   ·refine awp_exit ?_
    refine hK3 _ (awp_seq fun K16 hK16 => awp_region rfl (o_mv (.row 3) rfl (o_as (.row 3) rfl (aops_end (hK16 _ ?_)))))
    refine awp_wk (σ' := ⟨[(4, .row 3)], [(3, .row 3 1 (ns .i64 r))]⟩) (Wk.sub ⟨rfl, trivial⟩ ⟨rfl, trivial⟩) ?_
    refine awp_wk (σ' := ⟨[(4, .sl 1 (ns .i64 r))], []⟩) (Wk.freeze (id := 3) (e := 3) (sz := 1) (cs := (ns .i64 r)) rfl) ?_
    refine awp_ret ?_
    refine post_ret ⟨[.sl 1 (ns .i64 r)], ⟨AV.le_refl _, trivial⟩, rfl, ?_⟩
    have hc0 : c = 0 := by omega
    subst hc0
    exact ns_congr (more_fin hl hd (by omega) (by omega) hv (by rcases hi with h | ⟨h, _, h'⟩; exact Or.inl h; exact Or.inr ⟨h, h'⟩)).symm

theorem c_rLess (m n : Nat) (hnm : n ≤ m) (hm : (digs m).length ≤ 1000000000) (hn : (digs n).length ≤ 1000000000) : ECalls cx 105 [.sl 1 (ns .i64 (digs m)), .sl 1 (ns .i64 (digs n))] (.sl 1 (ns .i64 (dgn (digs m).length (m - n)))) := by
 refine ecalls_of_awp Tryz.func105 (c := _) rfl (Nat.le_of_ble_eq_true rfl) ?_
 show awp cx 34 _ (postF cx Tryz.f105 _) ⟨[(0, .sl 1 (ns .i64 (digs m))), (1, .sl 1 (ns .i64 (digs n)))], []⟩
 refine awp_bound (i := 0) rfl fun hb => ?_
 replace hb := n_bnd hb
 refine awp_bound (i := 1) rfl fun hb2 => ?_
 replace hb2 := n_bnd hb2
 refine awp_seq fun K0 hK0 => awp_region rfl (o_as Zv rfl (aops_end (hK0 _ (awp_seq fun K1 hK1 => awp_region rfl (o_as Zv rfl (aops_end (hK1 _ (awp_seq fun K2 hK2 => awp_region rfl ?_))))))))
 refine o_as (Nv 0) rfl (aops_end (hK2 _ (awp_seq fun K3 hK3 => awp_seq fun K4 hK4 => awp_region rfl (o_as (Nv 0) rfl (aops_end (hK4 _ ?_))))))
 refine awp_block ?_
 refine awp_loopR (fun κ σ => ∃ (i : Nat), ∃ (r : List Nat), ∃ (c : Nat), (r.length = i) ∧ (i ≤ (digs m).length) ∧ (Dig r) ∧ (c ≤ 1) ∧ (val r + val ((digs n).take i) = val ((digs m).take i) + 1000000000 ^ i * c) ∧ ((digs m).length - i) = κ ∧ σ = ⟨[(0, .sl 1 (ns .i64 (digs m))), (1, .sl 1 (ns .i64 (digs n))), (5, .row 3), (6, Nv c), (7, Nv i)], [(3, .row 3 1 (ns .i64 r))]⟩) ⟨_, _, ⟨0, [], 0, rfl, (by omega), Dig.nil, (by omega), (by simp [val]), rfl, rfl⟩, ?wk0⟩ ?rd0
 case wk0 =>
  exact Wk.trans (Wk.newNil (i := 5) (id := 502) (e := 3) (sz := 1) rfl rfl (by decide)) (Wk.trans (Wk.sub (σ' := ⟨[(0, .sl 1 (ns .i64 (digs m))), (1, .sl 1 (ns .i64 (digs n))), (5, .row 502), (6, Nv 0), (7, Nv 0)], [(502, .row 3 1 (ns .i64 ([])))]⟩) ⟨rfl, rfl, rfl, rfl, rfl, trivial⟩ ⟨rfl, trivial⟩) (Wk.trans (Wk.ren (id := 502) (id' := 3) rfl) (Wk.sub ⟨rfl, rfl, (by first | rfl | simp), (by first | rfl | exact nm_int (by omega)), (by first | rfl | exact nm_int (by omega)), trivial⟩ ⟨(by first | rfl | exact row_ns (by simp)), trivial⟩)))
 rintro κ _ ⟨i, r, c, hl, hi, hd, hc, hv, rfl, rfl⟩
 have hA := Dig.getD (digs_dig m) i
 have hB := Dig.getD (digs_dig n) i
 refine awp_seq fun K5 hK5 => awp_seq fun K6 hK6 => awp_region rfl (o_mv (Nv i) rfl (o_mv (.sl 1 (ns .i64 (digs m))) rfl ?_))
 refine n_len (digs m) gn f2_ rfl ?_
 refine n_lss i ((digs m).length) gn rfl rfl ?_
 refine aops_end (hK6 _ ?_)
 refine awp_condQ (q := i < ((digs m).length)) rfl (fun h1 => ?_) (fun h1 => ?_)
 ·refine awp_skip (hK5 _ (awp_seq fun K7 hK7 => ?_))
  refine awp_block ?_
  refine awp_seq fun K8 hK8 => awp_regionD rfl (o_mv (.sl 1 (ns .i64 (digs m))) rfl (o_mv (Nv i) rfl ?_))
  refine n_index (digs m) i gn f10_ rfl rfl (by omega) ?_
  refine n_loadI (digs m) i gn f11_ rfl (by omega) ?_
  refine o_mv (.sl 1 (ns .i64 (digs n))) rfl (o_mv (Nv i) rfl ?_)
  refine o_ct (c_rPart (digs n) i) gn f25_ rfl ?_
  refine o_sub (a := (((digs m).getD i 0 : Nat) : Int)) (c := (((digs n).getD i 0 : Nat) : Int)) gn rfl rfl (by exact wrap64 (by omega) (by omega)) ?_
  refine o_mv (Nv c) rfl ?_
  refine o_sub (a := ((((digs m).getD i 0 : Nat) : Int) - (((digs n).getD i 0 : Nat) : Int))) (c := ((c : Nat) : Int)) gn rfl rfl (by exact wrap64 (by omega) (by omega)) ?_
  refine o_as (Iv (((((digs m).getD i 0 : Nat) : Int) - (((digs n).getD i 0 : Nat) : Int)) - ((c : Nat) : Int))) rfl ?_
  refine aops_end ⟨by kernel_rfl, ?_⟩
  refine hK8 _ (awp_seq fun K9 hK9 => awp_region rfl (o_as (Nv 0) rfl (aops_end (hK9 _ ?_))))
  refine awp_seqJ (J := fun σ => ∃ (x : Nat), ∃ (c' : Nat), (x + ((digs n).getD i 0) + c = ((digs m).getD i 0) + 1000000000 * c') ∧ (x < 1000000000) ∧ (c' ≤ 1) ∧ True ∧ σ = ⟨[(0, .sl 1 (ns .i64 (digs m))), (1, .sl 1 (ns .i64 (digs n))), (5, .row 3), (6, Nv c'), (7, Nv i), (8, Nv x)], [(3, .row 3 1 (ns .i64 r))]⟩) ?ja1 ?jb1
  case ja1 =>
   refine awp_seq fun K10 hK10 => awp_region rfl (o_mv (Iv (((((digs m).getD i 0 : Nat) : Int) - (((digs n).getD i 0 : Nat) : Int)) - ((c : Nat) : Int))) rfl ?_)
   refine o_lss (a := (((((digs m).getD i 0 : Nat) : Int) - (((digs n).getD i 0 : Nat) : Int)) - ((c : Nat) : Int))) (c := ((0 : Nat) : Int)) gn rfl rfl ?_
   refine aops_end (hK10 _ ?_)
   refine awp_condQ (q := (((((digs m).getD i 0 : Nat) : Int) - (((digs n).getD i 0 : Nat) : Int)) - ((c : Nat) : Int)) < ((0 : Nat) : Int)) rfl (fun h2 => ?_) (fun h2 => ?_)
   ·refine awp_seq fun K11 hK11 => awp_region rfl (o_mv (Iv (((((digs m).getD i 0 : Nat) : Int) - (((digs n).getD i 0 : Nat) : Int)) - ((c : Nat) : Int))) rfl ?_)
    refine o_add (a := (((((digs m).getD i 0 : Nat) : Int) - (((digs n).getD i 0 : Nat) : Int)) - ((c : Nat) : Int))) (c := ((1000000000 : Nat) : Int)) gn rfl rfl (by exact wrap64 (by omega) (by omega)) ?_
    refine o_as (Iv ((((((digs m).getD i 0 : Nat) : Int) - (((digs n).getD i 0 : Nat) : Int)) - ((c : Nat) : Int)) + ((1000000000 : Nat) : Int))) rfl (aops_end (hK11 _ (awp_region rfl (o_as (Nv 1) rfl (aops_end ?_)))))
    exact ⟨_, ⟨((digs m).getD i 0) + 1000000000 - ((digs n).getD i 0) - c, 1, (by omega), (by omega), (by omega), trivial, rfl⟩, Wk.sub ⟨rfl, rfl, rfl, (by first | rfl | exact nm_int (by omega)), rfl, (by first | rfl | exact nm_int (by omega)), trivial⟩ ⟨rfl, trivial⟩⟩
   ·refine awp_skip ?_
    exact ⟨_, ⟨((digs m).getD i 0) - ((digs n).getD i 0) - c, 0, (by omega), (by omega), (by omega), trivial, rfl⟩, Wk.sub ⟨rfl, rfl, rfl, (by first | rfl | exact nm_int (by omega)), rfl, (by first | rfl | exact nm_int (by omega)), trivial⟩ ⟨rfl, trivial⟩⟩
  rintro _ ⟨x, c', hs, hx, hc', -, rfl⟩
  refine awp_region rfl (o_mv (.row 3) rfl (o_mv (Nv x) rfl ?_))
  refine o_buildSlice 201 (ns .i64 ([x])) [(0, [Nv x])] gn f10_ rfl f26_ rfl rfl rfl rfl rfl rfl rfl ?_
  refine n_append 202 r ([x]) [(201, .row 3 1 (ns .i64 ([x])))] gn f10_ f26_ rfl rfl rfl rfl rfl (by simp only [List.length_append, List.length_cons, List.length_nil]; omega) (by decide) rfl rfl ?_
  refine o_as (.row 202) rfl (aops_end (hK7 _ (awp_region rfl (o_mv (Nv i) rfl ?_))))
  refine n_add i 1 gn rfl rfl (by simp only [topOf]; omega) ?_
  refine o_as (Nv (i + 1)) rfl (aops_end ?_)
  refine ⟨_, _, ?lt, ⟨i + 1, r ++ ([x]), c', (by simp [hl]), (by omega), hd.snoc hx, hc', sub_step hl hv hs, rfl, rfl⟩, ?wk⟩
  case lt => omega
  case wk => exact Wk.trans (Wk.sub (σ' := ⟨[(0, .sl 1 (ns .i64 (digs m))), (1, .sl 1 (ns .i64 (digs n))), (5, .row 202), (6, Nv c'), (7, Nv (i + 1))], [(202, .row 3 1 (ns .i64 (r ++ ([x]))))]⟩) ⟨rfl, rfl, rfl, rfl, rfl, trivial⟩ ⟨rfl, trivial⟩) (Wk.trans (Wk.ren (id := 202) (id' := 3) rfl) (Wk.sub ⟨rfl, rfl, (by first | rfl | simp), (by first | rfl | exact nm_int (by omega)), (by first | rfl | exact nm_int (by omega)), trivial⟩ ⟨(by first | rfl | exact row_ns (by simp)), trivial⟩))
 ·refine awp_exit ?_
  refine hK3 _ (awp_seq fun K12 hK12 => awp_region rfl (o_mv (.row 3) rfl (o_as (.row 3) rfl (aops_end (hK12 _ ?_)))))
  refine awp_wk (σ' := ⟨[(4, .row 3)], [(3, .row 3 1 (ns .i64 r))]⟩) (Wk.sub ⟨rfl, trivial⟩ ⟨rfl, trivial⟩) ?_
  refine awp_wk (σ' := ⟨[(4, .sl 1 (ns .i64 r))], []⟩) (Wk.freeze (id := 3) (e := 3) (sz := 1) (cs := (ns .i64 r)) rfl) ?_
  refine awp_ret ?_
  refine post_ret ⟨[.sl 1 (ns .i64 r)], ⟨AV.le_refl _, trivial⟩, rfl, ?_⟩
  have hil : i = (digs m).length := by omega
  subst hil
  exact ns_congr (less_fin hl hd hnm hv).symm

theorem c_wPlus (m n : Nat) (hm : (digs m).length ≤ 1000000000) (hn : (digs n).length ≤ 1000000000) : ECalls cx 110 [.sl 1 (ns .u32 (digs m)), .sl 1 (ns .u32 (digs n))] (.sl 1 (ns .u32 (dgn (max (digs m).length (digs n).length + 1) (m + n)))) := by
 refine ecalls_of_awp Tryz.func110 (c := _) rfl (Nat.le_of_ble_eq_true rfl) ?_
 show awp cx 53 _ (postF cx Tryz.f110 _) ⟨[(0, .sl 1 (ns .u32 (digs m))), (1, .sl 1 (ns .u32 (digs n)))], []⟩
 refine awp_bound (i := 0) rfl fun hb => ?_
 replace hb := n_bnd hb
 refine awp_bound (i := 1) rfl fun hb2 => ?_
 replace hb2 := n_bnd hb2
 refine awp_seq fun K0 hK0 => awp_region rfl (o_as Zv rfl (aops_end (hK0 _ ?_)))
 refine awp_seqJ (J := fun σ => ∃ (m' : Nat), ∃ (n' : Nat), (m' + n' = m + n) ∧ ((digs n').length ≤ (digs m').length) ∧ ((digs m').length = max (digs m).length (digs n).length) ∧ True ∧ σ = ⟨[(0, .sl 1 (ns .u32 (digs m'))), (1, .sl 1 (ns .u32 (digs n')))], []⟩) ?ja0 ?jb0
 case ja0 =>
  refine awp_seq fun K1 hK1 => awp_region rfl (o_mv (.sl 1 (ns .u32 (digs m))) rfl ?_)
  refine n_len (digs m) gn f7_ rfl ?_
  refine o_mv (.sl 1 (ns .u32 (digs n))) rfl ?_
  refine n_len (digs n) gn f7_ rfl ?_
  refine n_lss ((digs m).length) ((digs n).length) gn rfl rfl ?_
  refine aops_end (hK1 _ ?_)
  refine awp_condQ (q := ((digs m).length) < ((digs n).length)) rfl (fun h1 => ?_) (fun h1 => ?_)
  ·refine awp_region rfl (o_mv (.sl 1 (ns .u32 (digs n))) rfl (o_mv (.sl 1 (ns .u32 (digs m))) rfl (o_as (.sl 1 (ns .u32 (digs n))) rfl (o_as (.sl 1 (ns .u32 (digs m))) rfl (aops_end ?_)))))
   exact ⟨_, ⟨n, m, (by omega), (by omega), (by omega), trivial, rfl⟩, Wk.sub ⟨(by first | rfl | simp), (by first | rfl | simp), trivial⟩ trivial⟩
  ·refine awp_skip ?_
   exact ⟨_, ⟨m, n, (by omega), (by omega), (by omega), trivial, rfl⟩, Wk.sub ⟨(by first | rfl | simp), (by first | rfl | simp), trivial⟩ trivial⟩
 rintro _ ⟨m', n', hs, hle, hmx, -, rfl⟩
 refine awp_seq fun K2 hK2 => awp_region rfl (o_mv (.sl 1 (ns .u32 (digs m'))) rfl ?_)
 refine n_len (digs m') gn f7_ rfl ?_
 refine n_add ((digs m').length) 1 gn rfl rfl (by simp only [topOf]; omega) ?_
 refine n_make0 .u32 101 (((digs m').length) + 1) gn f16_ f27_ rfl rfl (by omega) (by omega) rfl ?_
 refine o_as (.row 101) rfl (aops_end (hK2 _ (awp_seq fun K3 hK3 => awp_region rfl (o_as (nm .u32 0) rfl (aops_end (hK3 _ (awp_seq fun K4 hK4 => awp_seq fun K5 hK5 => awp_region rfl (o_mv (.sl 1 (ns .u32 (digs m'))) rfl ?_))))))))
 refine n_len (digs m') gn f7_ rfl ?_
 refine o_mv (Nv 0) rfl (aops_end (hK5 _ ?_))
 refine awp_block ?_
 refine awp_loopR (fun κ σ => ∃ (i : Nat), ∃ (r : List Nat), ∃ (c : Nat), (r.length = i) ∧ (i ≤ (digs m').length) ∧ (Dig r) ∧ (c ≤ 1) ∧ (val r + 1000000000 ^ i * c = val ((digs m').take i) + val ((digs n').take i)) ∧ ((digs m').length - i) = κ ∧ σ = ⟨[(0, .sl 1 (ns .u32 (digs m'))), (1, .sl 1 (ns .u32 (digs n'))), (5, .row 3), (6, nm .u32 c), (21, Nv ((digs m').length)), (22, Nv i)], [(3, .row 145 1 (ns .u32 r))]⟩) ⟨_, _, ⟨0, [], 0, rfl, (by omega), Dig.nil, (by omega), (by simp [val]), rfl, rfl⟩, ?wk1⟩ ?rd1
 case wk1 =>
  exact Wk.trans (Wk.sub (σ' := ⟨[(0, .sl 1 (ns .u32 (digs m'))), (1, .sl 1 (ns .u32 (digs n'))), (5, .row 101), (6, nm .u32 0), (21, Nv ((digs m').length)), (22, Nv 0)], [(101, .row 145 1 (ns .u32 ([])))]⟩) ⟨rfl, rfl, rfl, rfl, rfl, rfl, trivial⟩ ⟨rfl, trivial⟩) (Wk.trans (Wk.ren (id := 101) (id' := 3) rfl) (Wk.sub ⟨rfl, rfl, (by first | rfl | simp), (by first | rfl | exact nm_int (by omega)), rfl, (by first | rfl | exact nm_int (by omega)), trivial⟩ ⟨(by first | rfl | exact row_ns (by simp)), trivial⟩))
 rintro κ _ ⟨i, r, c, hl, hi, hd, hc, hv, rfl, rfl⟩
 have hA := Dig.getD (digs_dig m') i
 have hB := Dig.getD (digs_dig n') i
 refine awp_seq fun K6 hK6 => awp_region rfl ?_
 refine n_lss i ((digs m').length) gn rfl rfl ?_
 refine aops_end (hK6 _ (awp_seq fun K7 hK7 => ?_))
 refine awp_condQ (q := i < ((digs m').length)) rfl (fun h2 => ?_) (fun h2 => ?_)
 ·refine awp_skip (hK7 _ (awp_seq fun K8 hK8 => ?_))
  refine awp_block ?_
  refine awp_seq fun K9 hK9 => awp_region rfl (o_mv (Nv i) rfl (o_as (Nv i) rfl (aops_end (hK9 _ (awp_seq fun K10 hK10 => awp_region rfl (o_mv (.sl 1 (ns .u32 (digs m'))) rfl (o_mv (Nv i) rfl ?_)))))))
  refine n_index (digs m') i gn f16_ rfl rfl (by omega) ?_
  refine n_loadI (digs m') i gn f17_ rfl (by omega) ?_
  refine o_mv (nm .u32 c) rfl ?_
  refine n_add ((digs m').getD i 0) c gn rfl rfl (by simp only [topOf]; omega) ?_
  refine o_as (nm .u32 (((digs m').getD i 0) + c)) rfl (aops_end (hK10 _ (awp_seq fun K11 hK11 => awp_seq fun K12 hK12 => awp_region rfl (o_mv (Nv i) rfl (o_mv (.sl 1 (ns .u32 (digs n'))) rfl ?_)))))
  refine n_len (digs n') gn f7_ rfl ?_
  refine n_lss i ((digs n').length) gn rfl rfl ?_
  refine aops_end (hK12 _ ?_)
  refine awp_condQ (q := i < ((digs n').length)) rfl (fun h3 => ?_) (fun h3 => ?_)
  ·refine awp_region rfl (o_mv (nm .u32 (((digs m').getD i 0) + c)) rfl (o_mv (.sl 1 (ns .u32 (digs n'))) rfl (o_mv (Nv i) rfl ?_)))
   refine n_index (digs n') i gn f16_ rfl rfl (by omega) ?_
   refine n_loadI (digs n') i gn f17_ rfl (by omega) ?_
   refine n_add (((digs m').getD i 0) + c) ((digs n').getD i 0) gn rfl rfl (by simp only [topOf]; omega) ?_
   refine o_as (nm .u32 ((((digs m').getD i 0) + c) + ((digs n').getD i 0))) rfl (aops_end (hK11 _ (awp_seq fun K13 hK13 => awp_region rfl (o_mv (nm .u32 ((((digs m').getD i 0) + c) + ((digs n').getD i 0))) rfl ?_))))
   refine n_quo ((((digs m').getD i 0) + c) + ((digs n').getD i 0)) 1000000000 gn rfl rfl (by omega) (by simp only [topOf]; omega) ?_
   refine o_as (nm .u32 (((((digs m').getD i 0) + c) + ((digs n').getD i 0)) / 1000000000)) rfl (aops_end (hK13 _ (awp_region rfl (o_mv (.row 3) rfl (o_mv (nm .u32 ((((digs m').getD i 0) + c) + ((digs n').getD i 0))) rfl ?_)))))
   refine n_rem ((((digs m').getD i 0) + c) + ((digs n').getD i 0)) 1000000000 gn rfl rfl (by omega) ?_
   refine o_buildSlice 201 (ns .u32 ([((((digs m').getD i 0) + c) + ((digs n').getD i 0)) % 1000000000])) [(0, [nm .u32 (((((digs m').getD i 0) + c) + ((digs n').getD i 0)) % 1000000000)])] gn f16_ rfl f27_ rfl rfl rfl rfl rfl rfl rfl ?_
   refine n_append 202 r ([((((digs m').getD i 0) + c) + ((digs n').getD i 0)) % 1000000000]) [(201, .row 145 1 (ns .u32 ([((((digs m').getD i 0) + c) + ((digs n').getD i 0)) % 1000000000])))] gn f16_ f27_ rfl rfl rfl rfl rfl (by simp only [List.length_append, List.length_cons, List.length_nil]; omega) (by decide) rfl rfl ?_
   refine o_as (.row 202) rfl (aops_end (hK8 _ (awp_region rfl ?_)))
   refine n_add i 1 gn rfl rfl (by simp only [topOf]; omega) ?_
   refine o_mv (Nv (i + 1)) rfl (aops_end ?_)
   refine ⟨_, _, ?lt, ⟨i + 1, r ++ ([((((digs m').getD i 0) + c) + ((digs n').getD i 0)) % 1000000000]), ((((digs m').getD i 0) + c) + ((digs n').getD i 0)) / 1000000000, (by simp [hl]), (by omega), (hd.snoc (Nat.mod_lt _ (by decide))), (by omega), (add_step hl hv (by omega)), rfl, rfl⟩, ?wk⟩
   case lt => omega
   case wk => exact Wk.trans (Wk.sub (σ' := ⟨[(0, .sl 1 (ns .u32 (digs m'))), (1, .sl 1 (ns .u32 (digs n'))), (5, .row 202), (6, nm .u32 (((((digs m').getD i 0) + c) + ((digs n').getD i 0)) / 1000000000)), (21, Nv ((digs m').length)), (22, Nv (i + 1))], [(202, .row 145 1 (ns .u32 (r ++ ([((((digs m').getD i 0) + c) + ((digs n').getD i 0)) % 1000000000]))))]⟩) ⟨rfl, rfl, rfl, rfl, rfl, rfl, trivial⟩ ⟨rfl, trivial⟩) (Wk.trans (Wk.ren (id := 202) (id' := 3) rfl) (Wk.sub ⟨rfl, rfl, (by first | rfl | simp), (by first | rfl | exact nm_int (by omega)), rfl, (by first | rfl | exact nm_int (by omega)), trivial⟩ ⟨(by first | rfl | exact row_ns (by simp)), trivial⟩))
  ·refine awp_skip (hK11 _ (awp_seq fun K14 hK14 => awp_region rfl (o_mv (nm .u32 (((digs m').getD i 0) + c)) rfl ?_)))
   refine n_quo (((digs m').getD i 0) + c) 1000000000 gn rfl rfl (by omega) (by simp only [topOf]; omega) ?_
   refine o_as (nm .u32 ((((digs m').getD i 0) + c) / 1000000000)) rfl (aops_end (hK14 _ (awp_region rfl (o_mv (.row 3) rfl (o_mv (nm .u32 (((digs m').getD i 0) + c)) rfl ?_)))))
   refine n_rem (((digs m').getD i 0) + c) 1000000000 gn rfl rfl (by omega) ?_
   refine o_buildSlice 201 (ns .u32 ([(((digs m').getD i 0) + c) % 1000000000])) [(0, [nm .u32 ((((digs m').getD i 0) + c) % 1000000000)])] gn f16_ rfl f27_ rfl rfl rfl rfl rfl rfl rfl ?_
   refine n_append 202 r ([(((digs m').getD i 0) + c) % 1000000000]) [(201, .row 145 1 (ns .u32 ([(((digs m').getD i 0) + c) % 1000000000])))] gn f16_ f27_ rfl rfl rfl rfl rfl (by simp only [List.length_append, List.length_cons, List.length_nil]; omega) (by decide) rfl rfl ?_
   refine o_as (.row 202) rfl (aops_end (hK8 _ (awp_region rfl ?_)))
   refine n_add i 1 gn rfl rfl (by simp only [topOf]; omega) ?_
   refine o_mv (Nv (i + 1)) rfl (aops_end ?_)
   refine ⟨_, _, ?lt, ⟨i + 1, r ++ ([(((digs m').getD i 0) + c) % 1000000000]), (((digs m').getD i 0) + c) / 1000000000, (by simp [hl]), (by omega), (hd.snoc (Nat.mod_lt _ (by decide))), (by omega), (add_step hl hv (by rw [getD_ge (xs := digs n') (by omega)]; omega)), rfl, rfl⟩, ?wk⟩
   case lt => omega
   case wk => exact Wk.trans (Wk.sub (σ' := ⟨[(0, .sl 1 (ns .u32 (digs m'))), (1, .sl 1 (ns .u32 (digs n'))), (5, .row 202), (6, nm .u32 ((((digs m').getD i 0) + c) / 1000000000)), (21, Nv ((digs m').length)), (22, Nv (i + 1))], [(202, .row 145 1 (ns .u32 (r ++ ([(((digs m').getD i 0) + c) % 1000000000]))))]⟩) ⟨rfl, rfl, rfl, rfl, rfl, rfl, trivial⟩ ⟨rfl, trivial⟩) (Wk.trans (Wk.ren (id := 202) (id' := 3) rfl) (Wk.sub ⟨rfl, rfl, (by first | rfl | simp), (by first | rfl | exact nm_int (by omega)), rfl, (by first | rfl | exact nm_int (by omega)), trivial⟩ ⟨(by first | rfl | exact row_ns (by simp)), trivial⟩))
 ·refine awp_exit ?_
  refine hK4 _ (awp_seq fun K15 hK15 => awp_region rfl (o_mv (.row 3) rfl (o_mv (nm .u32 c) rfl ?_)))
  refine o_buildSlice 201 (ns .u32 ([c])) [(0, [nm .u32 c])] gn f16_ rfl f27_ rfl rfl rfl rfl rfl rfl rfl ?_
  refine n_append 202 r ([c]) [(201, .row 145 1 (ns .u32 ([c])))] gn f16_ f27_ rfl rfl rfl rfl rfl (by simp only [List.length_append, List.length_cons, List.length_nil]; omega) (by decide) rfl rfl ?_
  refine o_as (.row 202) rfl (aops_end (hK15 _ ?_))
  refine awp_wk (σ' := ⟨[(4, .row 202)], [(202, .row 145 1 (ns .u32 (r ++ ([c]))))]⟩) (Wk.sub ⟨rfl, trivial⟩ ⟨rfl, trivial⟩) ?_
  refine awp_wk (σ' := ⟨[(4, .sl 1 (ns .u32 (r ++ ([c]))))], []⟩) (Wk.freeze (id := 202) (e := 145) (sz := 1) (cs := (ns .u32 (r ++ ([c])))) rfl) ?_
  refine awp_ret ?_
  refine post_ret ⟨[.sl 1 (ns .u32 (r ++ ([c])))], ⟨AV.le_refl _, trivial⟩, rfl, ?_⟩
  have hil : i = (digs m').length := by omega
  subst hil
  rw [val_take_all (xs := digs m') (Nat.le_refl _), val_take_all (xs := digs n') hle, val_digs, val_digs] at hv
  exact ns_congr (dgn_eq (hd.snoc (by omega)) (by simp; omega) (by rw [val_snoc, hl]; omega)).symm

theorem c_wLess (m n : Nat) (hnm : n ≤ m) (hm : (digs m).length ≤ 1000000000) (hn : (digs n).length ≤ 1000000000) : ECalls cx 111 [.sl 1 (ns .u32 (digs m)), .sl 1 (ns .u32 (digs n))] (.sl 1 (ns .u32 (dgn (digs m).length (m - n)))) := by
 refine ecalls_of_awp Tryz.func111 (c := _) rfl (Nat.le_of_ble_eq_true rfl) ?_
 show awp cx 46 _ (postF cx Tryz.f111 _) ⟨[(0, .sl 1 (ns .u32 (digs m))), (1, .sl 1 (ns .u32 (digs n)))], []⟩
 refine awp_bound (i := 0) rfl fun hb => ?_
 replace hb := n_bnd hb
 refine awp_bound (i := 1) rfl fun hb2 => ?_
 replace hb2 := n_bnd hb2
 refine awp_seq fun K0 hK0 => awp_region rfl (o_as Zv rfl (aops_end (hK0 _ (awp_seq fun K1 hK1 => awp_region rfl (o_mv (.sl 1 (ns .u32 (digs m))) rfl ?_)))))
 refine n_len (digs m) gn f7_ rfl ?_
 refine n_make0 .u32 2 ((digs m).length) gn f16_ f27_ rfl rfl (by omega) (by omega) rfl ?_
 refine o_as (.row 2) rfl (aops_end (hK1 _ (awp_seq fun K2 hK2 => awp_region rfl (o_as (Nv 0) rfl (aops_end (hK2 _ (awp_seq fun K3 hK3 => awp_seq fun K4 hK4 => awp_region rfl (o_mv (.sl 1 (ns .u32 (digs m))) rfl ?_))))))))
 refine n_len (digs m) gn f7_ rfl ?_
 refine o_mv (Nv 0) rfl (aops_end (hK4 _ ?_))
 refine awp_block ?_
 refine awp_loopR (fun κ σ => ∃ (i : Nat), ∃ (r : List Nat), ∃ (c : Nat), (r.length = i) ∧ (i ≤ (digs m).length) ∧ (Dig r) ∧ (c ≤ 1) ∧ (val r + val ((digs n).take i) = val ((digs m).take i) + 1000000000 ^ i * c) ∧ ((digs m).length - i) = κ ∧ σ = ⟨[(0, .sl 1 (ns .u32 (digs m))), (1, .sl 1 (ns .u32 (digs n))), (5, .row 3), (6, Nv c), (13, Nv ((digs m).length)), (14, Nv i)], [(3, .row 145 1 (ns .u32 r))]⟩) ⟨_, _, ⟨0, [], 0, rfl, (by omega), Dig.nil, (by omega), (by simp [val]), rfl, rfl⟩, ?wk0⟩ ?rd0
 case wk0 =>
  exact Wk.trans (Wk.sub (σ' := ⟨[(0, .sl 1 (ns .u32 (digs m))), (1, .sl 1 (ns .u32 (digs n))), (5, .row 2), (6, Nv 0), (13, Nv ((digs m).length)), (14, Nv 0)], [(2, .row 145 1 (ns .u32 ([])))]⟩) ⟨rfl, rfl, rfl, rfl, rfl, rfl, trivial⟩ ⟨rfl, trivial⟩) (Wk.trans (Wk.ren (id := 2) (id' := 3) rfl) (Wk.sub ⟨rfl, rfl, (by first | rfl | simp), (by first | rfl | exact nm_int (by omega)), rfl, (by first | rfl | exact nm_int (by omega)), trivial⟩ ⟨(by first | rfl | exact row_ns (by simp)), trivial⟩))
 rintro κ _ ⟨i, r, c, hl, hi, hd, hc, hv, rfl, rfl⟩
 have hA := Dig.getD (digs_dig m) i
 have hB := Dig.getD (digs_dig n) i
 refine awp_seq fun K5 hK5 => awp_region rfl ?_
 refine n_lss i ((digs m).length) gn rfl rfl ?_
 refine aops_end (hK5 _ (awp_seq fun K6 hK6 => ?_))
 refine awp_condQ (q := i < ((digs m).length)) rfl (fun h1 => ?_) (fun h1 => ?_)
 ·refine awp_skip (hK6 _ (awp_seq fun K7 hK7 => ?_))
  refine awp_block ?_
  refine awp_seq fun K8 hK8 => awp_region rfl (o_mv (Nv i) rfl (o_as (Nv i) rfl (aops_end (hK8 _ (awp_seq fun K9 hK9 => awp_region rfl (o_mv (.sl 1 (ns .u32 (digs m))) rfl (o_mv (Nv i) rfl ?_)))))))
  refine n_index (digs m) i gn f16_ rfl rfl (by omega) ?_
  refine n_loadI (digs m) i gn f17_ rfl (by omega) ?_
  refine n_conv ((digs m).getD i 0) gn rfl f28_ f29_ (by simp only [topOf]; omega) ?_
  refine o_mv (Nv c) rfl ?_
  refine o_sub (a := (((digs m).getD i 0 : Nat) : Int)) (c := ((c : Nat) : Int)) gn rfl rfl (by exact wrap64 (by omega) (by omega)) ?_
  refine o_as (Iv ((((digs m).getD i 0 : Nat) : Int) - ((c : Nat) : Int))) rfl (aops_end (hK9 _ ?_))
  refine awp_seqJ (J := fun σ => ∃ (y : Int), (y = (((digs m).getD i 0) : Int) - c - ((digs n).getD i 0)) ∧ True ∧ σ = ⟨[(0, .sl 1 (ns .u32 (digs m))), (1, .sl 1 (ns .u32 (digs n))), (5, .row 3), (7, Nv i), (8, Iv y), (13, Nv ((digs m).length)), (14, Nv i)], [(3, .row 145 1 (ns .u32 r))]⟩) ?ja1 ?jb1
  case ja1 =>
   refine awp_seq fun K10 hK10 => awp_region rfl (o_mv (Nv i) rfl (o_mv (.sl 1 (ns .u32 (digs n))) rfl ?_))
   refine n_len (digs n) gn f7_ rfl ?_
   refine n_lss i ((digs n).length) gn rfl rfl ?_
   refine aops_end (hK10 _ ?_)
   refine awp_condQ (q := i < ((digs n).length)) rfl (fun h2 => ?_) (fun h2 => ?_)
   ·refine awp_region rfl (o_mv (Iv ((((digs m).getD i 0 : Nat) : Int) - ((c : Nat) : Int))) rfl (o_mv (.sl 1 (ns .u32 (digs n))) rfl (o_mv (Nv i) rfl ?_)))
    refine n_index (digs n) i gn f16_ rfl rfl (by omega) ?_
    refine n_loadI (digs n) i gn f17_ rfl (by omega) ?_
    refine n_conv ((digs n).getD i 0) gn rfl f28_ f29_ (by simp only [topOf]; omega) ?_
    refine o_sub (a := ((((digs m).getD i 0 : Nat) : Int) - ((c : Nat) : Int))) (c := (((digs n).getD i 0 : Nat) : Int)) gn rfl rfl (by exact wrap64 (by omega) (by omega)) ?_
    refine o_as (Iv (((((digs m).getD i 0 : Nat) : Int) - ((c : Nat) : Int)) - (((digs n).getD i 0 : Nat) : Int))) rfl (aops_end ?_)
    exact ⟨_, ⟨((((digs m).getD i 0 : Nat) : Int) - ((c : Nat) : Int)) - (((digs n).getD i 0 : Nat) : Int), (by omega), trivial, rfl⟩, Wk.sub ⟨rfl, rfl, rfl, rfl, (by first | rfl | exact int_eq (by omega) | exact int_nm (by omega)), rfl, rfl, trivial⟩ ⟨rfl, trivial⟩⟩
   ·refine awp_skip ?_
    exact ⟨_, ⟨(((digs m).getD i 0 : Nat) : Int) - ((c : Nat) : Int), (by rw [getD_ge (xs := digs n) (by omega)]; omega), trivial, rfl⟩, Wk.sub ⟨rfl, rfl, rfl, rfl, (by first | rfl | exact int_eq (by omega) | exact int_nm (by omega)), rfl, rfl, trivial⟩ ⟨rfl, trivial⟩⟩
  rintro _ ⟨y, hy, -, rfl⟩
  refine awp_seq fun K11 hK11 => awp_region rfl (o_as (Nv 0) rfl (aops_end (hK11 _ ?_)))
  refine awp_seqJ (J := fun σ => ∃ (x : Nat), ∃ (c' : Nat), (x + ((digs n).getD i 0) + c = ((digs m).getD i 0) + 1000000000 * c') ∧ (x < 1000000000) ∧ (c' ≤ 1) ∧ True ∧ σ = ⟨[(0, .sl 1 (ns .u32 (digs m))), (1, .sl 1 (ns .u32 (digs n))), (5, .row 3), (6, Nv c'), (8, Nv x), (13, Nv ((digs m).length)), (14, Nv i)], [(3, .row 145 1 (ns .u32 r))]⟩) ?ja2 ?jb2
  case ja2 =>
   refine awp_seq fun K12 hK12 => awp_region rfl (o_mv (Iv y) rfl ?_)
   refine o_lss (a := y) (c := ((0 : Nat) : Int)) gn rfl rfl ?_
   refine aops_end (hK12 _ ?_)
   refine awp_condQ (q := y < ((0 : Nat) : Int)) rfl (fun h3 => ?_) (fun h3 => ?_)
   ·refine awp_seq fun K13 hK13 => awp_region rfl (o_mv (Iv y) rfl ?_)
    refine o_add (a := y) (c := ((1000000000 : Nat) : Int)) gn rfl rfl (by exact wrap64 (by omega) (by omega)) ?_
    refine o_as (Iv (y + ((1000000000 : Nat) : Int))) rfl (aops_end (hK13 _ (awp_region rfl (o_as (Nv 1) rfl (aops_end ?_)))))
    exact ⟨_, ⟨((digs m).getD i 0) + 1000000000 - ((digs n).getD i 0) - c, 1, (by omega), (by omega), (by omega), trivial, rfl⟩, Wk.sub ⟨rfl, rfl, rfl, (by first | rfl | exact nm_int (by omega)), (by first | rfl | exact nm_int (by omega)), rfl, rfl, trivial⟩ ⟨rfl, trivial⟩⟩
   ·refine awp_skip ?_
    exact ⟨_, ⟨((digs m).getD i 0) - ((digs n).getD i 0) - c, 0, (by omega), (by omega), (by omega), trivial, rfl⟩, Wk.sub ⟨rfl, rfl, rfl, (by first | rfl | exact nm_int (by omega)), (by first | rfl | exact nm_int (by omega)), rfl, rfl, trivial⟩ ⟨rfl, trivial⟩⟩
  rintro _ ⟨x, c', hs, hx, hc', -, rfl⟩
  refine awp_region rfl (o_mv (.row 3) rfl (o_mv (Nv x) rfl ?_))
  refine n_conv x gn rfl f29_ f28_ (by simp only [topOf]; omega) ?_
  refine o_buildSlice 301 (ns .u32 ([x])) [(0, [nm .u32 x])] gn f16_ rfl f27_ rfl rfl rfl rfl rfl rfl rfl ?_
  refine n_append 302 r ([x]) [(301, .row 145 1 (ns .u32 ([x])))] gn f16_ f27_ rfl rfl rfl rfl rfl (by simp only [List.length_append, List.length_cons, List.length_nil]; omega) (by decide) rfl rfl ?_
  refine o_as (.row 302) rfl (aops_end (hK7 _ (awp_region rfl ?_)))
  refine n_add i 1 gn rfl rfl (by simp only [topOf]; omega) ?_
  refine o_mv (Nv (i + 1)) rfl (aops_end ?_)
  refine ⟨_, _, ?lt, ⟨i + 1, r ++ ([x]), c', (by simp [hl]), (by omega), hd.snoc hx, hc', sub_step hl hv hs, rfl, rfl⟩, ?wk⟩
  case lt => omega
  case wk => exact Wk.trans (Wk.sub (σ' := ⟨[(0, .sl 1 (ns .u32 (digs m))), (1, .sl 1 (ns .u32 (digs n))), (5, .row 302), (6, Nv c'), (13, Nv ((digs m).length)), (14, Nv (i + 1))], [(302, .row 145 1 (ns .u32 (r ++ ([x]))))]⟩) ⟨rfl, rfl, rfl, rfl, rfl, rfl, trivial⟩ ⟨rfl, trivial⟩) (Wk.trans (Wk.ren (id := 302) (id' := 3) rfl) (Wk.sub ⟨rfl, rfl, (by first | rfl | simp), (by first | rfl | exact nm_int (by omega)), rfl, (by first | rfl | exact nm_int (by omega)), trivial⟩ ⟨(by first | rfl | exact row_ns (by simp)), trivial⟩))
 ·refine awp_exit ?_
  refine hK3 _ (awp_seq fun K14 hK14 => awp_region rfl (o_mv (.row 3) rfl (o_as (.row 3) rfl (aops_end (hK14 _ ?_)))))
  refine awp_wk (σ' := ⟨[(4, .row 3)], [(3, .row 145 1 (ns .u32 r))]⟩) (Wk.sub ⟨rfl, trivial⟩ ⟨rfl, trivial⟩) ?_
  refine awp_wk (σ' := ⟨[(4, .sl 1 (ns .u32 r))], []⟩) (Wk.freeze (id := 3) (e := 145) (sz := 1) (cs := (ns .u32 r)) rfl) ?_
  refine awp_ret ?_
  refine post_ret ⟨[.sl 1 (ns .u32 r)], ⟨AV.le_refl _, trivial⟩, rfl, ?_⟩
  have hil : i = (digs m).length := by omega
  subst hil
  exact ns_congr (less_fin hl hd hnm hv).symm

theorem c_rAdd (x y : Int) (hx : (digs x.natAbs).length ≤ 1000000000) (hy : (digs y.natAbs).length ≤ 1000000000) : ECalls cx 71 [intR x, intR y] (intR (x + y)) := by
 refine ecalls_of_awp Tryz.func71 (c := _) rfl (Nat.le_of_ble_eq_true rfl) ?_
 show awp cx 40 _ (postF cx Tryz.f71 _) ⟨[(0, intR x), (1, intR y)], []⟩
 refine awp_seq fun K0 hK0 => awp_region rfl ?_
 refine o_box 2 [bp (x < 0), .sl 1 (ns .i64 (digs x.natAbs))] gn rfl rfl ?_
 refine o_box 3 [bp (y < 0), .sl 1 (ns .i64 (digs y.natAbs))] gn rfl rfl ?_
 refine o_alloc 4 [Fv, Zv] gn f9_ rfl rfl rfl ?_
 refine aops_end (hK0 _ (awp_seq fun K1 hK1 => awp_seq fun K2 hK2 => awp_region rfl ?_))
 refine o_fieldRef 0 gn f3_ rfl rfl ?_
 refine o_loadS (bp (x < 0)) gn f4_ rfl rfl rfl ?_
 refine o_fieldRef 0 gn f3_ rfl rfl ?_
 refine o_loadS (bp (y < 0)) gn f4_ rfl rfl rfl ?_
 refine o_eqlB (a := (decide (x < 0))) (c := (decide (y < 0))) gn rfl rfl f30_ ?_
 refine aops_end (hK2 _ ?_)
 refine awp_condQ (q := (decide (x < 0)) = (decide (y < 0))) rfl (fun h1 => ?_) (fun h1 => ?_)
 ·refine awp_seq fun K3 hK3 => awp_regionD rfl ?_
  refine o_fieldRef 0 gn f3_ rfl rfl ?_
  refine o_loadS (bp (x < 0)) gn f4_ rfl rfl rfl ?_
  refine o_fieldRef 1 gn f0_ rfl rfl ?_
  refine o_loadS (.sl 1 (ns .i64 (digs x.natAbs))) gn f1_ rfl rfl rfl ?_
  refine o_fieldRef 1 gn f0_ rfl rfl ?_
  refine o_loadS (.sl 1 (ns .i64 (digs y.natAbs))) gn f1_ rfl rfl rfl ?_
  refine o_ct (c_rMore (x.natAbs) (y.natAbs) (by omega) (by omega)) gn f31_ rfl ?_
  refine o_ct (c_rTrim (decide (x < 0)) (dgn (moreN (x.natAbs) (y.natAbs)) (x.natAbs + y.natAbs)) (by first | assumption | exact dgn_dig _ _ | exact digs_dig _ | exact Dig.snoc (by assumption) (by assumption) | exact Dig.cons (by omega) (digs_dig _))) gn f32_ rfl ?_
  refine o_store [(4, oZ 42 .i64 (sg (decide (x < 0)) (val (dgn (moreN (x.natAbs) (y.natAbs)) (x.natAbs + y.natAbs))))), (3, oZ 42 .i64 y), (2, oZ 42 .i64 x)] gn f13_ rfl rfl rfl rfl rfl rfl ?_
  refine aops_end ⟨by kernel_rfl, ?_⟩
  refine hK3 _ ?_
  refine awp_ret ?_
  refine post_ret ⟨[intR (sg (decide (x < 0)) (val (dgn (moreN (x.natAbs) (y.natAbs)) (x.natAbs + y.natAbs))))], ⟨⟨4, oZ 42 .i64 (sg (decide (x < 0)) (val (dgn (moreN (x.natAbs) (y.natAbs)) (x.natAbs + y.natAbs)))), rfl, rfl, rfl, Or.inl ⟨f14_, AV.le_refl _⟩⟩, trivial⟩, rfl, ?_⟩
  refine congrArg (intK .i64) ?_
  rw [val_more]
  exact sg_add h1
 ·refine awp_skip (hK1 _ (awp_seq fun K4 hK4 => awp_seq fun K5 hK5 => awp_region rfl ?_))
  refine o_fieldRef 1 gn f0_ rfl rfl ?_
  refine o_loadS (.sl 1 (ns .i64 (digs x.natAbs))) gn f1_ rfl rfl rfl ?_
  refine o_fieldRef 1 gn f0_ rfl rfl ?_
  refine o_loadS (.sl 1 (ns .i64 (digs y.natAbs))) gn f1_ rfl rfl rfl ?_
  refine o_ct (c_rSize (x.natAbs) (y.natAbs)) gn f22_ rfl ?_
  refine o_geq (a := (cmpN (x.natAbs) (y.natAbs))) (c := ((0 : Nat) : Int)) gn rfl rfl ?_
  refine aops_end (hK5 _ ?_)
  refine awp_condQ (q := ((0 : Nat) : Int) ≤ (cmpN (x.natAbs) (y.natAbs))) rfl (fun h2 => ?_) (fun h2 => ?_)
  ·have hc := cmpN_ge h2
   refine awp_seq fun K6 hK6 => awp_regionD rfl ?_
   refine o_fieldRef 0 gn f3_ rfl rfl ?_
   refine o_loadS (bp (x < 0)) gn f4_ rfl rfl rfl ?_
   refine o_fieldRef 1 gn f0_ rfl rfl ?_
   refine o_loadS (.sl 1 (ns .i64 (digs x.natAbs))) gn f1_ rfl rfl rfl ?_
   refine o_fieldRef 1 gn f0_ rfl rfl ?_
   refine o_loadS (.sl 1 (ns .i64 (digs y.natAbs))) gn f1_ rfl rfl rfl ?_
   refine o_ct (c_rLess (x.natAbs) (y.natAbs) (by omega) (by omega) (by omega)) gn f33_ rfl ?_
   refine o_ct (c_rTrim (decide (x < 0)) (dgn (digs (x.natAbs)).length (x.natAbs - y.natAbs)) (by first | assumption | exact dgn_dig _ _ | exact digs_dig _ | exact Dig.snoc (by assumption) (by assumption) | exact Dig.cons (by omega) (digs_dig _))) gn f32_ rfl ?_
   refine o_store [(4, oZ 42 .i64 (sg (decide (x < 0)) (val (dgn (digs (x.natAbs)).length (x.natAbs - y.natAbs))))), (3, oZ 42 .i64 y), (2, oZ 42 .i64 x)] gn f13_ rfl rfl rfl rfl rfl rfl ?_
   refine aops_end ⟨by kernel_rfl, ?_⟩
   refine hK6 _ ?_
   refine awp_ret ?_
   refine post_ret ⟨[intR (sg (decide (x < 0)) (val (dgn (digs (x.natAbs)).length (x.natAbs - y.natAbs))))], ⟨⟨4, oZ 42 .i64 (sg (decide (x < 0)) (val (dgn (digs (x.natAbs)).length (x.natAbs - y.natAbs)))), rfl, rfl, rfl, Or.inl ⟨f14_, AV.le_refl _⟩⟩, trivial⟩, rfl, ?_⟩
   refine congrArg (intK .i64) ?_
   rw [val_minus]
   exact sg_sub1 h1 hc
  ·have hc := cmpN_ng h2
   refine awp_skip (hK4 _ (awp_seq fun K7 hK7 => awp_regionD rfl ?_))
   refine o_fieldRef 0 gn f3_ rfl rfl ?_
   refine o_loadS (bp (y < 0)) gn f4_ rfl rfl rfl ?_
   refine o_fieldRef 1 gn f0_ rfl rfl ?_
   refine o_loadS (.sl 1 (ns .i64 (digs y.natAbs))) gn f1_ rfl rfl rfl ?_
   refine o_fieldRef 1 gn f0_ rfl rfl ?_
   refine o_loadS (.sl 1 (ns .i64 (digs x.natAbs))) gn f1_ rfl rfl rfl ?_
   refine o_ct (c_rLess (y.natAbs) (x.natAbs) (by omega) (by omega) (by omega)) gn f33_ rfl ?_
   refine o_ct (c_rTrim (decide (y < 0)) (dgn (digs (y.natAbs)).length (y.natAbs - x.natAbs)) (by first | assumption | exact dgn_dig _ _ | exact digs_dig _ | exact Dig.snoc (by assumption) (by assumption) | exact Dig.cons (by omega) (digs_dig _))) gn f32_ rfl ?_
   refine o_store [(4, oZ 42 .i64 (sg (decide (y < 0)) (val (dgn (digs (y.natAbs)).length (y.natAbs - x.natAbs))))), (3, oZ 42 .i64 y), (2, oZ 42 .i64 x)] gn f13_ rfl rfl rfl rfl rfl rfl ?_
   refine aops_end ⟨by kernel_rfl, ?_⟩
   refine hK7 _ ?_
   refine awp_ret ?_
   refine post_ret ⟨[intR (sg (decide (y < 0)) (val (dgn (digs (y.natAbs)).length (y.natAbs - x.natAbs))))], ⟨⟨4, oZ 42 .i64 (sg (decide (y < 0)) (val (dgn (digs (y.natAbs)).length (y.natAbs - x.natAbs)))), rfl, rfl, rfl, Or.inl ⟨f14_, AV.le_refl _⟩⟩, trivial⟩, rfl, ?_⟩
   refine congrArg (intK .i64) ?_
   rw [val_minus]
   exact sg_sub2 h1 hc

theorem c_wAdd (x y : Int) (hx : (digs x.natAbs).length ≤ 1000000000) (hy : (digs y.natAbs).length ≤ 1000000000) : ECalls cx 82 [intW x, intW y] (intW (x + y)) := by
 refine ecalls_of_awp Tryz.func82 (c := _) rfl (Nat.le_of_ble_eq_true rfl) ?_
 show awp cx 40 _ (postF cx Tryz.f82 _) ⟨[(0, intW x), (1, intW y)], []⟩
 refine awp_seq fun K0 hK0 => awp_region rfl ?_
 refine o_box 2 [bp (x < 0), .sl 1 (ns .u32 (digs x.natAbs))] gn rfl rfl ?_
 refine o_box 3 [bp (y < 0), .sl 1 (ns .u32 (digs y.natAbs))] gn rfl rfl ?_
 refine o_alloc 4 [Fv, Zv] gn f15_ rfl rfl rfl ?_
 refine aops_end (hK0 _ (awp_seq fun K1 hK1 => awp_seq fun K2 hK2 => awp_region rfl ?_))
 refine o_fieldRef 0 gn f8_ rfl rfl ?_
 refine o_loadS (bp (x < 0)) gn f4_ rfl rfl rfl ?_
 refine o_fieldRef 0 gn f8_ rfl rfl ?_
 refine o_loadS (bp (y < 0)) gn f4_ rfl rfl rfl ?_
 refine o_eqlB (a := (decide (x < 0))) (c := (decide (y < 0))) gn rfl rfl f30_ ?_
 refine aops_end (hK2 _ ?_)
 refine awp_condQ (q := (decide (x < 0)) = (decide (y < 0))) rfl (fun h1 => ?_) (fun h1 => ?_)
 ·refine awp_seq fun K3 hK3 => awp_regionD rfl ?_
  refine o_fieldRef 0 gn f8_ rfl rfl ?_
  refine o_loadS (bp (x < 0)) gn f4_ rfl rfl rfl ?_
  refine o_fieldRef 1 gn f5_ rfl rfl ?_
  refine o_loadS (.sl 1 (ns .u32 (digs x.natAbs))) gn f6_ rfl rfl rfl ?_
  refine o_fieldRef 1 gn f5_ rfl rfl ?_
  refine o_loadS (.sl 1 (ns .u32 (digs y.natAbs))) gn f6_ rfl rfl rfl ?_
  refine o_ct (c_wPlus (x.natAbs) (y.natAbs) (by omega) (by omega)) gn f34_ rfl ?_
  refine o_ct (c_wTrim (decide (x < 0)) (dgn (max (digs (x.natAbs)).length (digs (y.natAbs)).length + 1) (x.natAbs + y.natAbs)) (by first | assumption | exact dgn_dig _ _ | exact digs_dig _ | exact Dig.snoc (by assumption) (by assumption) | exact Dig.cons (by omega) (digs_dig _))) gn f35_ rfl ?_
  refine o_store [(4, oZ 90 .u32 (sg (decide (x < 0)) (val (dgn (max (digs (x.natAbs)).length (digs (y.natAbs)).length + 1) (x.natAbs + y.natAbs))))), (3, oZ 90 .u32 y), (2, oZ 90 .u32 x)] gn f19_ rfl rfl rfl rfl rfl rfl ?_
  refine aops_end ⟨by kernel_rfl, ?_⟩
  refine hK3 _ ?_
  refine awp_ret ?_
  refine post_ret ⟨[intW (sg (decide (x < 0)) (val (dgn (max (digs (x.natAbs)).length (digs (y.natAbs)).length + 1) (x.natAbs + y.natAbs))))], ⟨⟨4, oZ 90 .u32 (sg (decide (x < 0)) (val (dgn (max (digs (x.natAbs)).length (digs (y.natAbs)).length + 1) (x.natAbs + y.natAbs)))), rfl, rfl, rfl, Or.inl ⟨f20_, AV.le_refl _⟩⟩, trivial⟩, rfl, ?_⟩
  refine congrArg (intK .u32) ?_
  rw [val_plus]
  exact sg_add h1
 ·refine awp_skip (hK1 _ (awp_seq fun K4 hK4 => awp_seq fun K5 hK5 => awp_region rfl ?_))
  refine o_fieldRef 1 gn f5_ rfl rfl ?_
  refine o_loadS (.sl 1 (ns .u32 (digs x.natAbs))) gn f6_ rfl rfl rfl ?_
  refine o_fieldRef 1 gn f5_ rfl rfl ?_
  refine o_loadS (.sl 1 (ns .u32 (digs y.natAbs))) gn f6_ rfl rfl rfl ?_
  refine o_ct (c_wSize (x.natAbs) (y.natAbs)) gn f24_ rfl ?_
  refine o_geq (a := (cmpN (x.natAbs) (y.natAbs))) (c := ((0 : Nat) : Int)) gn rfl rfl ?_
  refine aops_end (hK5 _ ?_)
  refine awp_condQ (q := ((0 : Nat) : Int) ≤ (cmpN (x.natAbs) (y.natAbs))) rfl (fun h2 => ?_) (fun h2 => ?_)
  ·have hc := cmpN_ge h2
   refine awp_seq fun K6 hK6 => awp_regionD rfl ?_
   refine o_fieldRef 0 gn f8_ rfl rfl ?_
   refine o_loadS (bp (x < 0)) gn f4_ rfl rfl rfl ?_
   refine o_fieldRef 1 gn f5_ rfl rfl ?_
   refine o_loadS (.sl 1 (ns .u32 (digs x.natAbs))) gn f6_ rfl rfl rfl ?_
   refine o_fieldRef 1 gn f5_ rfl rfl ?_
   refine o_loadS (.sl 1 (ns .u32 (digs y.natAbs))) gn f6_ rfl rfl rfl ?_
   refine o_ct (c_wLess (x.natAbs) (y.natAbs) (by omega) (by omega) (by omega)) gn f36_ rfl ?_
   refine o_ct (c_wTrim (decide (x < 0)) (dgn (digs (x.natAbs)).length (x.natAbs - y.natAbs)) (by first | assumption | exact dgn_dig _ _ | exact digs_dig _ | exact Dig.snoc (by assumption) (by assumption) | exact Dig.cons (by omega) (digs_dig _))) gn f35_ rfl ?_
   refine o_store [(4, oZ 90 .u32 (sg (decide (x < 0)) (val (dgn (digs (x.natAbs)).length (x.natAbs - y.natAbs))))), (3, oZ 90 .u32 y), (2, oZ 90 .u32 x)] gn f19_ rfl rfl rfl rfl rfl rfl ?_
   refine aops_end ⟨by kernel_rfl, ?_⟩
   refine hK6 _ ?_
   refine awp_ret ?_
   refine post_ret ⟨[intW (sg (decide (x < 0)) (val (dgn (digs (x.natAbs)).length (x.natAbs - y.natAbs))))], ⟨⟨4, oZ 90 .u32 (sg (decide (x < 0)) (val (dgn (digs (x.natAbs)).length (x.natAbs - y.natAbs)))), rfl, rfl, rfl, Or.inl ⟨f20_, AV.le_refl _⟩⟩, trivial⟩, rfl, ?_⟩
   refine congrArg (intK .u32) ?_
   rw [val_minus]
   exact sg_sub1 h1 hc
  ·have hc := cmpN_ng h2
   refine awp_skip (hK4 _ (awp_seq fun K7 hK7 => awp_regionD rfl ?_))
   refine o_fieldRef 0 gn f8_ rfl rfl ?_
   refine o_loadS (bp (y < 0)) gn f4_ rfl rfl rfl ?_
   refine o_fieldRef 1 gn f5_ rfl rfl ?_
   refine o_loadS (.sl 1 (ns .u32 (digs y.natAbs))) gn f6_ rfl rfl rfl ?_
   refine o_fieldRef 1 gn f5_ rfl rfl ?_
   refine o_loadS (.sl 1 (ns .u32 (digs x.natAbs))) gn f6_ rfl rfl rfl ?_
   refine o_ct (c_wLess (y.natAbs) (x.natAbs) (by omega) (by omega) (by omega)) gn f36_ rfl ?_
   refine o_ct (c_wTrim (decide (y < 0)) (dgn (digs (y.natAbs)).length (y.natAbs - x.natAbs)) (by first | assumption | exact dgn_dig _ _ | exact digs_dig _ | exact Dig.snoc (by assumption) (by assumption) | exact Dig.cons (by omega) (digs_dig _))) gn f35_ rfl ?_
   refine o_store [(4, oZ 90 .u32 (sg (decide (y < 0)) (val (dgn (digs (y.natAbs)).length (y.natAbs - x.natAbs))))), (3, oZ 90 .u32 y), (2, oZ 90 .u32 x)] gn f19_ rfl rfl rfl rfl rfl rfl ?_
   refine aops_end ⟨by kernel_rfl, ?_⟩
   refine hK7 _ ?_
   refine awp_ret ?_
   refine post_ret ⟨[intW (sg (decide (y < 0)) (val (dgn (digs (y.natAbs)).length (y.natAbs - x.natAbs))))], ⟨⟨4, oZ 90 .u32 (sg (decide (y < 0)) (val (dgn (digs (y.natAbs)).length (y.natAbs - x.natAbs)))), rfl, rfl, rfl, Or.inl ⟨f20_, AV.le_refl _⟩⟩, trivial⟩, rfl, ?_⟩
   refine congrArg (intK .u32) ?_
   rw [val_minus]
   exact sg_sub2 h1 hc

theorem c_rSub (x y : Int) (hx : (digs x.natAbs).length ≤ 1000000000) (hy : (digs y.natAbs).length ≤ 1000000000) : ECalls cx 60 [intR x, intR y] (intR (x - y)) := by
 refine ecalls_of_awp Tryz.func60 (c := _) rfl (Nat.le_of_ble_eq_true rfl) ?_
 show awp cx 9 _ (postF cx Tryz.f60 _) ⟨[(0, intR x), (1, intR y)], []⟩
 refine awp_seq fun K0 hK0 => awp_region rfl ?_
 refine o_box 2 [bp (x < 0), .sl 1 (ns .i64 (digs x.natAbs))] gn rfl rfl ?_
 refine o_box 3 [bp (y < 0), .sl 1 (ns .i64 (digs y.natAbs))] gn rfl rfl ?_
 refine o_alloc 4 [Fv, Zv] gn f9_ rfl rfl rfl ?_
 refine aops_end (hK0 _ (awp_seq fun K1 hK1 => awp_regionD rfl ?_))
 refine o_loadA [bp (x < 0), .sl 1 (ns .i64 (digs x.natAbs))] gn f14_ rfl rfl rfl rfl rfl ?_
 refine o_loadA [bp (y < 0), .sl 1 (ns .i64 (digs y.natAbs))] gn f14_ rfl rfl rfl rfl rfl ?_
 refine o_ct (c_rMinus y) gn f37_ rfl ?_
 refine o_ct (c_rAdd x (-y) (by first | omega | assumption | (simp only [Int.natAbs_neg]; omega)) (by first | omega | assumption | (simp only [Int.natAbs_neg]; omega))) gn f38_ rfl ?_
 refine o_store [(4, oZ 42 .i64 (x + (-y))), (3, oZ 42 .i64 y), (2, oZ 42 .i64 x)] gn f13_ rfl rfl rfl rfl rfl rfl ?_
 refine aops_end ⟨by kernel_rfl, ?_⟩
 refine hK1 _ ?_
 refine awp_ret ?_
 refine post_ret ⟨[intR (x + (-y))], ⟨⟨4, oZ 42 .i64 (x + (-y)), rfl, rfl, rfl, Or.inl ⟨f14_, AV.le_refl _⟩⟩, trivial⟩, rfl, ?_⟩
 exact congrArg (intK .i64) Int.sub_eq_add_neg

theorem c_wSub (x y : Int) (hx : (digs x.natAbs).length ≤ 1000000000) (hy : (digs y.natAbs).length ≤ 1000000000) : ECalls cx 93 [intW x, intW y] (intW (x - y)) := by
 refine ecalls_of_awp Tryz.func93 (c := _) rfl (Nat.le_of_ble_eq_true rfl) ?_
 show awp cx 9 _ (postF cx Tryz.f93 _) ⟨[(0, intW x), (1, intW y)], []⟩
 refine awp_seq fun K0 hK0 => awp_region rfl ?_
 refine o_box 2 [bp (x < 0), .sl 1 (ns .u32 (digs x.natAbs))] gn rfl rfl ?_
 refine o_box 3 [bp (y < 0), .sl 1 (ns .u32 (digs y.natAbs))] gn rfl rfl ?_
 refine o_alloc 4 [Fv, Zv] gn f15_ rfl rfl rfl ?_
 refine aops_end (hK0 _ (awp_seq fun K1 hK1 => awp_regionD rfl ?_))
 refine o_loadA [bp (x < 0), .sl 1 (ns .u32 (digs x.natAbs))] gn f20_ rfl rfl rfl rfl rfl ?_
 refine o_loadA [bp (y < 0), .sl 1 (ns .u32 (digs y.natAbs))] gn f20_ rfl rfl rfl rfl rfl ?_
 refine o_ct (c_wMinus y) gn f39_ rfl ?_
 refine o_ct (c_wAdd x (-y) (by first | omega | assumption | (simp only [Int.natAbs_neg]; omega)) (by first | omega | assumption | (simp only [Int.natAbs_neg]; omega))) gn f40_ rfl ?_
 refine o_store [(4, oZ 90 .u32 (x + (-y))), (3, oZ 90 .u32 y), (2, oZ 90 .u32 x)] gn f19_ rfl rfl rfl rfl rfl rfl ?_
 refine aops_end ⟨by kernel_rfl, ?_⟩
 refine hK1 _ ?_
 refine awp_ret ?_
 refine post_ret ⟨[intW (x + (-y))], ⟨⟨4, oZ 90 .u32 (x + (-y)), rfl, rfl, rfl, Or.inl ⟨f20_, AV.le_refl _⟩⟩, trivial⟩, rfl, ?_⟩
 exact congrArg (intK .u32) Int.sub_eq_add_neg

end Go.Proofs.YtdmkejloknejdaaGreatDoor

