/- The operations' rules in the form in which proofs use them. Over any program. -/
import Derived.Test.YtkngglpnejdicaaDoorAb11
set_option linter.unusedVariables false
set_option linter.unusedSimpArgs false
namespace Go.Ab
open Go.RowKit

/-- The guard of an operation says yes. -/
inductive Gd (ops : Array Oper) (s : List (Nat × AV)) : Option (Nat × Bool) → Prop
  | none : Gd ops s none
  | yes {j d : Nat} {want b : Bool} (hd : (ops[j]?).bind (·.dst) = some d) (hb : look s d = .lit (.bool b)) (h : b = want) : Gd ops s (some (j, want))

def ev (s : List (Nat × AV)) : Operand → AV
  | .tmp t => look s t
  | .const v => .lit v
  | .global g => .lit (.pointer (some ⟨g, 0, none⟩))
  | .func f => .clo f []
def evs (s : List (Nat × AV)) : List Operand → List AV
  | [] => []
  | x :: xs => ev s x :: evs s xs
theorem ev_st (s : List (Nat × AV)) (m : List (Nat × AO)) (x : Operand) : (St.sem ⟨s, m⟩).ev x = ev s x := by cases x <;> rfl
theorem evs_st (s : List (Nat × AV)) (m : List (Nat × AO)) (xs : List Operand) : xs.map (St.sem ⟨s, m⟩).ev = evs s xs := by
  induction xs with
  | nil => rfl
  | cons x xs ih => simp only [List.map_cons, evs, ih, ev_st]
def frS (s : List (Nat × AV)) (m : List (Nat × AO)) (id : Nat) : Bool := s.all (fun p => !p.2.has id) && m.all fun p => !Nat.beq p.1 id && !p.2.has id

section
variable {C : Ctx} {ops : Array Oper} {s : List (Nat × AV)} {m : List (Nat × AO)} {os : List Oper} {K : List Eff → St → Prop} {d : Nat} {t : TypeId} {p : String} {af : Array Edge} {g : Option (Nat × Bool)}

theorem aops_end {σ : St} (h : K [] σ) : aops C ops σ [] K := aops_nil h

theorem o_step {dst : Option Nat} {op : Op} {e : Eff} (hg : Gd ops s g) (hs : Step C (St.sem ⟨s, m⟩) ⟨dst, op, t, p, af, g⟩ e) (hf : e.fresh.all (St.freshB ⟨s, m⟩) = true) (k : aops C ops (St.app ⟨s, m⟩ dst e) os fun es σ' => K (e :: es) σ') :
    aops C ops ⟨s, m⟩ (⟨dst, op, t, p, af, g⟩ :: os) K := by
  cases hg with
  | none => exact aops_step rfl hs hf k
  | yes hd hb h => exact aops_stepG rfl hd hb h hs hf k
theorem o_val {op : Op} {v : AV} {us : List Nat} (hg : Gd ops s g) (hs : Step C (St.sem ⟨s, m⟩) ⟨some d, op, t, p, af, g⟩ { val := v, use := us }) (k : aops C ops ⟨(d, v) :: s, m⟩ os fun es σ' => K ({ val := v, use := us } :: es) σ') :
    aops C ops ⟨s, m⟩ (⟨some d, op, t, p, af, g⟩ :: os) K := o_step hg hs rfl k
/-- An operation that is passed over. -/
theorem o_skip {j d' : Nat} {want b : Bool} {op : Op} (hd : (ops[j]?).bind (·.dst) = some d') (hb : look s d' = .lit (.bool b)) (h : b = !want) (k : aops C ops ⟨(d, .lit undef) :: s, m⟩ os fun es σ' => K ({ val := .lit undef } :: es) σ') :
    aops C ops ⟨s, m⟩ (⟨some d, op, t, p, af, some (j, want)⟩ :: os) K := aops_skipG rfl hd hb (by subst h; cases want <;> simp) k
/-- An operation that hangs on one that is passed over. -/
theorem o_skipU {j d' : Nat} {want : Bool} {op : Op} (hd : (ops[j]?).bind (·.dst) = some d') (hb : look s d' = .lit undef) (k : aops C ops ⟨(d, .lit undef) :: s, m⟩ os fun es σ' => K ({ val := .lit undef } :: es) σ') :
    aops C ops ⟨s, m⟩ (⟨some d, op, t, p, af, some (j, want)⟩ :: os) K := aops_skipG rfl hd hb (by simp [undef]) k
/-- A store that is passed over. -/
theorem o_skipS {j d' : Nat} {want b : Bool} {op : Op} (hd : (ops[j]?).bind (·.dst) = some d') (hb : look s d' = .lit (.bool b)) (h : b = !want) (k : aops C ops ⟨s, m⟩ os fun es σ' => K ({ val := .lit undef } :: es) σ') :
    aops C ops ⟨s, m⟩ (⟨none, op, t, p, af, some (j, want)⟩ :: os) K := aops_skipG rfl hd hb (by subst h; cases want <;> simp) k
/-- Both ways of a test. -/
theorem o_split {b : Bool} (d' : Nat) (hb : look s d' = .lit (.bool b)) (h1 : b = true → aops C ops ⟨s, m⟩ os K) (h2 : b = false → aops C ops ⟨s, m⟩ os K) : aops C ops ⟨s, m⟩ os K := aops_split b h1 h2
theorem o_splitP {q : Prop} [Decidable q] (d' : Nat) (hb : look s d' = .lit (.bool (decide q))) (h1 : q → aops C ops ⟨s, m⟩ os K) (h2 : ¬ q → aops C ops ⟨s, m⟩ os K) : aops C ops ⟨s, m⟩ os K :=
  aops_split (decide q) (fun h => h1 (of_decide_eq_true h)) (fun h => h2 (of_decide_eq_false h))

theorem o_move {x : Operand} (v : AV) (hg : Gd ops s g) (hx : ev s x = v) (k : aops C ops ⟨(d, v) :: s, m⟩ os fun es σ' => K ({ val := v } :: es) σ') : aops C ops ⟨s, m⟩ (⟨some d, .move x, t, p, af, g⟩ :: os) K :=
  o_val hg (by rw [← hx, ← ev_st s m]; exact .copy x (.inl rfl)) k
theorem o_assign {x : Operand} (v : AV) (hg : Gd ops s g) (hx : ev s x = v) (k : aops C ops ⟨(d, v) :: s, m⟩ os fun es σ' => K ({ val := v } :: es) σ') : aops C ops ⟨s, m⟩ (⟨some d, .assign x, t, p, af, g⟩ :: os) K :=
  o_val hg (by rw [← hx, ← ev_st s m]; exact .copy x (.inr rfl)) k
theorem o_pickT {c x y : Operand} {b : Bool} (v : AV) (hg : Gd ops s g) (hc : ev s c = .lit (.bool b)) (hb : b = true) (hx : ev s x = v) (k : aops C ops ⟨(d, v) :: s, m⟩ os fun es σ' => K ({ val := v } :: es) σ') : aops C ops ⟨s, m⟩ (⟨some d, .pick c x y, t, p, af, g⟩ :: os) K :=
  o_val hg (by
    have := Step.pick (C := C) (S := St.sem ⟨s, m⟩) (o := ⟨some d, .pick c x y, t, p, af, g⟩) c x y b rfl (by rw [ev_st]; exact hc)
    rw [hb, cond_true, ev_st, hx] at this
    exact this) k
theorem o_pickF {c x y : Operand} {b : Bool} (v : AV) (hg : Gd ops s g) (hc : ev s c = .lit (.bool b)) (hb : b = false) (hy : ev s y = v) (k : aops C ops ⟨(d, v) :: s, m⟩ os fun es σ' => K ({ val := v } :: es) σ') : aops C ops ⟨s, m⟩ (⟨some d, .pick c x y, t, p, af, g⟩ :: os) K :=
  o_val hg (by
    have := Step.pick (C := C) (S := St.sem ⟨s, m⟩) (o := ⟨some d, .pick c x y, t, p, af, g⟩) c x y b rfl (by rw [ev_st]; exact hc)
    rw [hb, cond_false, ev_st, hy] at this
    exact this) k

/-- Whatever only computes with plain values. -/
theorem o_pure1 {op : Op} {x : Operand} {a v : Value} (hops : op.operands = #[x]) (hg : Gd ops s g) (hx : ev s x = .lit a) (h : ∀ ρ : Operand → Value, ρ x = a → ∀ w, (execOp ρ ⟨some d, op, t, p, af, g⟩).run C.P w = .ok (.value v) w)
    (k : aops C ops ⟨(d, .lit v) :: s, m⟩ os fun es σ' => K ({ val := .lit v } :: es) σ') : aops C ops ⟨s, m⟩ (⟨some d, op, t, p, af, g⟩ :: os) K :=
  o_val hg (.pure v fun ρ hρ w => h ρ (hρ x (by simp [hops]) a (by rw [ev_st]; exact hx)) w) k
theorem o_pure2 {op : Op} {x y : Operand} {a b v : Value} (hops : op.operands = #[x, y]) (hg : Gd ops s g) (hx : ev s x = .lit a) (hy : ev s y = .lit b) (h : ∀ ρ : Operand → Value, ρ x = a → ρ y = b → ∀ w, (execOp ρ ⟨some d, op, t, p, af, g⟩).run C.P w = .ok (.value v) w)
    (k : aops C ops ⟨(d, .lit v) :: s, m⟩ os fun es σ' => K ({ val := .lit v } :: es) σ') : aops C ops ⟨s, m⟩ (⟨some d, op, t, p, af, g⟩ :: os) K :=
  o_val hg (.pure v fun ρ hρ w => h ρ (hρ x (by simp [hops]) a (by rw [ev_st]; exact hx)) (hρ y (by simp [hops]) b (by rw [ev_st]; exact hy)) w) k

theorem eqGuard_int {P : Program} {op : BinOp} {xt : TypeId} {x y : Operand} {k : IntKind} {a : Int} {b : Value} (w : World) : (eqGuard op xt x y (.int k a) b).run P w = .ok () w := by
  have : eqGuard op xt x y (.int k a) b = pure () := eqGuard_at_int ..
  rw [this]; rfl

/-- A sum, a difference, a product. -/
theorem o_arith {b : BinOp} {xt yt : TypeId} {x y : Operand} {k : IntKind} {a c : Int} (r : Int) (hb : (b = .add ∧ r = k.wrap (a + c)) ∨ (b = .sub ∧ r = k.wrap (a - c)) ∨ (b = .mul ∧ r = k.wrap (a * c))) (hg : Gd ops s g) (hx : ev s x = .lit (.int k a)) (hy : ev s y = .lit (.int k c))
    (kk : aops C ops ⟨(d, .lit (.int k r)) :: s, m⟩ os fun es σ' => K ({ val := .lit (.int k r) } :: es) σ') : aops C ops ⟨s, m⟩ (⟨some d, .binOp b xt x y yt, t, p, af, g⟩ :: os) K :=
  o_pure2 rfl hg hx hy (fun ρ h1 h2 w => by
    rcases hb with ⟨rfl, rfl⟩ | ⟨rfl, rfl⟩ | ⟨rfl, rfl⟩ <;> simp [execOp, h1, h2, eqGuard_int, binOp, Op.intArith]) kk
theorem o_add {xt yt : TypeId} {x y : Operand} {k : IntKind} {a c : Int} (hg : Gd ops s g) (hx : ev s x = .lit (.int k a)) (hy : ev s y = .lit (.int k c)) (hr : k.wrap (a + c) = a + c)
    (kk : aops C ops ⟨(d, .lit (.int k (a + c))) :: s, m⟩ os fun es σ' => K ({ val := .lit (.int k (a + c)) } :: es) σ') : aops C ops ⟨s, m⟩ (⟨some d, .binOp .add xt x y yt, t, p, af, g⟩ :: os) K :=
  o_arith (a + c) (.inl ⟨rfl, hr.symm⟩) hg hx hy kk
theorem o_sub {xt yt : TypeId} {x y : Operand} {k : IntKind} {a c : Int} (hg : Gd ops s g) (hx : ev s x = .lit (.int k a)) (hy : ev s y = .lit (.int k c)) (hr : k.wrap (a - c) = a - c)
    (kk : aops C ops ⟨(d, .lit (.int k (a - c))) :: s, m⟩ os fun es σ' => K ({ val := .lit (.int k (a - c)) } :: es) σ') : aops C ops ⟨s, m⟩ (⟨some d, .binOp .sub xt x y yt, t, p, af, g⟩ :: os) K :=
  o_arith (a - c) (.inr (.inl ⟨rfl, hr.symm⟩)) hg hx hy kk
theorem o_mul {xt yt : TypeId} {x y : Operand} {k : IntKind} {a c : Int} (hg : Gd ops s g) (hx : ev s x = .lit (.int k a)) (hy : ev s y = .lit (.int k c)) (hr : k.wrap (a * c) = a * c)
    (kk : aops C ops ⟨(d, .lit (.int k (a * c))) :: s, m⟩ os fun es σ' => K ({ val := .lit (.int k (a * c)) } :: es) σ') : aops C ops ⟨s, m⟩ (⟨some d, .binOp .mul xt x y yt, t, p, af, g⟩ :: os) K :=
  o_arith (a * c) (.inr (.inr ⟨rfl, hr.symm⟩)) hg hx hy kk
/-- A quotient and a rest of a number that is not negative by one that is positive. -/
theorem o_quo {xt yt : TypeId} {x y : Operand} {k : IntKind} {a c : Int} (hg : Gd ops s g) (hx : ev s x = .lit (.int k a)) (hy : ev s y = .lit (.int k c)) (ha : 0 ≤ a) (hc : 0 < c) (hr : k.wrap (a / c) = a / c)
    (kk : aops C ops ⟨(d, .lit (.int k (a / c))) :: s, m⟩ os fun es σ' => K ({ val := .lit (.int k (a / c)) } :: es) σ') : aops C ops ⟨s, m⟩ (⟨some d, .binOp .quo xt x y yt, t, p, af, g⟩ :: os) K :=
  o_pure2 rfl hg hx hy (fun ρ h1 h2 w => by
    have hne : ¬ c = 0 := by omega
    have ht : a.tdiv c = a / c := Int.tdiv_eq_ediv_of_nonneg ha
    simp [execOp, h1, h2, eqGuard_int, binOp, Op.intDiv, hne, ht, hr]) kk
theorem o_rem {xt yt : TypeId} {x y : Operand} {k : IntKind} {a c : Int} (hg : Gd ops s g) (hx : ev s x = .lit (.int k a)) (hy : ev s y = .lit (.int k c)) (ha : 0 ≤ a) (hc : 0 < c)
    (kk : aops C ops ⟨(d, .lit (.int k (a % c))) :: s, m⟩ os fun es σ' => K ({ val := .lit (.int k (a % c)) } :: es) σ') : aops C ops ⟨s, m⟩ (⟨some d, .binOp .rem xt x y yt, t, p, af, g⟩ :: os) K :=
  o_pure2 rfl hg hx hy (fun ρ h1 h2 w => by
    have hne : ¬ c = 0 := by omega
    have ht : a.tmod c = a % c := Int.tmod_eq_emod_of_nonneg ha
    simp [execOp, h1, h2, eqGuard_int, binOp, Op.intDiv, hne, ht]) kk
/-- The same of any numbers, the divisor not 0. -/
theorem o_quoT {xt yt : TypeId} {x y : Operand} {k : IntKind} {a c : Int} (hg : Gd ops s g) (hx : ev s x = .lit (.int k a)) (hy : ev s y = .lit (.int k c)) (hc : c ≠ 0) (hr : k.wrap (a.tdiv c) = a.tdiv c)
    (kk : aops C ops ⟨(d, .lit (.int k (a.tdiv c))) :: s, m⟩ os fun es σ' => K ({ val := .lit (.int k (a.tdiv c)) } :: es) σ') : aops C ops ⟨s, m⟩ (⟨some d, .binOp .quo xt x y yt, t, p, af, g⟩ :: os) K :=
  o_pure2 rfl hg hx hy (fun ρ h1 h2 w => by simp [execOp, h1, h2, eqGuard_int, binOp, Op.intDiv, hc, hr]) kk
theorem o_remT {xt yt : TypeId} {x y : Operand} {k : IntKind} {a c : Int} (hg : Gd ops s g) (hx : ev s x = .lit (.int k a)) (hy : ev s y = .lit (.int k c)) (hc : c ≠ 0)
    (kk : aops C ops ⟨(d, .lit (.int k (a.tmod c))) :: s, m⟩ os fun es σ' => K ({ val := .lit (.int k (a.tmod c)) } :: es) σ') : aops C ops ⟨s, m⟩ (⟨some d, .binOp .rem xt x y yt, t, p, af, g⟩ :: os) K :=
  o_pure2 rfl hg hx hy (fun ρ h1 h2 w => by simp [execOp, h1, h2, eqGuard_int, binOp, Op.intDiv, hc]) kk
/-- Comparisons of numbers. -/
def cmpP (b : BinOp) (a c : Int) : Prop := match b with
  | .eql => a = c
  | .neq => a ≠ c
  | .lss => a < c
  | .leq => a ≤ c
  | .gtr => c < a
  | .geq => c ≤ a
  | _ => False
theorem o_eql {xt yt : TypeId} {x y : Operand} {k : IntKind} {a c : Int} (hg : Gd ops s g) (hx : ev s x = .lit (.int k a)) (hy : ev s y = .lit (.int k c)) (kk : aops C ops ⟨(d, .lit (.bool (decide (a = c)))) :: s, m⟩ os fun es σ' => K ({ val := .lit (.bool (decide (a = c))) } :: es) σ') :
    aops C ops ⟨s, m⟩ (⟨some d, .binOp .eql xt x y yt, t, p, af, g⟩ :: os) K := o_pure2 rfl hg hx hy (fun ρ h1 h2 w => by simp [execOp, h1, h2, eqGuard_int, binOp, Op.intCmp]; rfl) kk
theorem o_neq {xt yt : TypeId} {x y : Operand} {k : IntKind} {a c : Int} (hg : Gd ops s g) (hx : ev s x = .lit (.int k a)) (hy : ev s y = .lit (.int k c)) (kk : aops C ops ⟨(d, .lit (.bool (decide (a ≠ c)))) :: s, m⟩ os fun es σ' => K ({ val := .lit (.bool (decide (a ≠ c))) } :: es) σ') :
    aops C ops ⟨s, m⟩ (⟨some d, .binOp .neq xt x y yt, t, p, af, g⟩ :: os) K := o_pure2 rfl hg hx hy (fun ρ h1 h2 w => by
      have : (a != c) = decide (a ≠ c) := by by_cases h : a = c <;> simp [h]
      simp [execOp, h1, h2, eqGuard_int, binOp, Op.intCmp, this]) kk
theorem o_lss {xt yt : TypeId} {x y : Operand} {k : IntKind} {a c : Int} (hg : Gd ops s g) (hx : ev s x = .lit (.int k a)) (hy : ev s y = .lit (.int k c)) (kk : aops C ops ⟨(d, .lit (.bool (decide (a < c)))) :: s, m⟩ os fun es σ' => K ({ val := .lit (.bool (decide (a < c))) } :: es) σ') :
    aops C ops ⟨s, m⟩ (⟨some d, .binOp .lss xt x y yt, t, p, af, g⟩ :: os) K := o_pure2 rfl hg hx hy (fun ρ h1 h2 w => by simp [execOp, h1, h2, eqGuard_int, binOp, Op.intCmp]) kk
theorem o_leq {xt yt : TypeId} {x y : Operand} {k : IntKind} {a c : Int} (hg : Gd ops s g) (hx : ev s x = .lit (.int k a)) (hy : ev s y = .lit (.int k c)) (kk : aops C ops ⟨(d, .lit (.bool (decide (a ≤ c)))) :: s, m⟩ os fun es σ' => K ({ val := .lit (.bool (decide (a ≤ c))) } :: es) σ') :
    aops C ops ⟨s, m⟩ (⟨some d, .binOp .leq xt x y yt, t, p, af, g⟩ :: os) K := o_pure2 rfl hg hx hy (fun ρ h1 h2 w => by simp [execOp, h1, h2, eqGuard_int, binOp, Op.intCmp]) kk
theorem o_gtr {xt yt : TypeId} {x y : Operand} {k : IntKind} {a c : Int} (hg : Gd ops s g) (hx : ev s x = .lit (.int k a)) (hy : ev s y = .lit (.int k c)) (kk : aops C ops ⟨(d, .lit (.bool (decide (c < a)))) :: s, m⟩ os fun es σ' => K ({ val := .lit (.bool (decide (c < a))) } :: es) σ') :
    aops C ops ⟨s, m⟩ (⟨some d, .binOp .gtr xt x y yt, t, p, af, g⟩ :: os) K := o_pure2 rfl hg hx hy (fun ρ h1 h2 w => by simp [execOp, h1, h2, eqGuard_int, binOp, Op.intCmp]) kk
theorem o_geq {xt yt : TypeId} {x y : Operand} {k : IntKind} {a c : Int} (hg : Gd ops s g) (hx : ev s x = .lit (.int k a)) (hy : ev s y = .lit (.int k c)) (kk : aops C ops ⟨(d, .lit (.bool (decide (c ≤ a)))) :: s, m⟩ os fun es σ' => K ({ val := .lit (.bool (decide (c ≤ a))) } :: es) σ') :
    aops C ops ⟨s, m⟩ (⟨some d, .binOp .geq xt x y yt, t, p, af, g⟩ :: os) K := o_pure2 rfl hg hx hy (fun ρ h1 h2 w => by simp [execOp, h1, h2, eqGuard_int, binOp, Op.intCmp]) kk
theorem eqGuard_bool {P : Program} {op : BinOp} {xt : TypeId} {x y : Operand} {a : Bool} {b : Value} (w : World) : (eqGuard op xt x y (.bool a) b).run P w = .ok () w := by
  have : eqGuard op xt x y (.bool a) b = pure () := eqGuard_at_bool ..
  rw [this]; rfl
theorem eqGuard_str {P : Program} {op : BinOp} {xt : TypeId} {x y : Operand} {a : ByteArray} {b : Value} (w : World) : (eqGuard op xt x y (.string a) b).run P w = .ok () w := by
  have : eqGuard op xt x y (.string a) b = pure () := eqGuard_at_string ..
  rw [this]; rfl
theorem o_eqlB {xt yt : TypeId} {x y : Operand} {a c : Bool} (hg : Gd ops s g) (hx : ev s x = .lit (.bool a)) (hy : ev s y = .lit (.bool c)) (ht : C.P.underlying xt = some .bool) (kk : aops C ops ⟨(d, .lit (.bool (decide (a = c)))) :: s, m⟩ os fun es σ' => K ({ val := .lit (.bool (decide (a = c))) } :: es) σ') :
    aops C ops ⟨s, m⟩ (⟨some d, .binOp .eql xt x y yt, t, p, af, g⟩ :: os) K := o_pure2 rfl hg hx hy (fun ρ h1 h2 w => by
      have : (a == c) = decide (a = c) := by cases a <;> cases c <;> rfl
      simp [execOp, h1, h2, eqGuard_bool, run_eql_bool w xt a c ht, this]) kk
theorem o_neqB {xt yt : TypeId} {x y : Operand} {a c : Bool} (hg : Gd ops s g) (hx : ev s x = .lit (.bool a)) (hy : ev s y = .lit (.bool c)) (ht : C.P.underlying xt = some .bool) (kk : aops C ops ⟨(d, .lit (.bool (decide (a ≠ c)))) :: s, m⟩ os fun es σ' => K ({ val := .lit (.bool (decide (a ≠ c))) } :: es) σ') :
    aops C ops ⟨s, m⟩ (⟨some d, .binOp .neq xt x y yt, t, p, af, g⟩ :: os) K := o_pure2 rfl hg hx hy (fun ρ h1 h2 w => by
      have e : ((binOp .neq xt (.bool a) (.bool c)).run C.P w) = .ok (.bool (decide (a ≠ c))) w := by
        have := run_equal_bool w xt a c ht
        simp only [binOp, Sem.run_bind, this, Result.andThen_ok, Sem.run_pure]
        cases a <;> cases c <;> rfl
      simp [execOp, h1, h2, eqGuard_bool, e]) kk
theorem o_eqlS {xt yt : TypeId} {x y : Operand} {a c : ByteArray} (hg : Gd ops s g) (hx : ev s x = .lit (.string a)) (hy : ev s y = .lit (.string c)) (kk : aops C ops ⟨(d, .lit (.bool (decide (a.toList = c.toList)))) :: s, m⟩ os fun es σ' => K ({ val := .lit (.bool (decide (a.toList = c.toList))) } :: es) σ') :
    aops C ops ⟨s, m⟩ (⟨some d, .binOp .eql xt x y yt, t, p, af, g⟩ :: os) K := o_pure2 rfl hg hx hy (fun ρ h1 h2 w => by
      have : (a.toList == c.toList) = decide (a.toList = c.toList) := by by_cases h : a.toList = c.toList <;> simp [h]
      simp [execOp, h1, h2, eqGuard_str, binOp, Op.stringOp, this]) kk
theorem o_neqS {xt yt : TypeId} {x y : Operand} {a c : ByteArray} (hg : Gd ops s g) (hx : ev s x = .lit (.string a)) (hy : ev s y = .lit (.string c)) (kk : aops C ops ⟨(d, .lit (.bool (decide (a.toList ≠ c.toList)))) :: s, m⟩ os fun es σ' => K ({ val := .lit (.bool (decide (a.toList ≠ c.toList))) } :: es) σ') :
    aops C ops ⟨s, m⟩ (⟨some d, .binOp .neq xt x y yt, t, p, af, g⟩ :: os) K := o_pure2 rfl hg hx hy (fun ρ h1 h2 w => by
      have : (!(a.toList == c.toList)) = decide (a.toList ≠ c.toList) := by by_cases h : a.toList = c.toList <;> simp [h]
      simp only [execOp, h1, h2, eqGuard_str, binOp, Op.stringOp, Sem.run_bind, Result.andThen_ok, Sem.run_pure, this]) kk
theorem o_addS {xt yt : TypeId} {x y : Operand} {a c : ByteArray} (hg : Gd ops s g) (hx : ev s x = .lit (.string a)) (hy : ev s y = .lit (.string c)) (hl : a.size + c.size ≤ 9223372036854775807) (kk : aops C ops ⟨(d, .lit (.string (a ++ c))) :: s, m⟩ os fun es σ' => K ({ val := .lit (.string (a ++ c)) } :: es) σ') :
    aops C ops ⟨s, m⟩ (⟨some d, .binOp .add xt x y yt, t, p, af, g⟩ :: os) K := o_pure2 rfl hg hx hy (fun ρ h1 h2 w => by
      have : ¬ (9223372036854775807 < (a.size : Int) + (c.size : Int)) := by omega
      simp [execOp, h1, h2, eqGuard_str, binOp, Op.stringOp, this]) kk
theorem o_notP {xt : TypeId} {x : Operand} {q : Prop} [Decidable q] (hg : Gd ops s g) (hx : ev s x = .lit (.bool (decide q))) (kk : aops C ops ⟨(d, .lit (.bool (decide (¬ q)))) :: s, m⟩ os fun es σ' => K ({ val := .lit (.bool (decide (¬ q))) } :: es) σ') :
    aops C ops ⟨s, m⟩ (⟨some d, .unOp .not xt x, t, p, af, g⟩ :: os) K := o_pure1 rfl hg hx (fun ρ h1 w => by
      have : (!decide q) = decide (¬ q) := by by_cases h : q <;> simp [h]
      simp only [execOp, h1, Op.unary, Sem.run_bind, Sem.run_pure, Result.andThen_ok, this]) kk
theorem o_not {xt : TypeId} {x : Operand} {b : Bool} (hg : Gd ops s g) (hx : ev s x = .lit (.bool b)) (kk : aops C ops ⟨(d, .lit (.bool (!b))) :: s, m⟩ os fun es σ' => K ({ val := .lit (.bool (!b)) } :: es) σ') :
    aops C ops ⟨s, m⟩ (⟨some d, .unOp .not xt x, t, p, af, g⟩ :: os) K := o_pure1 rfl hg hx (fun ρ h1 w => by simp [execOp, h1, Op.unary]) kk
theorem o_neg {xt : TypeId} {x : Operand} {k : IntKind} {a : Int} (hg : Gd ops s g) (hx : ev s x = .lit (.int k a)) (hr : k.wrap (-a) = -a) (kk : aops C ops ⟨(d, .lit (.int k (-a))) :: s, m⟩ os fun es σ' => K ({ val := .lit (.int k (-a)) } :: es) σ') :
    aops C ops ⟨s, m⟩ (⟨some d, .unOp .neg xt x, t, p, af, g⟩ :: os) K := o_pure1 rfl hg hx (fun ρ h1 w => by simp [execOp, h1, Op.unary, Op.intArith, hr]) kk
/-- From one kind of whole numbers to another one. -/
def tyInt (P : Program) (t : TypeId) : Option IntKind := match P.underlying t with
  | some (.int k) => some k
  | _ => none
theorem o_conv {src dst : TypeId} {x : Operand} {k k' : IntKind} {a : Int} (hg : Gd ops s g) (hx : ev s x = .lit (.int k a)) (hs : tyInt C.P src = some k) (hd : tyInt C.P dst = some k') (hr : k'.wrap a = a) (kk : aops C ops ⟨(d, .lit (.int k' a)) :: s, m⟩ os fun es σ' => K ({ val := .lit (.int k' a) } :: es) σ') :
    aops C ops ⟨s, m⟩ (⟨some d, .convert src dst x, t, p, af, g⟩ :: os) K := o_pure1 rfl hg hx (fun ρ h1 w => by
      have u1 : C.P.underlying src = some (.int k) := by
        unfold tyInt at hs
        cases hu : C.P.underlying src with
        | none => simp [hu] at hs
        | some dd => cases dd <;> simp [hu] at hs; subst hs; rfl
      have u2 : C.P.underlying dst = some (.int k') := by
        unfold tyInt at hd
        cases hu : C.P.underlying dst with
        | none => simp [hu] at hd
        | some dd => cases dd <;> simp [hu] at hd; subst hd; rfl
      simp [execOp, h1, convert, run_underlying u1, run_underlying u2, Conv.intToInt, hr]) kk
theorem o_lenS {ty : TypeId} {x : Operand} {a : ByteArray} (hg : Gd ops s g) (hx : ev s x = .lit (.string a)) (hs : C.P.underlying ty = some .string) (kk : aops C ops ⟨(d, .lit (.int .i64 (a.size : Int))) :: s, m⟩ os fun es σ' => K ({ val := .lit (.int .i64 (a.size : Int)) } :: es) σ') :
    aops C ops ⟨s, m⟩ (⟨some d, .call { callee := .builtin .len, args := #[x], argTypes := #[ty] }, t, p, af, g⟩ :: os) K := o_pure1 (x := x) rfl hg hx (fun ρ h1 w => by
      simp [execOp, resolve, invoke, builtin, h1, Builtin.len_, run_underlying hs, goInt]) kk
theorem o_max {ty ty' : TypeId} {x y : Operand} {a c : Int} (hg : Gd ops s g) (hx : ev s x = .lit (.int .i64 a)) (hy : ev s y = .lit (.int .i64 c)) (h : ∀ w, (Builtin.max_ #[ty, ty'] t #[.int .i64 a, .int .i64 c]).run C.P w = .ok (.int .i64 (max a c)) w)
    (kk : aops C ops ⟨(d, .lit (.int .i64 (max a c))) :: s, m⟩ os fun es σ' => K ({ val := .lit (.int .i64 (max a c)) } :: es) σ') :
    aops C ops ⟨s, m⟩ (⟨some d, .call { callee := .builtin .max, args := #[x, y], argTypes := #[ty, ty'] }, t, p, af, g⟩ :: os) K := o_pure2 (x := x) (y := y) rfl hg hx hy (fun ρ h1 h2 w => by
      simp [execOp, resolve, invoke, builtin, h1, h2, h w]) kk
theorem o_min {ty ty' : TypeId} {x y : Operand} {a c : Int} (hg : Gd ops s g) (hx : ev s x = .lit (.int .i64 a)) (hy : ev s y = .lit (.int .i64 c)) (h : ∀ w, (Builtin.min_ #[ty, ty'] t #[.int .i64 a, .int .i64 c]).run C.P w = .ok (.int .i64 (min a c)) w)
    (kk : aops C ops ⟨(d, .lit (.int .i64 (min a c))) :: s, m⟩ os fun es σ' => K ({ val := .lit (.int .i64 (min a c)) } :: es) σ') :
    aops C ops ⟨s, m⟩ (⟨some d, .call { callee := .builtin .min, args := #[x, y], argTypes := #[ty, ty'] }, t, p, af, g⟩ :: os) K := o_pure2 (x := x) (y := y) rfl hg hx hy (fun ρ h1 h2 w => by
      simp [execOp, resolve, invoke, builtin, h1, h2, h w]) kk
end
end Go.Ab
