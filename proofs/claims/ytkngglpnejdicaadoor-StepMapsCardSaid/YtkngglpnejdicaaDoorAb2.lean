/- What one operation does to an abstract state, and that it does so. Over any program. -/
import Derived.Test.YtkngglpnejdicaaDoorAb1
import Derived.Laws.BytesArg
import Derived.Lib.AppendStr
set_option linter.unusedVariables false
set_option linter.unusedSimpArgs false
namespace Go.Ab
open Go.RowKit

structure Eff where
  val : AV
  upd : List (Nat × Option AO) := []
  use : List Nat := []
  fresh : List Nat := []

def lkU : List (Nat × Option AO) → Nat → Option (Option AO)
  | [], _ => none
  | (i, o) :: r, id => bif Nat.beq i id then some o else lkU r id

def SS.app (S : SS) (dst : Option Nat) (e : Eff) : SS :=
  { ρ := fun i => if dst = some i then e.val else S.ρ i
    μ := fun id => match lkU e.upd id with | some o => o | none => S.μ id }

def AO.cells : AO → List AV
  | .var _ cs => cs
  | .row _ _ cs => cs
  | .blk _ => []
  | .pin .. => []
def AO.isVar : AO → Bool
  | .var .. => true
  | .row .. => false
  | .blk _ => false
  | .pin .. => false
def AO.isIter : AO → Bool
  | .blk _ => true
  | .pin .. => true
  | _ => false
def AO.put : AO → List AV → AO
  | .var t _, cs => .var t cs
  | .row e sz _, cs => .row e sz cs
  | .blk o, _ => .blk o
  | .pin c v, _ => .pin c v

/-- The cells of a value that can be stored. -/
def cellsOf : AV → Option (List AV)
  | .agg fs => some fs
  | .lit (.agg cs) => bif cs.all (·.oneCell') then some (cs.toList.map .lit) else none
  | .lit (.tuple _) => none
  | .lit v => some [.lit v]
  | .any => none
  | .tup _ => none
  | x => some [x]

def tyAgg (P : Program) (t : TypeId) : Option Nat :=
  match P.underlying t with
  | some (.struct _) => (P.info? t).map (·.size)
  | some (.array _ _) => (P.info? t).map (·.size)
  | _ => none
def tySc (P : Program) (t : TypeId) : Bool :=
  match P.underlying t with
  | some (.struct _) => false
  | some (.array _ _) => false
  | none => false
  | some _ => true
def tySize (P : Program) (t : TypeId) : Option Nat := (P.info? t).map (·.size)

theorem isAgg_agg {P : Program} {t : TypeId} {k : Nat} (h : tyAgg P t = some k) (w : World) : (isAgg t).run P w = .ok true w ∧ (sizeOf t).run P w = .ok k w := by
  unfold tyAgg at h
  cases hu : P.underlying t with
  | none => simp [hu] at h
  | some d =>
    cases hi : P.info? t with
    | none => cases d <;> simp [hu, hi] at h
    | some i =>
      cases d <;> simp [hu, hi] at h
      all_goals
        subst h
        exact ⟨by simp [isAgg, run_underlying hu], by simp [sizeOf, typeInfo, hi]⟩
theorem isAgg_sc {P : Program} {t : TypeId} (h : tySc P t = true) (w : World) : (isAgg t).run P w = .ok false w := by
  unfold tySc at h
  cases hu : P.underlying t with
  | none => simp [hu] at h
  | some d => cases d <;> simp [hu] at h <;> simp [isAgg, run_underlying hu]
theorem run_sizeOf {P : Program} {t : TypeId} {k : Nat} (h : tySize P t = some k) (w : World) : (sizeOf t).run P w = .ok k w := by
  unfold tySize at h
  cases hi : P.info? t with
  | none => simp [hi] at h
  | some i => simp [hi] at h; subst h; simp [sizeOf, typeInfo, hi]

theorem cellsOf_rep {H : Heap} {L : Loc} {x : AV} {v : Value} {cs : List AV} (h : RepV H x L v) (hc : cellsOf x = some cs) : RepL H cs L v.cells.toList ∧ ∀ u ∈ v.cells.toList, u.oneCell' = true := by
  have one : ∀ (y : AV), RepV H y L v → v.oneCell' = true → RepL H [y] L v.cells.toList ∧ ∀ u ∈ v.cells.toList, u.oneCell' = true := by
    intro y hy h1
    have hv : v.cells = #[v] := by cases v <;> simp_all [Value.oneCell', Value.cells]
    rw [hv]
    exact ⟨by simp only [RepL]; exact ⟨v, [], rfl, hy, rfl⟩, by simpa using h1⟩
  cases x with
  | any => simp [cellsOf] at hc
  | tup fs => simp [cellsOf] at hc
  | agg fs =>
    simp only [cellsOf, Option.some.injEq] at hc
    subst hc
    simp only [RepV] at h
    obtain ⟨vs, rfl, hr, h1⟩ := h
    simpa [Value.cells] using ⟨hr, h1⟩
  | lit u =>
    simp only [RepV] at h
    subst h
    cases v with
    | agg arr =>
      simp only [cellsOf] at hc
      cases ha : arr.all (·.oneCell') with
      | false => simp [ha] at hc
      | true =>
        simp [ha] at hc
        subst hc
        refine ⟨by simpa [Value.cells] using RepL.lits L arr.toList, fun u hu => ?_⟩
        exact (Array.all_eq_true_iff_forall_mem.1 ha) u (by simpa [Value.cells] using hu)
    | tuple _ => simp [cellsOf] at hc
    | _ => simp only [cellsOf, Option.some.injEq] at hc; subst hc; exact one _ (by simp [RepV]) rfl
  | sl sz c =>
    simp only [cellsOf, Option.some.injEq] at hc; subst hc
    refine one _ h ?_
    simp only [RepV] at h
    obtain ⟨A, n, cap, rfl, _⟩ := h
    rfl
  | slc sz c k =>
    simp only [cellsOf, Option.some.injEq] at hc; subst hc
    refine one _ h ?_
    simp only [RepV] at h
    obtain ⟨A, n, rfl, _⟩ := h
    rfl
  | ref id off =>
    simp only [cellsOf, Option.some.injEq] at hc; subst hc
    refine one _ h ?_
    simp only [RepV] at h
    obtain ⟨_, _, _, _, rfl⟩ := h
    rfl
  | row id =>
    simp only [cellsOf, Option.some.injEq] at hc; subst hc
    simp only [RepV] at h
    exact one _ (by simpa [RepV] using h) h.2
  | ip c =>
    simp only [cellsOf, Option.some.injEq] at hc; subst hc
    refine one _ h ?_
    simp only [RepV] at h
    obtain ⟨_, _, _, _, _, _, rfl, _⟩ := h
    rfl
  | clo f c =>
    simp only [cellsOf, Option.some.injEq] at hc; subst hc
    refine one _ h ?_
    simp only [RepV] at h
    obtain ⟨_, rfl, _⟩ := h
    rfl

/-! ### The operations -/
/-- A row of cells with some written over. -/
def over (cs : List AV) (off : Nat) (new : List AV) : List AV := cs.take off ++ new ++ cs.drop (off + new.length)

def fillA (place : Nat → Option (Nat × Nat)) : List AV → List (Nat × List AV) → Option (List AV)
  | cs, [] => some cs
  | cs, (i, new) :: rest => match place i with
    | none => none
    | some (off, size) => bif Nat.beq new.length size && Nat.ble (off + size) cs.length then fillA place (over cs off new) rest else none

def optL {α : Type} : List (Option α) → Option (List α)
  | [] => some []
  | none :: _ => none
  | some x :: r => (optL r).map (x :: ·)

/-- Where the fields of a struct, or the elements of an array, lie. -/
def tyPlaces (P : Program) (t : TypeId) : Option (Nat → Option (Nat × Nat)) :=
  match P.underlying t with
  | some (.struct fields) => match fields.toList.mapM (fun f => (P.info? f.type).map fun i => (f.offset, i.size)) with
    | some places => some (places.toArray[·]?)
    | none => none
  | some (.array _ e) => match P.info? e with
    | some ie => some fun i => some (i * ie.size, ie.size)
    | none => none
  | _ => none
def tyZero (P : Program) (t : TypeId) : Option (List Value) := match P.info? t with
  | some i => i.zero.map (·.cells.toList)
  | none => none
/-- The element's type of a slice's type, and its size in cells and bytes. -/
def tyElem (P : Program) (t : TypeId) : Option (TypeId × Nat × Nat) := match P.underlying t with
  | some (.slice e) => (P.info? e).map fun i => (e, i.size, i.bytes)
  | _ => none
def tyField (P : Program) (t : TypeId) (f : Nat) : Option (Nat × TypeId) := match P.underlying t with
  | some (.struct fields) => match fields[f]? with
    | some x => match P.info? x.type with
      | some i => bif Nat.beq i.size 0 then none else some (x.offset, x.type)
      | none => none
    | none => none
  | _ => none

/-- The bounds of a cut, as they are written. -/
def SS.loOk (S : SS) : Option Operand → Nat → Prop
  | none, l => l = 0
  | some y, l => ∃ k i, S.ev y = .lit (.int k i) ∧ 0 ≤ i ∧ l = i.toNat
def SS.hiOk (S : SS) : Option Operand → Nat → Nat → Prop
  | none, n, m => m = n
  | some y, _, m => ∃ k i, S.ev y = .lit (.int k i) ∧ 0 ≤ i ∧ m = i.toNat
def SS.mxOk (S : SS) : Option Operand → Bool → Nat → Prop
  | none, _, _ => True
  | some y, b, m => ∃ k i, S.ev y = .lit (.int k i) ∧ 0 ≤ i ∧ m = i.toNat ∧ b = true

mutual
def AV.frz (id sz : Nat) (cs : List AV) : AV → AV
  | .row i => bif Nat.beq i id then .sl sz cs else .row i
  | .agg fs => .agg (frzL id sz cs fs)
  | .tup fs => .tup (frzL id sz cs fs)
  | .clo f fs => .clo f (frzL id sz cs fs)
  | .any => .any
  | .lit v => .lit v
  | .sl s c => .sl s c
  | .slc s c k => .slc s c k
  | .ref i o => .ref i o
  | .ip c => .ip c
def frzL (id sz : Nat) (cs : List AV) : List AV → List AV
  | [] => []
  | x :: xs => x.frz id sz cs :: frzL id sz cs xs
end
mutual
theorem RepV.frz {H H' : Heap} (hH : H.le H') {id sz : Nat} {cs : List AV} {v0 : Value} (h0 : RepV H' (.sl sz cs) noLoc v0) : ∀ {x : AV} {L : Loc} {v : Value}, L id = some v0 → RepV H x L v → RepV H' (x.frz id sz cs) L v
  | .any, _, _, _, _ => by simp [AV.frz, RepV]
  | .lit _, _, _, _, h => by simpa [AV.frz, RepV] using h
  | .sl s c, L, _, _, h => by simp only [AV.frz]; exact RepV.mono hH (Loc.le_refl _) h
  | .slc s c _, L, _, _, h => by simp only [AV.frz]; exact RepV.mono hH (Loc.le_refl _) h
  | .ip c, L, _, _, h => by simp only [AV.frz]; exact RepV.mono hH (Loc.le_refl _) h
  | .ref i o, L, _, _, h => by simp only [AV.frz]; exact RepV.mono hH (Loc.le_refl _) h
  | .row i, L, v, hl, h => by
    simp only [AV.frz]
    cases hb : Nat.beq i id with
    | true =>
      have := Nat.eq_of_beq_eq_true hb
      subst this
      simp only [RepV] at h
      rw [hl] at h
      have := Option.some.inj h.1
      subst this
      exact RepV.mono (Heap.le_refl _) (noLoc_le L) h0
    | false => exact RepV.mono hH (Loc.le_refl _) h
  | .agg fs, _, _, hl, h => by
    simp only [AV.frz, RepV] at h ⊢
    obtain ⟨vs, rfl, hr, h1⟩ := h
    exact ⟨vs, rfl, RepL.frz hH h0 hl hr, h1⟩
  | .tup fs, _, _, hl, h => by
    simp only [AV.frz, RepV] at h ⊢
    obtain ⟨vs, rfl, hr⟩ := h
    exact ⟨vs, rfl, RepL.frz hH h0 hl hr⟩
  | .clo f fs, _, _, hl, h => by
    simp only [AV.frz, RepV] at h ⊢
    obtain ⟨vs, rfl, hr⟩ := h
    exact ⟨vs, rfl, RepL.frz hH h0 hl hr⟩
theorem RepL.frz {H H' : Heap} (hH : H.le H') {id sz : Nat} {cs : List AV} {v0 : Value} (h0 : RepV H' (.sl sz cs) noLoc v0) : ∀ {xs : List AV} {L : Loc} {vs : List Value}, L id = some v0 → RepL H xs L vs → RepL H' (frzL id sz cs xs) L vs
  | [], _, _, _, h => by simpa [frzL, RepL] using h
  | x :: xs, _, _, hl, h => by
    simp only [frzL, RepL] at h ⊢
    obtain ⟨v, r, rfl, h1, h2⟩ := h
    exact ⟨v, r, rfl, RepV.frz hH h0 hl h1, RepL.frz hH h0 hl h2⟩
end
/-- Rows that are let go. -/
def frzAll : List (Nat × Nat × List AV) → List AV → List AV
  | [], as => as
  | (id, sz, cs) :: r, as => frzAll r (frzL id sz cs as)

/-- The zero value of a type. -/
def tyZ1 (P : Program) (t : TypeId) : Option Value := match P.info? t with
  | some i => i.zero
  | none => none
/-- A function that hands back a closure over two variables of its own. -/
def ECallsW (C : Ctx) (f : FuncId) (args : List AV) (f2 : FuncId) (t1 : TypeId) (cs1 : List AV) (t2 : TypeId) (cs2 : List AV) : Prop :=
  ∀ (H : Heap) (L : Loc) (vals : List Value) (w : World), C.G H → (∀ b o, H b = some o → w.heap[b]? = some o) → RepL H args L vals →
    Calls C.P f vals.toArray w fun e w' => ∃ H' g1 g2 vs1 vs2, e = .returned (.func (.func f2) #[] #[.pointer (some ⟨g1, 0, none⟩), .pointer (some ⟨g2, 0, none⟩)]) ∧ Ext w.heap.size H H' ∧ (∀ b o, H' b = some o → w'.heap[b]? = some o) ∧ Below w.heap.size w w' ∧
      g1 ≠ g2 ∧ w.heap.size ≤ g1 ∧ w.heap.size ≤ g2 ∧ H' g1 = none ∧ H' g2 = none ∧ w'.heap[g1]? = some (.cells (List.toArray vs1) t1 (0, 0)) ∧ w'.heap[g2]? = some (.cells (List.toArray vs2) t2 (0, 0)) ∧
      RepL H' cs1 noLoc vs1 ∧ RepL H' cs2 noLoc vs2 ∧ (∀ u ∈ vs1, u.oneCell' = true) ∧ (∀ u ∈ vs2, u.oneCell' = true)

/-- A function that hands back, within its result, one row that the caller may write to. -/
def ECallsM (C : Ctx) (f : FuncId) (args : List AV) (res : AV) (id : Nat) (e : TypeId) (sz : Nat) (cs : List AV) : Prop :=
  ∀ (H : Heap) (L : Loc) (vals : List Value) (w : World), C.G H → (∀ b o, H b = some o → w.heap[b]? = some o) → RepL H args L vals →
    Calls C.P f vals.toArray w fun x w' => ∃ H' v rv, x = .returned v ∧ RepV H' res (noLoc.set id (some rv)) v ∧ RepO H' w.heap.size w' (noLoc.set id (some rv)) id (.row e sz cs) ∧ Ext w.heap.size H H' ∧ (∀ b o, H' b = some o → w'.heap[b]? = some o) ∧ Below w.heap.size w w'

inductive Step (C : Ctx) (S : SS) (o : Oper) : Eff → Prop
  | pure (v : Value) (h : ∀ ρ : Operand → Value, (∀ x ∈ o.op.operands, ∀ u, S.ev x = .lit u → ρ x = u) → ∀ w, (execOp ρ o).run C.P w = .ok (.value v) w) : Step C S o { val := .lit v }
  | copy (x : Operand) (h : o.op = .move x ∨ o.op = .assign x) : Step C S o { val := S.ev x }
  | pick (c a b : Operand) (t : Bool) (h : o.op = .pick c a b) (hc : S.ev c = .lit (.bool t)) : Step C S o { val := bif t then S.ev a else S.ev b }
  | lenSl (t : TypeId) (e : TypeId) (x : Operand) (sz n : Nat) (cs : List AV) (h : o.op = .call { callee := .builtin .len, args := #[x], argTypes := #[t] }) (ht : C.P.underlying t = some (.slice e))
      (hx : S.ev x = .sl sz cs) (hn : cs.length = n * sz) : Step C S o { val := .lit (.int .i64 n) }
  | lenRow (t : TypeId) (e e' : TypeId) (x : Operand) (id sz n : Nat) (cs : List AV) (h : o.op = .call { callee := .builtin .len, args := #[x], argTypes := #[t] }) (ht : C.P.underlying t = some (.slice e))
      (hx : S.ev x = .row id) (ho : S.μ id = some (.row e' sz cs)) (hn : cs.length = n * sz) : Step C S o { val := .lit (.int .i64 n), use := [id] }
  | call (f : FuncId) (args : Array Operand) (tys : Array TypeId) (as : List AV) (res : AV) (h : o.op = .call { callee := .value (.func f), args := args, argTypes := tys }) (hb : ((C.P.funcs[f]?).map (·.body.isSome)) = some true) (hnm : ((C.P.funcs[f]?).map (·.name == "runtime.NumGoroutine")) = some false)
      (ha : args.toList.map S.ev = as) (hc : ECalls C f as res) : Step C S o { val := res }
  | callG (y : Operand) (f : FuncId) (args : Array Operand) (tys : Array TypeId) (caps : List AV) (us : List (Nat × Nat × List AV)) (as : List AV) (res : AV) (h : o.op = .call { callee := .value y, args := args, argTypes := tys }) (hy : S.ev y = .clo f caps) (hb : ((C.P.funcs[f]?).map (·.body.isSome)) = some true) (hnm : ((C.P.funcs[f]?).map (·.name == "runtime.NumGoroutine")) = some false)
      (hu : ∀ p ∈ us, ∃ e, S.μ p.1 = some (.row e p.2.1 p.2.2)) (hnd : (us.map (·.1)).Nodup) (ha : frzAll us (args.toList.map S.ev ++ caps) = as) (hc : ECalls C f as res) : Step C S o { val := res, use := us.map (·.1), upd := us.map fun p => (p.1, none) }
  | callB (y : Operand) (f : FuncId) (args : Array Operand) (tys : Array TypeId) (caps : List AV) (us : List (Nat × Nat × List AV)) (as : List AV) (u : Value) (h : o.op = .call { callee := .value y, args := args, argTypes := tys }) (hy : S.ev y = .clo f caps) (hb : ((C.P.funcs[f]?).map (·.body.isSome)) = some true) (hnm : ((C.P.funcs[f]?).map (·.name == "runtime.NumGoroutine")) = some false)
      (hu : ∀ p ∈ us, ∃ e, S.μ p.1 = some (.row e p.2.1 p.2.2)) (hnd : (us.map (·.1)).Nodup) (ha : frzAll us (args.toList.map S.ev ++ caps) = as) (hc : ECalls C f as (.lit u)) : Step C S o { val := .lit u, use := us.map (·.1) }
  | callW (f : FuncId) (args : Array Operand) (tys : Array TypeId) (as : List AV) (f2 : FuncId) (t1 t2 : TypeId) (cs1 cs2 : List AV) (id1 id2 : Nat) (h : o.op = .call { callee := .value (.func f), args := args, argTypes := tys }) (hb : ((C.P.funcs[f]?).map (·.body.isSome)) = some true) (hnm : ((C.P.funcs[f]?).map (·.name == "runtime.NumGoroutine")) = some false)
      (ha : args.toList.map S.ev = as) (hne : id1 ≠ id2) (hc1 : closedL cs1 = true) (hc2 : closedL cs2 = true) (hc : ECallsW C f as f2 t1 cs1 t2 cs2) : Step C S o { val := .clo f2 [.ref id1 0, .ref id2 0], upd := [(id1, some (.var t1 cs1)), (id2, some (.var t2 cs2))], fresh := [id1, id2] }
  | callM (f : FuncId) (args : Array Operand) (tys : Array TypeId) (as : List AV) (res : AV) (id : Nat) (e : TypeId) (sz : Nat) (cs : List AV) (h : o.op = .call { callee := .value (.func f), args := args, argTypes := tys }) (hb : ((C.P.funcs[f]?).map (·.body.isSome)) = some true) (hnm : ((C.P.funcs[f]?).map (·.name == "runtime.NumGoroutine")) = some false)
      (ha : args.toList.map S.ev = as) (hc : ECallsM C f as res id e sz cs) : Step C S o { val := res, upd := [(id, some (.row e sz cs))], fresh := [id] }
  | alloc (t : TypeId) (z : List Value) (id : Nat) (h : o.op = .alloc t) (hz : tyZero C.P t = some z) (h1 : z.all (·.oneCell') = true) : Step C S o { val := .ref id 0, upd := [(id, some (.var t (z.map .lit)))], fresh := [id] }
  | box (t : TypeId) (x : Operand) (id : Nat) (cs : List AV) (h : o.op = .box t x) (hx : cellsOf (S.ev x) = some cs) : Step C S o { val := .ref id 0, upd := [(id, some (.var t cs))], fresh := [id] }
  | loadA (t : TypeId) (x : Operand) (id off k : Nat) (ob : AO) (h : o.op = .load t x) (hx : S.ev x = .ref id off) (ho : S.μ id = some ob) (hni : ob.isIter = false) (ht : tyAgg C.P t = some k) (hk : off + k ≤ ob.cells.length) :
      Step C S o { val := .agg ((ob.cells.drop off).take k), use := [id] }
  | loadS (t : TypeId) (x : Operand) (id off : Nat) (ob : AO) (c : AV) (h : o.op = .load t x) (hx : S.ev x = .ref id off) (ho : S.μ id = some ob) (ht : tySc C.P t = true) (hk : ob.cells[off]? = some c) :
      Step C S o { val := c, use := [id] }
  | loadIA (t : TypeId) (x : Operand) (k : Nat) (cs : List AV) (h : o.op = .load t x) (hx : S.ev x = .ip cs) (ht : tyAgg C.P t = some k) (hk : k ≤ cs.length) : Step C S o { val := .agg (cs.take k) }
  | loadIS (t : TypeId) (x : Operand) (c : AV) (cs : List AV) (h : o.op = .load t x) (hx : S.ev x = .ip cs) (ht : tySc C.P t = true) (hk : cs[0]? = some c) : Step C S o { val := c }
  | store (t : TypeId) (x y : Operand) (id off k : Nat) (ob : AO) (new : List AV) (h : o.op = .store t x y) (hx : S.ev x = .ref id off) (ho : S.μ id = some ob) (hy : cellsOf (S.ev y) = some new) (hv : ob.isVar = true) (ht : tySize C.P t = some k)
      (hn : new.length = k) (hk : off + k ≤ ob.cells.length) : Step C S o { val := .any, upd := [(id, some (ob.put (over ob.cells off new)))], use := [id] }
  | storeRow (t : TypeId) (x y : Operand) (id off k : Nat) (e : TypeId) (sz : Nat) (cs new : List AV) (h : o.op = .store t x y) (hx : S.ev x = .ref id off) (ho : S.μ id = some (.row e sz cs)) (hy : cellsOf (S.ev y) = some new) (hcl : closedL new = true) (ht : tySize C.P t = some k)
      (hn : new.length = k) (hk : off + k ≤ cs.length) : Step C S o { val := .any, upd := [(id, some (.row e sz (over cs off new)))], use := [id] }
  | fieldRef (t : TypeId) (x : Operand) (f id off fo : Nat) (ft : TypeId) (h : o.op = .fieldAddr t x f) (hx : S.ev x = .ref id off) (hf : tyField C.P t f = some (fo, ft)) : Step C S o { val := .ref id (off + fo) }
  | fieldIp (t : TypeId) (x : Operand) (f fo : Nat) (ft : TypeId) (cs : List AV) (h : o.op = .fieldAddr t x f) (hx : S.ev x = .ip cs) (hf : tyField C.P t f = some (fo, ft)) (hk : fo < cs.length) : Step C S o { val := .ip (cs.drop fo) }
  | fieldS (t : TypeId) (x : Operand) (f fo : Nat) (ft : TypeId) (cs : List AV) (c : AV) (h : o.op = .field t x f) (hx : S.ev x = .agg cs) (hf : tyField C.P t f = some (fo, ft)) (ht : tySc C.P ft = true) (hk : cs[fo]? = some c) : Step C S o { val := c }
  | fieldA (t : TypeId) (x : Operand) (f fo k : Nat) (ft : TypeId) (cs : List AV) (h : o.op = .field t x f) (hx : S.ev x = .agg cs) (hf : tyField C.P t f = some (fo, ft)) (ht : tyAgg C.P ft = some k) (hk : fo + k ≤ cs.length) : Step C S o { val := .agg ((cs.drop fo).take k) }
  | indexSl (t : TypeId) (x y : Operand) (e : TypeId) (sz by' : Nat) (cs : List AV) (k : IntKind) (i : Int) (h : o.op = .indexAddr t x y) (ht : tyElem C.P t = some (e, sz, by')) (hx : S.ev x = .sl sz cs) (hy : S.ev y = .lit (.int k i)) (h0 : 0 ≤ i) (h1 : i.toNat * sz < cs.length) : Step C S o { val := .ip (cs.drop (i.toNat * sz)) }
  | indexRow (t : TypeId) (x y : Operand) (e e' : TypeId) (id sz by' : Nat) (cs : List AV) (k : IntKind) (i : Int) (h : o.op = .indexAddr t x y) (ht : tyElem C.P t = some (e, sz, by')) (hx : S.ev x = .row id) (ho : S.μ id = some (.row e' sz cs)) (hy : S.ev y = .lit (.int k i)) (h0 : 0 ≤ i) (h1 : i.toNat * sz < cs.length) :
      Step C S o { val := .ref id (i.toNat * sz), use := [id] }
  | build (t : TypeId) (parts : Array (Nat × Operand)) (pl : Nat → Option (Nat × Nat)) (z : List Value) (ps : List (Nat × List AV)) (cs : List AV) (h : o.op = .build t parts) (hp : tyPlaces C.P t = some pl) (hz : tyZero C.P t = some z) (h1 : z.all (·.oneCell') = true)
      (hps : optL (parts.toList.map fun (i, x) => (cellsOf (S.ev x)).map fun c => (i, c)) = some ps) (hc : fillA pl (z.map .lit) ps = some cs) : Step C S o { val := .agg cs }
  | buildSlice (t : TypeId) (len : Nat) (parts : Array (Nat × Operand)) (e : TypeId) (sz by' : Nat) (z : List Value) (ps : List (Nat × List AV)) (cs : List AV) (id : Nat) (h : o.op = .buildSlice t len parts) (ht : tyElem C.P t = some (e, sz, by')) (hsz : 0 < sz) (hz : tyZero C.P e = some z) (h1 : z.all (·.oneCell') = true)
      (hzl : z.length = sz) (hps : optL (parts.toList.map fun (i, x) => (cellsOf (S.ev x)).map fun c => (i, c)) = some ps) (hc : fillA (fun i => some (i * sz, sz)) ((List.range (len * sz)).map fun j => .lit (z.getD (j % sz) undef)) ps = some cs) (hcl : closedL cs = true) (hl : len * sz ≤ 16777216) :
      Step C S o { val := .row id, upd := [(id, some (.row e sz cs))], fresh := [id] }
  | make0 (t : TypeId) (x y : Operand) (e : TypeId) (sz by' : Nat) (z : List Value) (k k' : IntKind) (c : Int) (id : Nat) (h : o.op = .makeSlice t x y) (ht : tyElem C.P t = some (e, sz, by')) (hsz : 0 < sz) (hz : tyZero C.P e = some z) (hx : S.ev x = .lit (.int k 0)) (hy : S.ev y = .lit (.int k' c))
      (h0 : 0 ≤ c) (hb : by' * c.toNat ≤ 281474976710656) (hm : c ≤ 9223372036854775807) : Step C S o { val := .row id, upd := [(id, some (.row e sz []))], fresh := [id] }
  | makeN (t : TypeId) (x y : Operand) (e : TypeId) (by' : Nat) (z : Value) (k k' : IntKind) (c : Int) (id : Nat) (h : o.op = .makeSlice t x y) (ht : tyElem C.P t = some (e, 1, by')) (hz : tyZero C.P e = some [z]) (h1 : z.oneCell' = true) (hx : S.ev x = .lit (.int k c)) (hy : S.ev y = .lit (.int k' c))
      (h0 : 0 ≤ c) (hb : by' * c.toNat ≤ 140737488355328) (hby : 0 < by') : Step C S o { val := .row id, upd := [(id, some (.row e 1 (List.replicate c.toNat (.lit z))))], fresh := [id] }
  | sliceSl (t : TypeId) (x : Operand) (lo hi mx : Option Operand) (e : TypeId) (sz by' n : Nat) (cs : List AV) (l m : Nat) (h : o.op = .slice t x lo hi mx) (ht : tyElem C.P t = some (e, sz, by')) (hx : S.ev x = .sl sz cs) (hn : cs.length = n * sz)
      (hlo : S.loOk lo l) (hhi : S.hiOk hi n m) (hmx : S.mxOk mx hi.isSome m)
      (h1 : l ≤ m) (h2 : m ≤ n) : Step C S o { val := .sl sz ((cs.drop (l * sz)).take ((m - l) * sz)) }
  | sliceX (t : TypeId) (x : Operand) (lo hi mx : Option Operand) (e : TypeId) (sz by' n : Nat) (cs : List AV) (l m : Nat) (h : o.op = .slice t x lo hi mx) (ht : tyElem C.P t = some (e, sz, by')) (hx : S.ev x = .sl sz cs) (hn : cs.length = n * sz)
      (hlo : S.loOk lo l) (hhi : S.hiOk hi n m) (hmx : S.mxOk mx hi.isSome m)
      (hs : mx.isSome = true) (h1 : l ≤ m) (h2 : m ≤ n) : Step C S o { val := .slc sz ((cs.drop (l * sz)).take ((m - l) * sz)) (m - l) }
  | append (t : TypeId) (s x : Operand) (e : TypeId) (sz by' : Nat) (z : List Value) (id id' : Nat) (cs ds : List AV) (us : List Nat) (h : o.op = .call { callee := .builtin .append, args := #[s, x], argTypes := #[t, t] }) (ht : tyElem C.P t = some (e, sz, by')) (hsz : 0 < sz) (hz : tyZero C.P e = some z) (hzl : z.length = sz)
      (hs : S.ev s = .row id) (ho : S.μ id = some (.row e sz cs)) (hx : S.ev x = .sl sz ds ∧ us = [id] ∨ ∃ i e', S.ev x = .row i ∧ S.μ i = some (.row e' sz ds) ∧ us = [id, i]) (hb : (cs.length + ds.length) / sz * by' ≤ 140737488355328) (hl : cs.length + ds.length ≤ 140737488355328) :
      Step C S o { val := .row id', upd := [(id', some (.row e sz (cs ++ ds))), (id, none)], use := us, fresh := [id'] }
  | appendNil (t : TypeId) (s x : Operand) (e : TypeId) (sz by' : Nat) (z : List Value) (id' : Nat) (ds : List AV) (us : List Nat) (h : o.op = .call { callee := .builtin .append, args := #[s, x], argTypes := #[t, t] }) (ht : tyElem C.P t = some (e, sz, by')) (hsz : 0 < sz) (hz : tyZero C.P e = some z) (hzl : z.length = sz)
      (hs : S.ev s = .lit (.slice none 0 0)) (hx : S.ev x = .sl sz ds ∧ us = [] ∨ ∃ i e', S.ev x = .row i ∧ S.μ i = some (.row e' sz ds) ∧ us = [i]) (hb : ds.length / sz * by' ≤ 140737488355328) (hl : ds.length ≤ 140737488355328) :
      Step C S o { val := .row id', upd := [(id', some (.row e sz ds))], use := us, fresh := [id'] }
  | appendS (t tu : TypeId) (s x : Operand) (e : TypeId) (id id' : Nat) (cs : List AV) (str : ByteArray) (h : o.op = .call { callee := .builtin .append, args := #[s, x], argTypes := #[t, tu] }) (ht : tyElem C.P t = some (e, 1, 1)) (hus : C.P.underlying tu = some .string) (hz : tyZ1 C.P e = some (.int .u8 0))
      (hs : S.ev s = .row id) (ho : S.μ id = some (.row e 1 cs)) (hx : S.ev x = .lit (.string str)) (hb : cs.length + str.size ≤ 140737488355328) :
      Step C S o { val := .row id', upd := [(id', some (.row e 1 (cs ++ (Lib.strCells str).map AV.lit))), (id, none)], use := [id], fresh := [id'] }
  | iterNew (t : TypeId) (x : Operand) (id : Nat) (a : ByteArray) (h : o.op = .range t x) (ht : C.P.underlying t = some .string) (hx : S.ev x = .lit (.string a)) : Step C S o { val := .ref id 0, upd := [(id, some (.blk (.stringIter a 0)))], fresh := [id] }
  | iterNext (x : Operand) (id : Nat) (a : ByteArray) (pos : Nat) (h : o.op = .next x true) (hx : S.ev x = .ref id 0) (ho : S.μ id = some (.blk (.stringIter a pos))) (hp : pos < a.size) :
      Step C S o { val := .tup [.lit (.bool true), .lit (goInt pos), .lit (.int .i32 (Utf8.decode a pos).1)], upd := [(id, some (.blk (.stringIter a (pos + (Utf8.decode a pos).2))))], use := [id] }
  | iterEnd (x : Operand) (id : Nat) (a : ByteArray) (pos : Nat) (h : o.op = .next x true) (hx : S.ev x = .ref id 0) (ho : S.μ id = some (.blk (.stringIter a pos))) (hp : ¬ pos < a.size) : Step C S o { val := .tup [.lit (.bool false)], use := [id] }
  | extract (x : Operand) (i : Nat) (fs : List AV) (c : AV) (h : o.op = .extract x i) (hx : S.ev x = .tup fs) (hi : fs[i]? = some c) : Step C S o { val := c }
  | strOf (t t' : TypeId) (x : Operand) (id e sz : Nat) (bs : List Int) (cs : List AV) (h : o.op = .convert t t' x) (ht : C.P.underlying t = some (.slice e)) (he : C.P.underlying e = some (.int .u8)) (ht' : C.P.underlying t' = some .string)
      (hx : S.ev x = .row id) (ho : S.μ id = some (.row e sz cs)) (hsz : sz = 1) (hc : cs = bs.map fun b => .lit (.int .u8 b)) : Step C S o { val := .lit (.string (strOfNums bs)), use := [id] }
  | makeFunc (f : FuncId) (caps : Array Operand) (h : o.op = .makeFunc (.func f) #[] caps) : Step C S o { val := .clo f (caps.toList.map S.ev) }
  | nilRef (x : Operand) (id off : Nat) (h : o.op = .nilCheck x) (hx : S.ev x = .ref id off) : Step C S o { val := .ref id off }
  | nilIp (x : Operand) (cs : List AV) (h : o.op = .nilCheck x) (hx : S.ev x = .ip cs) : Step C S o { val := .ip cs }
end Go.Ab
