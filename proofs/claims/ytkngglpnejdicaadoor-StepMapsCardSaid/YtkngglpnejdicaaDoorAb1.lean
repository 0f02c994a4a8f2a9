/- A value-level reading of Go code: abstract values, abstract states, and what it means that a frame and a world stand for one. Over any program. -/
import Derived.Below
import Derived.Orders
import Derived.WalkKit
import Derived.KernelRfl
import Derived.Laws.OwnMore
import Derived.Laws.Rows
import Derived.Laws.Slices
import Derived.Laws.Entries
set_option linter.unusedVariables false
set_option linter.unusedSimpArgs false
namespace Go.Ab
open Go.RowKit

/-- Abstract values. 'sl': a slice that nobody writes to, its cells in a row; 'ref': the address of a cell of an own object; 'row': an own slice; 'ip': an address in a row that nobody writes to, and what lies from there on. 'slc': as 'sl', with a known capacity. -/
inductive AV where
  | any
  | lit (v : Value)
  | sl (sz : Nat) (cells : List AV)
  | agg (fs : List AV)
  | tup (fs : List AV)
  | ref (id off : Nat)
  | row (id : Nat)
  | ip (cells : List AV)
  | clo (f : FuncId) (caps : List AV)
  | slc (sz : Nat) (cells : List AV) (cap : Nat)

/-- Own objects: a variable in memory; a slice of the call's own; a block; a ghost: values kept aside. -/
inductive AO where
  | var (t : TypeId) (cells : List AV)
  | row (e : TypeId) (sz : Nat) (cells : List AV)
  | blk (o : Obj)
  | pin (cells : List AV) (us : List Value)

def ownB : Value → Option Nat
  | .pointer (some a) => some a.block
  | .slice (some a) _ _ => some a.block
  | _ => none

abbrev Heap := Nat → Option Obj
abbrev Loc := Nat → Option Value
def noLoc : Loc := fun _ => none
def Heap.le (H H' : Heap) : Prop := ∀ b o, H b = some o → H' b = some o
def Loc.le (L L' : Loc) : Prop := ∀ i v, L i = some v → L' i = some v
theorem Heap.le_refl (H : Heap) : H.le H := fun _ _ h => h
theorem Heap.le_trans {H H' H'' : Heap} (h : H.le H') (k : H'.le H'') : H.le H'' := fun b o e => k b o (h b o e)
theorem Loc.le_refl (L : Loc) : L.le L := fun _ _ h => h
theorem noLoc_le (L : Loc) : Loc.le noLoc L := fun _ _ h => by cases h

mutual
def RepV (H : Heap) : AV → Loc → Value → Prop
  | .any, _, _ => True
  | .lit v, _, v' => v' = v
  | .sl sz cs, _, v => ∃ A n cap, v = .slice A n cap ∧ n ≤ cap ∧ cap ≤ maxLen ∧ 0 < sz ∧ cs.length = n * sz ∧ (cs.length ≤ 140737488355328 ∧ (A = none → cap = 0)) ∧
      (0 < n → ∃ b off o t fr vs, A = some ⟨b, off, none⟩ ∧ H b = some (.cells o t fr) ∧ (∀ (j : Nat) (u : Value), vs[j]? = some u → o[off + j]? = some u) ∧ RepL H cs noLoc vs ∧ ∀ u ∈ vs, u.oneCell' = true)
  | .slc sz cs cap, _, v => ∃ A n, v = .slice A n cap ∧ n ≤ cap ∧ cap ≤ maxLen ∧ 0 < sz ∧ cs.length = n * sz ∧ (cs.length ≤ 140737488355328 ∧ (A = none → cap = 0)) ∧
      (0 < n → ∃ b off o t fr vs, A = some ⟨b, off, none⟩ ∧ H b = some (.cells o t fr) ∧ (∀ (j : Nat) (u : Value), vs[j]? = some u → o[off + j]? = some u) ∧ RepL H cs noLoc vs ∧ ∀ u ∈ vs, u.oneCell' = true)
  | .agg fs, L, v => ∃ vs : List Value, v = .agg vs.toArray ∧ RepL H fs L vs ∧ ∀ u ∈ vs, u.oneCell' = true
  | .tup fs, L, v => ∃ vs : List Value, v = .tuple vs.toArray ∧ RepL H fs L vs
  | .ref id off, L, v => ∃ x g, L id = some x ∧ ownB x = some g ∧ v = .pointer (some ⟨g, off, none⟩)
  | .row id, L, v => L id = some v ∧ v.oneCell' = true
  | .ip cs, _, v => ∃ b off o t fr vs, v = .pointer (some ⟨b, off, none⟩) ∧ H b = some (.cells o t fr) ∧ (∀ (j : Nat) (u : Value), vs[j]? = some u → o[off + j]? = some u) ∧ RepL H cs noLoc vs ∧ ∀ u ∈ vs, u.oneCell' = true
  | .clo f cs, L, v => ∃ vs : List Value, v = .func (.func f) #[] vs.toArray ∧ RepL H cs L vs
def RepL (H : Heap) : List AV → Loc → List Value → Prop
  | [], _, vs => vs = []
  | x :: xs, L, vs => ∃ v r, vs = v :: r ∧ RepV H x L v ∧ RepL H xs L r
end

mutual
def AV.has (id : Nat) : AV → Bool
  | .ref i _ => Nat.beq i id
  | .row i => Nat.beq i id
  | .agg fs => hasL id fs
  | .tup fs => hasL id fs
  | .clo _ fs => hasL id fs
  | _ => false
def hasL (id : Nat) : List AV → Bool
  | [] => false
  | x :: xs => x.has id || hasL id xs
end
def AO.has (id : Nat) : AO → Bool
  | .var _ cs => hasL id cs
  | .row .. => false
  | .blk _ => false
  | .pin cs _ => hasL id cs

mutual
theorem RepV.mono {H H' : Heap} (hH : H.le H') : ∀ {x : AV} {L L' : Loc} {v : Value}, Loc.le L L' → RepV H x L v → RepV H' x L' v
  | .any, _, _, _, _, _ => by simp [RepV]
  | .lit _, _, _, _, _, h => by simpa [RepV] using h
  | .sl sz cs, _, _, _, _, h => by
    simp only [RepV] at h ⊢
    obtain ⟨A, n, cap, rfl, h1, h2, h3, h4, h4', h5⟩ := h
    refine ⟨A, n, cap, rfl, h1, h2, h3, h4, h4', fun hn => ?_⟩
    obtain ⟨b, off, o, t, fr, vs, e, hb, hc, hr, h1c⟩ := h5 hn
    exact ⟨b, off, o, t, fr, vs, e, hH _ _ hb, hc, RepL.mono hH (Loc.le_refl _) hr, h1c⟩
  | .slc sz cs cap, _, _, _, _, h => by
    simp only [RepV] at h ⊢
    obtain ⟨A, n, rfl, h1, h2, h3, h4, h4', h5⟩ := h
    refine ⟨A, n, rfl, h1, h2, h3, h4, h4', fun hn => ?_⟩
    obtain ⟨b, off, o, t, fr, vs, e, hb, hc, hr, h1c⟩ := h5 hn
    exact ⟨b, off, o, t, fr, vs, e, hH _ _ hb, hc, RepL.mono hH (Loc.le_refl _) hr, h1c⟩
  | .agg fs, _, _, _, hL, h => by
    simp only [RepV] at h ⊢
    obtain ⟨vs, rfl, hr, h1⟩ := h
    exact ⟨vs, rfl, RepL.mono hH hL hr, h1⟩
  | .tup fs, _, _, _, hL, h => by
    simp only [RepV] at h ⊢
    obtain ⟨vs, rfl, hr⟩ := h
    exact ⟨vs, rfl, RepL.mono hH hL hr⟩
  | .ref id off, _, _, _, hL, h => by
    simp only [RepV] at h ⊢
    obtain ⟨x, g, h1, h2, h3⟩ := h
    exact ⟨x, g, hL _ _ h1, h2, h3⟩
  | .row id, _, _, _, hL, h => by
    simp only [RepV] at h ⊢
    exact ⟨hL _ _ h.1, h.2⟩
  | .ip cs, _, _, _, _, h => by
    simp only [RepV] at h ⊢
    obtain ⟨b, off, o, t, fr, vs, e, hb, hc, hr, h1c⟩ := h
    exact ⟨b, off, o, t, fr, vs, e, hH _ _ hb, hc, RepL.mono hH (Loc.le_refl _) hr, h1c⟩
  | .clo f cs, _, _, _, hL, h => by
    simp only [RepV] at h ⊢
    obtain ⟨vs, rfl, hr⟩ := h
    exact ⟨vs, rfl, RepL.mono hH hL hr⟩
theorem RepL.mono {H H' : Heap} (hH : H.le H') : ∀ {xs : List AV} {L L' : Loc} {vs : List Value}, Loc.le L L' → RepL H xs L vs → RepL H' xs L' vs
  | [], _, _, _, _, h => by simpa [RepL] using h
  | x :: xs, _, _, _, hL, h => by
    simp only [RepL] at h ⊢
    obtain ⟨v, r, rfl, h1, h2⟩ := h
    exact ⟨v, r, rfl, RepV.mono hH hL h1, RepL.mono hH hL h2⟩
end

def Loc.set (L : Loc) (id : Nat) (x : Option Value) : Loc := fun i => if i = id then x else L i

mutual
/-- A change of the place of an object that a value doesn't name. -/
theorem RepV.setL {H : Heap} {id : Nat} {y : Option Value} : ∀ {x : AV} {L : Loc} {v : Value}, x.has id = false → RepV H x L v → RepV H x (L.set id y) v
  | .any, _, _, _, _ => by simp [RepV]
  | .lit _, _, _, _, h => by simpa [RepV] using h
  | .sl sz cs, _, _, _, h => by simpa [RepV] using h
  | .slc sz cs _, _, _, _, h => by simpa [RepV] using h
  | .agg fs, _, _, hn, h => by
    simp only [RepV, AV.has] at h hn ⊢
    obtain ⟨vs, rfl, hr, h1⟩ := h
    exact ⟨vs, rfl, RepL.setL hn hr, h1⟩
  | .tup fs, _, _, hn, h => by
    simp only [RepV, AV.has] at h hn ⊢
    obtain ⟨vs, rfl, hr⟩ := h
    exact ⟨vs, rfl, RepL.setL hn hr⟩
  | .ref i off, _, _, hn, h => by
    simp only [RepV, AV.has] at h hn ⊢
    obtain ⟨x, g, h1, h2, h3⟩ := h
    exact ⟨x, g, by simp [Loc.set, Nat.ne_of_beq_eq_false hn, h1], h2, h3⟩
  | .row i, _, _, hn, h => by
    simp only [RepV, AV.has] at h hn ⊢
    exact ⟨by simp [Loc.set, Nat.ne_of_beq_eq_false hn, h.1], h.2⟩
  | .ip cs, _, _, _, h => by simpa [RepV] using h
  | .clo f cs, _, _, hn, h => by
    simp only [RepV, AV.has] at h hn ⊢
    obtain ⟨vs, rfl, hr⟩ := h
    exact ⟨vs, rfl, RepL.setL hn hr⟩
theorem RepL.setL {H : Heap} {id : Nat} {y : Option Value} : ∀ {xs : List AV} {L : Loc} {vs : List Value}, hasL id xs = false → RepL H xs L vs → RepL H xs (L.set id y) vs
  | [], _, _, _, h => by simpa [RepL] using h
  | x :: xs, _, _, hn, h => by
    simp only [RepL, hasL, Bool.or_eq_false_iff] at h hn ⊢
    obtain ⟨v, r, rfl, h1, h2⟩ := h
    exact ⟨v, r, rfl, RepV.setL hn.1 h1, RepL.setL hn.2 h2⟩
end

mutual
/-- Does a value name no own object? -/
def AV.closed : AV → Bool
  | .ref .. => false
  | .row _ => false
  | .agg fs => closedL fs
  | .tup fs => closedL fs
  | .clo _ fs => closedL fs
  | _ => true
def closedL : List AV → Bool
  | [] => true
  | x :: xs => x.closed && closedL xs
end
mutual
theorem RepV.closed {H : Heap} : ∀ {x : AV} {L L' : Loc} {v : Value}, x.closed = true → RepV H x L v → RepV H x L' v
  | .any, _, _, _, _, _ => by simp [RepV]
  | .lit _, _, _, _, _, h => by simpa [RepV] using h
  | .sl sz cs, _, _, _, _, h => by simpa [RepV] using h
  | .slc sz cs _, _, _, _, _, h => by simpa [RepV] using h
  | .agg fs, _, _, _, hn, h => by
    simp only [RepV, AV.closed] at h hn ⊢
    obtain ⟨vs, rfl, hr, h1⟩ := h
    exact ⟨vs, rfl, RepL.closed hn hr, h1⟩
  | .tup fs, _, _, _, hn, h => by
    simp only [RepV, AV.closed] at h hn ⊢
    obtain ⟨vs, rfl, hr⟩ := h
    exact ⟨vs, rfl, RepL.closed hn hr⟩
  | .ref i off, _, _, _, hn, h => by simp [AV.closed] at hn
  | .row i, _, _, _, hn, h => by simp [AV.closed] at hn
  | .ip cs, _, _, _, _, h => by simpa [RepV] using h
  | .clo f cs, _, _, _, hn, h => by
    simp only [RepV, AV.closed] at h hn ⊢
    obtain ⟨vs, rfl, hr⟩ := h
    exact ⟨vs, rfl, RepL.closed hn hr⟩
theorem RepL.closed {H : Heap} : ∀ {xs : List AV} {L L' : Loc} {vs : List Value}, closedL xs = true → RepL H xs L vs → RepL H xs L' vs
  | [], _, _, _, _, h => by simpa [RepL] using h
  | x :: xs, _, _, _, hn, h => by
    simp only [RepL, closedL, Bool.and_eq_true] at h hn ⊢
    obtain ⟨v, r, rfl, h1, h2⟩ := h
    exact ⟨v, r, rfl, RepV.closed hn.1 h1, RepL.closed hn.2 h2⟩
end

theorem RepL.length {H : Heap} : ∀ {xs : List AV} {L : Loc} {vs : List Value}, RepL H xs L vs → vs.length = xs.length
  | [], _, _, h => by simp [RepL] at h; simp [h]
  | x :: xs, _, _, h => by
    simp only [RepL] at h
    obtain ⟨v, r, rfl, _, h2⟩ := h
    simp [RepL.length h2]
theorem RepL.get {H : Heap} : ∀ {xs : List AV} {L : Loc} {vs : List Value}, RepL H xs L vs → ∀ {i : Nat} {x : AV}, xs[i]? = some x → ∃ v, vs[i]? = some v ∧ RepV H x L v
  | [], _, _, _, i, x, hi => by simp at hi
  | y :: xs, _, _, h, i, x, hi => by
    simp only [RepL] at h
    obtain ⟨v, r, rfl, h1, h2⟩ := h
    cases i with
    | zero => simp at hi; subst hi; exact ⟨v, rfl, h1⟩
    | succ i => simp at hi; simpa using RepL.get h2 hi
theorem RepL.app {H : Heap} : ∀ {xs ys : List AV} {L : Loc} {vs us : List Value}, RepL H xs L vs → RepL H ys L us → RepL H (xs ++ ys) L (vs ++ us)
  | [], _, _, _, _, h, k => by simp [RepL] at h; subst h; simpa using k
  | x :: xs, _, _, _, _, h, k => by
    simp only [RepL, List.cons_append] at h ⊢
    obtain ⟨v, r, rfl, h1, h2⟩ := h
    exact ⟨v, r ++ _, rfl, h1, RepL.app h2 k⟩
theorem RepL.drop {H : Heap} : ∀ {xs : List AV} {L : Loc} {vs : List Value} (n : Nat), RepL H xs L vs → RepL H (xs.drop n) L (vs.drop n)
  | [], _, _, n, h => by simp [RepL] at h; subst h; simp [RepL]
  | x :: xs, _, _, 0, h => by simpa using h
  | x :: xs, _, _, n + 1, h => by
    simp only [RepL] at h
    obtain ⟨v, r, rfl, h1, h2⟩ := h
    simpa using RepL.drop n h2
theorem RepL.take {H : Heap} : ∀ {xs : List AV} {L : Loc} {vs : List Value} (n : Nat), RepL H xs L vs → RepL H (xs.take n) L (vs.take n)
  | [], _, _, n, h => by simp [RepL] at h; subst h; simp [RepL]
  | x :: xs, _, _, 0, h => by simp [RepL]
  | x :: xs, _, _, n + 1, h => by
    simp only [RepL] at h
    obtain ⟨v, r, rfl, h1, h2⟩ := h
    simp only [List.take_succ_cons, RepL]
    exact ⟨v, _, rfl, h1, RepL.take n h2⟩
theorem RepL.set {H : Heap} : ∀ {xs : List AV} {L : Loc} {vs : List Value} (n : Nat) {x : AV} {v : Value}, RepL H xs L vs → RepV H x L v → RepL H (xs.set n x) L (vs.set n v)
  | [], _, _, n, _, _, h, _ => by simp [RepL] at h; subst h; simp [RepL]
  | y :: xs, _, _, 0, _, _, h, k => by
    simp only [RepL] at h
    obtain ⟨v, r, rfl, h1, h2⟩ := h
    simp only [List.set_cons_zero, RepL]
    exact ⟨_, r, rfl, k, h2⟩
  | y :: xs, _, _, n + 1, _, _, h, k => by
    simp only [RepL] at h
    obtain ⟨v, r, rfl, h1, h2⟩ := h
    simp only [List.set_cons_succ, RepL]
    exact ⟨_, _, rfl, h1, RepL.set n h2 k⟩
theorem RepL.lits {H : Heap} (L : Loc) : ∀ (vs : List Value), RepL H (vs.map .lit) L vs
  | [] => by simp [RepL]
  | v :: vs => by simp only [List.map_cons, RepL]; exact ⟨v, vs, rfl, by simp [RepV], RepL.lits L vs⟩

/-- The semantic state: what the slots hold, and the own objects. -/
structure SS where
  ρ : Nat → AV
  μ : Nat → Option AO

def SS.ev (S : SS) : Operand → AV
  | .tmp t => S.ρ t
  | .const v => .lit v
  | .global g => .lit (.pointer (some ⟨g, 0, none⟩))
  | .func f => .clo f []

def SS.Fresh (S : SS) (id : Nat) : Prop := S.μ id = none ∧ (∀ i, (S.ρ i).has id = false) ∧ ∀ i o, S.μ i = some o → o.has id = false

def RepO (H : Heap) (B : Nat) (w : World) (L : Loc) (id : Nat) : AO → Prop
  | .var t cs => ∃ g vs, L id = some (.pointer (some ⟨g, 0, none⟩)) ∧ w.heap[g]? = some (.cells (List.toArray vs) t (0, 0)) ∧ RepL H cs L vs ∧ (∀ u ∈ vs, u.oneCell' = true) ∧ B ≤ g ∧ H g = none
  | .row e sz cs => ∃ v vs n, L id = some v ∧ cs.length = n * sz ∧ w.ownsRow B e sz v n vs ∧ RepL H cs noLoc vs ∧ (∀ u ∈ vs, u.oneCell' = true) ∧ 0 < sz ∧ cs.length ≤ 140737488355328 ∧ ∀ g, ownB v = some g → H g = none
  | .blk o => ∃ g, L id = some (.pointer (some ⟨g, 0, none⟩)) ∧ w.heap[g]? = some o ∧ B ≤ g ∧ H g = none
  | .pin cs us => L id = some (.tuple #[]) ∧ RepL H cs L us

/-- The program, and what is known of its package-level variables. -/
structure Ctx where
  P : Program
  G : Heap → Prop
  mono : ∀ H H', H.le H' → G H → G H'
  mixed : P.follows .mixedOrders = true
  marks : List Deferred := []

structure Rep (C : Ctx) (n : Nat) (w0 : World) (H : Heap) (L : Loc) (S : SS) (a : Act) (w : World) : Prop where
  glob : C.G H
  heap : ∀ b o, H b = some o → w.heap[b]? = some o
  size : a.tmps.size = n
  slot : ∀ i, RepV H (S.ρ i) L (a.tmps.getD i undef)
  objs : ∀ id o, S.μ id = some o → RepO H w0.heap.size w L id o
  apart : ∀ id id' o o' g x x', id ≠ id' → S.μ id = some o → S.μ id' = some o' → L id = some x → L id' = some x' → ownB x = some g → ownB x' ≠ some g
  below : Below w0.heap.size w0 w
  defers : a.defers = C.marks

/-- What a step may do to the heap that is known. -/
def Ext (B : Nat) (H H' : Heap) : Prop := H.le H' ∧ ∀ b, b < B → H' b = H b
theorem Ext.refl (B : Nat) (H : Heap) : Ext B H H := ⟨Heap.le_refl H, fun _ _ => rfl⟩
theorem Ext.trans {B : Nat} {H H' H'' : Heap} (h : Ext B H H') (k : Ext B H' H'') : Ext B H H'' := ⟨Heap.le_trans h.1 k.1, fun b hb => (k.2 b hb).trans (h.2 b hb)⟩

theorem Rep.ev {C : Ctx} {n : Nat} {w0 : World} {H : Heap} {L : Loc} {S : SS} {a : Act} {w : World} (h : Rep C n w0 H L S a w) : ∀ x, RepV H (S.ev x) L (a.eval x)
  | .tmp t => h.slot t
  | .const v => by simp [SS.ev, Act.eval, RepV]
  | .global g => by simp [SS.ev, Act.eval, RepV]
  | .func f => by simp [SS.ev, Act.eval, RepV, RepL]

/-- What a function gives back for arguments that nobody writes to. -/
def ECalls (C : Ctx) (f : FuncId) (args : List AV) (res : AV) : Prop :=
  ∀ (H : Heap) (L : Loc) (vals : List Value) (w : World), C.G H → (∀ b o, H b = some o → w.heap[b]? = some o) → RepL H args L vals →
    Calls C.P f vals.toArray w fun e w' => ∃ H' v, e = .returned v ∧ RepV H' res noLoc v ∧ Ext w.heap.size H H' ∧ (∀ b o, H' b = some o → w'.heap[b]? = some o) ∧ Below w.heap.size w w'

end Go.Ab
