/- Each operation's step is sound. Over any program. -/
import Derived.Test.YtkngglpnejdicaaDoorAb2
import Derived.OrdersIn
import Derived.ControlIn
import Derived.RangeFuncCalls
set_option linter.unusedVariables false
set_option linter.unusedSimpArgs false
namespace Go.Ab
open Go.RowKit

section
variable {C : Ctx} {n : Nat} {w0 : World} {H : Heap} {L : Loc} {S : SS} {a : Act} {w : World}

/-- Any frame: an activation's own, or a round's of a range over a function. -/
def fen (r : Option Nat) : Fence := { Fence.wide with round := r }
theorem fen_fn (r : Option Nat) (f : FuncId) : (fen r).fn f := trivial
theorem fen_depth {r : Option Nat} {n : Nat} : (fen r).depth.isSome = true → 1 ≤ n := fun h => by simp [fen, Fence.wide] at h
theorem callsIn_fen (r : Option Nat) {m : Nat} {P : Program} {f : FuncId} {args : Array Value} {w : World} {R : Ending → World → Prop} (h : Calls P f args w R) : CallsIn (fen r) m P f args w R := by
  cases r with
  | none => exact callsIn_wide.2 h
  | some l => exact CallsIn.inRound l (callsIn_wide.2 h)
def _root_.Go.Oper.wpA (P : Program) (o : Oper) (a : Act) (w : World) (K : Act → World → Prop) (Q : Exit → Act → World → Prop) : Prop := ∀ r, o.wpIn (fen r) 0 P a w K Q
def _root_.Go.Code.wpA (P : Program) (c : Code) (Q : Exit → Act → World → Prop) (a : Act) (w : World) : Prop := ∀ r, c.wpIn (fen r) 0 P Q a w
theorem semAt_of {P : Program} {o : Oper} {ρ : Operand → Value} {r : Option Nat} {x : Next} {w' : World} (h : (execOp ρ o).run P w = .ok x w') (hx : ∀ d, x ≠ .defer d) : (o.semAt r ρ).run P w = .ok x w' := by
  rw [Oper.semAt_eq r ρ o fun c hc => ?_]
  · exact h
  · unfold execOp at h
    simp only [hc, Sem.run_bind] at h
    cases hr : (resolve ρ c o.type).run P w with
    | halt y w2 => simp [hr] at h
    | ok d w2 =>
      simp [hr] at h
      exact hx d h.1.symm
theorem wp_value {P : Program} {o : Oper} {K : Act → World → Prop} {Q : Exit → Act → World → Prop} {v : Value} {w' : World} (h : (execOp a.eval o).run P w = .ok (.value v) w') (k : K (a.put o.dst v) w') : o.wpA P a w K Q := fun r => by
  refine ⟨fun _ _ => trivial, ?_⟩
  rw [semAt_of h (fun d hd => by cases hd)]
  exact k
theorem wp_skipv {P : Program} {o : Oper} {K : Act → World → Prop} {Q : Exit → Act → World → Prop} {w' : World} (h : (execOp a.eval o).run P w = .ok .skip w') (k : K (a.put o.dst undef) w') : o.wpA P a w K Q := fun r => by
  refine ⟨fun _ _ => trivial, ?_⟩
  rw [semAt_of h (fun d hd => by cases hd)]
  exact k
theorem wp_enter {P : Program} {o : Oper} {K : Act → World → Prop} {Q : Exit → Act → World → Prop} {f : FuncId} {args : Array Value} {w' : World} (h : (execOp a.eval o).run P w = .ok (.enter f args) w') (k : Calls P f args w' fun e w'' => ∃ v, e = .returned v ∧ K (a.put o.dst v) w'') : o.wpA P a w K Q := fun r => by
  refine ⟨fun _ _ => trivial, ?_⟩
  rw [semAt_of h (fun d hd => by cases hd)]
  refine ⟨fen_depth, callsIn_fen r (k.mono ?_)⟩
  rintro e w'' ⟨v, rfl, hk⟩
  exact hk

theorem put_slot {dst : Option Nat} {v : Value} (hd : ∀ d, dst = some d → d < a.tmps.size) (i : Nat) : (a.put dst v).tmps.getD i undef = if dst = some i then v else a.tmps.getD i undef := by
  cases dst with
  | none => simp [Act.put]
  | some d =>
    by_cases hi : d = i
    · subst hi
      have := hd d rfl
      simp [Act.put, Array.getD_eq_getD_getElem?, this]
    · simp [Act.put, Array.getD_eq_getD_getElem?, Array.getElem?_setIfInBounds_ne hi, hi]
theorem put_size {dst : Option Nat} {v : Value} : (a.put dst v).tmps.size = a.tmps.size := by cases dst <;> simp [Act.put]
theorem put_defs {dst : Option Nat} {v : Value} : (a.put dst v).defers = a.defers := by cases dst <;> rfl

/-- A value goes into a slot; the world stays. -/
theorem Rep.val (h : Rep C n w0 H L S a w) {dst : Option Nat} (hd : ∀ d, dst = some d → d < n) {x : AV} {v : Value} (hv : RepV H x L v) (us fr : List Nat) : Rep C n w0 H L (S.app dst { val := x, use := us, fresh := fr }) (a.put dst v) w where
  glob := h.glob
  heap := h.heap
  size := by rw [put_size]; exact h.size
  slot i := by
    rw [put_slot (by rw [h.size]; exact hd)]
    simp only [SS.app]
    split
    · exact hv
    · exact h.slot i
  objs id o ho := h.objs id o (by simpa [SS.app, lkU] using ho)
  apart id id' o o' g x x' hne ho ho' := h.apart id id' o o' g x x' hne (by simpa [SS.app, lkU] using ho) (by simpa [SS.app, lkU] using ho')
  below := h.below
  defers := by rw [put_defs]; exact h.defers

theorem below_size (h : Rep C n w0 H L S a w) : w0.heap.size ≤ w.heap.size := h.below.size

/-- An object's block lies there. -/
theorem RepO.block {B : Nat} {id : Nat} {o : AO} (h : RepO H B w L id o) : ∃ x, L id = some x ∧ ∀ g, ownB x = some g → g < w.heap.size ∧ B ≤ g ∧ H g = none := by
  cases o with
  | var t cs =>
    obtain ⟨g, vs, hl, hg, _, _, hB, hH⟩ := h
    refine ⟨_, hl, fun g' hg' => ?_⟩
    simp [ownB] at hg'
    subst hg'
    exact ⟨(Array.getElem?_eq_some_iff.1 hg).1, hB, hH⟩
  | row e sz cs =>
    obtain ⟨v, vs, m, hl, _, hown, _, _, _, _, hH⟩ := h
    refine ⟨v, hl, fun g hg => ?_⟩
    have hv : v.ownBlock = some g := by
      rcases hown.2 with ⟨rfl, _⟩ | ⟨g', cap, cur, rfl, _⟩
      · simp [ownB] at hg
      · simpa [ownB, Value.ownBlock] using hg
    have := hown.lt g hv
    exact ⟨this.2, this.1, hH g hg⟩
  | blk o =>
    obtain ⟨g, hl, hg, hB, hH⟩ := h
    refine ⟨_, hl, fun g' hg' => ?_⟩
    simp [ownB] at hg'
    subst hg'
    exact ⟨(Array.getElem?_eq_some_iff.1 hg).1, hB, hH⟩
  | pin cs us => exact ⟨_, h.1, fun g hg => by simp [ownB] at hg⟩

/-- An object stays as its block stays. -/
theorem RepO.kept {B : Nat} {id : Nat} {o : AO} {H' : Heap} {L' : Loc} {w' : World} (h : RepO H B w L id o) (hH : H.le H') (hHn : ∀ g, g < w.heap.size → B ≤ g → H g = none → H' g = none)
    (hL : L' id = L id) (hLm : ∀ cs, (∃ t, o = .var t cs) ∨ (∃ us, o = .pin cs us) → ∀ vs, RepL H cs L vs → RepL H' cs L' vs)
    (hw : ∀ x g, L id = some x → ownB x = some g → w'.heap[g]? = w.heap[g]?) : RepO H' B w' L' id o := by
  have hb := h.block
  cases o with
  | var t cs =>
    obtain ⟨g, vs, hl, hg, hr, h1, hB, hn⟩ := h
    exact ⟨g, vs, by rw [hL]; exact hl, by rw [hw _ g hl rfl]; exact hg, hLm cs (.inl ⟨t, rfl⟩) vs hr, h1, hB, hHn g (Array.getElem?_eq_some_iff.1 hg).1 hB hn⟩
  | row e sz cs =>
    obtain ⟨v, vs, m, hl, hlen, hown, hr, h1, hs, hmx, hn⟩ := h
    refine ⟨v, vs, m, by rw [hL]; exact hl, hlen, ?_, RepL.mono hH (Loc.le_refl _) hr, h1, hs, hmx, fun g hg => ?_⟩
    · obtain ⟨h2, h3⟩ := hown
      refine ⟨h2, ?_⟩
      rcases h3 with h3 | ⟨g, cap, cur, rfl, hB, hg, r⟩
      · exact .inl h3
      · exact .inr ⟨g, cap, cur, rfl, hB, by rw [hw _ g hl rfl]; exact hg, r⟩
    · obtain ⟨x, hx, hb2⟩ := hb
      rw [hl] at hx
      cases hx
      have := hb2 g hg
      exact hHn g this.1 this.2.1 (hn g hg)
  | blk o =>
    obtain ⟨g, hl, hg, hB, hn⟩ := h
    exact ⟨g, by rw [hL]; exact hl, by rw [hw _ g hl rfl]; exact hg, hB, hHn g (Array.getElem?_eq_some_iff.1 hg).1 hB hn⟩
  | pin cs us => exact ⟨by rw [hL]; exact h.1, hLm cs (.inr ⟨us, rfl⟩) us h.2⟩

theorem run_call_fn {P : Program} {o : Oper} {f : FuncId} {args : Array Operand} {tys : Array TypeId} (h : o.op = .call { callee := .value (.func f), args := args, argTypes := tys })
    (hb : ((P.funcs[f]?).map (·.body.isSome)) = some true) (hnm : ((P.funcs[f]?).map (·.name == "runtime.NumGoroutine")) = some false) : (execOp a.eval o).run P w = .ok (.enter f (args.map a.eval)) w := by
  cases hf : P.funcs[f]? with
  | none => simp [hf] at hb
  | some fn =>
    have hb' : fn.body.isNone = false := by
      have : fn.body.isSome = true := by simpa [hf] using hb
      cases hbb : fn.body <;> simp_all
    have hn' : (fn.name == "runtime.NumGoroutine") = false := by simpa [hf] using hnm
    unfold execOp
    simp only [h, resolve, Act.eval, Deferred.ofValue, invoke, callFunc, Sem.run_bind, Sem.run_pure, Result.andThen_ok, run_program, hf, hn', hb', Bool.false_eq_true, if_false, Array.empty_append, Array.append_empty]

/-- Two states that are alike below a bound, the known heap grown. -/
theorem Rep.grow (h : Rep C n w0 H L S a w) {H' : Heap} {w' : World} (hx : Ext w.heap.size H H') (hh : ∀ b o, H' b = some o → w'.heap[b]? = some o) (hb : Below w.heap.size w w') : Rep C n w0 H' L S a w' where
  glob := C.mono _ _ hx.1 h.glob
  heap := hh
  size := h.size
  slot i := RepV.mono hx.1 (Loc.le_refl _) (h.slot i)
  objs id o ho := (h.objs id o ho).kept hx.1 (fun g hg _ hn => by rw [hx.2 g hg]; exact hn) rfl (fun cs _ vs hr => RepL.mono hx.1 (Loc.le_refl _) hr) (fun x g hl hg => by
    obtain ⟨x', hx', hb2⟩ := (h.objs id o ho).block
    rw [hl] at hx'
    cases hx'
    exact hb.block g (hb2 g hg).1)
  apart := h.apart
  below := h.below.trans (hb.mono h.below.size)
  defers := h.defers

/-- A new object, in a new block. -/
theorem Rep.new (h : Rep C n w0 H L S a w) {id : Nat} {ob : AO} {x : Value} {w' : World} (hf : S.Fresh id) (hb : Below w.heap.size w w') (hx : ∀ g, ownB x = some g → w.heap.size ≤ g)
    (ho : RepO H w0.heap.size w' (L.set id (some x)) id ob) (hrest : ∀ b o, H b = some o → w'.heap[b]? = some o) :
    Rep C n w0 H (L.set id (some x)) { ρ := S.ρ, μ := fun i => if i = id then some ob else S.μ i } a w' where
  glob := h.glob
  heap := hrest
  size := h.size
  slot i := RepV.setL (hf.2.1 i) (h.slot i)
  objs i o hi := by
    by_cases hid : i = id
    · subst hid
      simp at hi
      subst hi
      exact ho
    · simp [hid] at hi
      refine (h.objs i o hi).kept (Heap.le_refl _) (fun g _ _ hn => hn) (by simp [Loc.set, hid]) (fun cs hcs vs hr => ?_) (fun y g hl hg => ?_)
      · rcases hcs with ⟨t, rfl⟩ | ⟨us, rfl⟩ <;> exact RepL.setL (hf.2.2 i _ hi) hr
      · obtain ⟨x', hx', hb2⟩ := (h.objs i o hi).block
        rw [hl] at hx'
        cases hx'
        exact hb.block g (hb2 g hg).1
  apart i j o o' g y y' hne hi hj hl hl' hg hg' := by
    have old : ∀ k ob', k ≠ id → S.μ k = some ob' → ∀ z, L k = some z → ∀ g, ownB z = some g → g < w.heap.size := fun k ob' _ hk z hz g hg => by
      obtain ⟨x', hx', hb2⟩ := (h.objs k ob' hk).block
      rw [hz] at hx'
      cases hx'
      exact (hb2 g hg).1
    by_cases h1 : i = id
    · subst h1
      have h2 : ¬ j = i := fun e => hne e.symm
      simp [h2] at hj
      simp [Loc.set] at hl
      simp [Loc.set, h2] at hl'
      subst hl
      have := old j o' h2 hj y' hl' g hg'
      have := hx g hg
      omega
    · by_cases h2 : j = id
      · subst h2
        simp [h1] at hi
        simp [Loc.set] at hl'
        simp [Loc.set, h1] at hl
        subst hl'
        have := old i o h1 hi y hl g hg
        have := hx g hg'
        omega
      · simp [h1] at hi
        simp [h2] at hj
        simp [Loc.set, h1] at hl
        simp [Loc.set, h2] at hl'
        exact h.apart i j o o' g y y' hne hi hj hl hl' hg hg'
  below := h.below.trans (hb.mono h.below.size)
  defers := h.defers

end
end Go.Ab
