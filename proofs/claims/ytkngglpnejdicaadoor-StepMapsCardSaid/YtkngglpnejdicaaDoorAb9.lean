/- A region that draws its order: what it comes to in the text's order it comes to in every order. Over any program. -/
import Derived.Test.YtkngglpnejdicaaDoorAb8
set_option linter.unusedVariables false
set_option linter.unusedSimpArgs false
namespace Go.Ab
open Go.RowKit

structure It where
  i : Nat
  o : Oper
  e : Eff

def hasU (l : List (Nat × Option AO)) (id : Nat) : Bool := l.any fun p => Nat.beq p.1 id
def Eff.names (e : Eff) (id : Nat) : Bool := e.val.has id || e.upd.any fun p => match p.2 with
  | some o => o.has id
  | none => false
/-- Neither touches what the other one leans on. -/
def indepB (ops : Array Oper) (p q : It) : Bool :=
  p.o.apart ops q.o && p.e.upd.all (fun u => !hasU q.e.upd u.1) && p.e.use.all (fun id => !hasU q.e.upd id) && q.e.use.all (fun id => !hasU p.e.upd id) &&
  p.e.fresh.all fun id => !q.e.names id && !hasU q.e.upd id
def lateB (p q : It) : Bool := q.e.fresh.all fun id => !p.e.names id && !hasU p.e.upd id
def edgeB (i : Nat) (o : Oper) : Bool := o.after.any fun e => Region.binds .any e && Nat.beq e.on i

theorem lkU_none {l : List (Nat × Option AO)} {id : Nat} (h : hasU l id = false) : lkU l id = none := by
  induction l with
  | nil => rfl
  | cons p l ih =>
    obtain ⟨i, o⟩ := p
    simp only [hasU, List.any_cons, Bool.or_eq_false_iff] at h
    simp only [lkU, h.1, cond_false]
    exact ih h.2
theorem hasU_of_lkU {l : List (Nat × Option AO)} {id : Nat} {o : Option AO} (h : lkU l id = some o) : hasU l id = true ∧ ∃ p ∈ l, p.1 = id ∧ p.2 = o := by
  induction l with
  | nil => simp [lkU] at h
  | cons p l ih =>
    obtain ⟨i, o'⟩ := p
    simp only [lkU] at h
    cases hb : Nat.beq i id with
    | true =>
      simp only [hb, cond_true, Option.some.injEq] at h
      exact ⟨by simp [hasU, hb], (i, o'), by simp, Nat.eq_of_beq_eq_true hb, h⟩
    | false =>
      simp only [hb, cond_false] at h
      obtain ⟨h1, p, hp, h2⟩ := ih h
      exact ⟨by simp only [hasU, List.any_cons] at h1 ⊢; simp [h1], p, by simp [hp], h2⟩

theorem app_fresh {S : SS} {dst : Option Nat} {e : Eff} {id : Nat} (h : S.Fresh id) (hn : e.names id = false) (hu : hasU e.upd id = false) : (S.app dst e).Fresh id := by
  simp only [Eff.names, Bool.or_eq_false_iff] at hn
  refine ⟨by simp [SS.app, lkU_none hu, h.1], fun i => ?_, fun i o hi => ?_⟩
  · simp only [SS.app]
    split
    · exact hn.1
    · exact h.2.1 i
  · simp only [SS.app] at hi
    cases hl : lkU e.upd i with
    | none => rw [hl] at hi; exact h.2.2 i o hi
    | some o' =>
      rw [hl] at hi
      simp only at hi
      subst hi
      obtain ⟨_, p, hp, _, h2⟩ := hasU_of_lkU hl
      have := List.any_eq_false.1 hn.2 p hp
      rw [h2] at this
      simpa using this

theorem app_ev {S : SS} {dst : Option Nat} {e : Eff} {ops : Array Oper} {o : Oper} (h : ∀ d, dst = some d → d ∉ o.looksAt ops) : (∀ x ∈ o.op.operands, (S.app dst e).ev x = S.ev x) ∧ ∀ d, guardSlot ops o = some d → (S.app dst e).ρ d = S.ρ d := by
  constructor
  · intro x hx
    cases x with
    | tmp t =>
      simp only [SS.ev, SS.app]
      split
      · rename_i hd
        refine absurd ?_ (h t hd)
        unfold Oper.looksAt
        exact List.mem_append_left _ (List.mem_filterMap.2 ⟨Operand.tmp t, Array.mem_toList_iff.2 hx, rfl⟩)
      · rfl
    | _ => rfl
  · intro d hd
    simp only [SS.app]
    split
    · rename_i hdd
      refine absurd (List.mem_append_right _ ?_) (h d hdd)
      unfold guardSlot at hd
      cases hg : o.guard with
      | none => rw [hg] at hd; cases hd
      | some gw =>
        obtain ⟨g, want⟩ := gw
        rw [hg] at hd
        simp only at hd ⊢
        simp [hd]
    · rfl

theorem swap {C : Ctx} {ops : Array Oper} {S : SS} {p q : It} (hi : indepB ops p q = true) (h1 : TrOp C ops S p.o p.e) (h2 : TrOp C ops (S.app p.o.dst p.e) q.o q.e) :
    TrOp C ops S q.o q.e ∧ TrOp C ops (S.app q.o.dst q.e) p.o p.e ∧ (S.app p.o.dst p.e).app q.o.dst q.e = (S.app q.o.dst q.e).app p.o.dst p.e := by
  simp only [indepB, Bool.and_eq_true, List.all_eq_true, Bool.not_eq_true'] at hi
  obtain ⟨⟨⟨⟨ha, hu⟩, hup⟩, huq⟩, hf⟩ := hi
  obtain ⟨a1, a2, a3⟩ := Oper.apart_spec ha
  have e1 := app_ev (S := S) (dst := p.o.dst) (e := p.e) (ops := ops) (o := q.o) a1
  have e2 := app_ev (S := S) (dst := q.o.dst) (e := q.e) (ops := ops) (o := p.o) a3
  refine ⟨h2.local (fun x hx => (e1.1 x hx).symm) (fun d hd => (e1.2 d hd).symm) (fun id hid => by simp [SS.app, lkU_none (huq id hid)]),
    h1.local e2.1 e2.2 (fun id hid => by simp [SS.app, lkU_none (hup id hid)]), ?_⟩
  simp only [SS.app]
  congr 1
  · funext i
    by_cases hp : p.o.dst = some i
    · have := a2 i hp
      simp [hp, this]
    · by_cases hq : q.o.dst = some i
      · simp [hp, hq]
      · simp [hp, hq]
  · funext id
    cases hp : lkU p.e.upd id with
    | none => cases lkU q.e.upd id <;> rfl
    | some o =>
      obtain ⟨_, u, hm, h3, _⟩ := hasU_of_lkU hp
      have := hu u hm
      rw [h3] at this
      rw [lkU_none this]

inductive Tr (C : Ctx) (ops : Array Oper) : SS → List It → SS → Prop
  | nil (S : SS) : Tr C ops S [] S
  | cons {S S' : SS} {p : It} {r : List It} (h : TrOp C ops S p.o p.e) (t : Tr C ops (S.app p.o.dst p.e) r S') : Tr C ops S (p :: r) S'

theorem Tr.front {C : Ctx} {ops : Array Oper} {p : It} {R2 : List It} {S' : SS} : ∀ (R1 : List It) (S : SS), Tr C ops S (R1 ++ p :: R2) S' → (∀ q ∈ R1, indepB ops q p = true) → TrOp C ops S p.o p.e ∧ Tr C ops (S.app p.o.dst p.e) (R1 ++ R2) S'
  | [], S, h, _ => by
    cases h with
    | cons h t => exact ⟨h, t⟩
  | q :: R1, S, h, hi => by
    cases h with
    | cons h t =>
      obtain ⟨h1, h2⟩ := Tr.front R1 _ t (fun r hr => hi r (by simp [hr]))
      obtain ⟨h3, h4, h5⟩ := swap (hi q (by simp)) h h1
      rw [h5] at h2
      exact ⟨h3, .cons h4 h2⟩

section
variable {C : Ctx} {n : Nat} {w0 : World} {ops : Array Oper} {Q : Exit → Act → World → Prop}

theorem any_sound (r : Option Nat) {S' : SS} (hedge : ∀ j o, ops[j]? = some o → ∀ e ∈ o.after, Region.binds .any e = true → e.on < j) : ∀ (fuel : Nat) (listed : Array Bool) (R : List It) (S : SS) (H : Heap) (L : Loc) (a : Act) (w : World),
    R.length ≤ fuel → listed.size = ops.size → (∀ p ∈ R, ops[p.i]? = some p.o) → (∀ j, listed.getD j true = false → ∃ p ∈ R, p.i = j) → (∀ p ∈ R, listed.getD p.i true = false) →
    R.Pairwise (fun p q => p.i < q.i) → R.Pairwise (fun p q => lateB p q = true ∧ (edgeB p.i q.o = true ∨ indepB ops p q = true)) →
    (∀ p ∈ R, ∀ id ∈ p.e.fresh, S.Fresh id) → (∀ p ∈ R, ∀ d, p.o.dst = some d → d < n) → Tr C ops S R S' → Rep C n w0 H L S a w →
    (∀ a' w' H' L', Ext w0.heap.size H H' → Rep C n w0 H' L' S' a' w' → Q .normal a' w') → wpAnyIn (fen r) 0 C.P .any ops Q fuel listed a w := by
  intro fuel
  have empty : ∀ (listed : Array Bool) (R : List It), listed.size = ops.size → (∀ p ∈ R, ops[p.i]? = some p.o) → (∀ j, listed.getD j true = false → ∃ p ∈ R, p.i = j) → (∀ p ∈ R, listed.getD p.i true = false) → R.Pairwise (fun p q => p.i < q.i) →
      Region.ready .any ops listed = [] → R = [] := by
    intro listed R hsz hops hun hR hasc hre
    cases R with
    | nil => rfl
    | cons p R =>
      exfalso
      have hp := hops p (by simp)
      have : p.i ∈ Region.ready .any ops listed := by
        rw [mem_ready]
        refine ⟨hR p (by simp), p.o, hp, fun e he hb => ?_⟩
        have hlt := hedge p.i p.o hp e he hb
        have hsize : e.on < listed.size := by rw [hsz]; have := (Array.getElem?_eq_some_iff.1 hp).1; omega
        cases hl : listed[e.on] with
        | true => simp [Array.getD_eq_getD_getElem?, hsize, hl]
        | false =>
          exfalso
          obtain ⟨q, hq, hqe⟩ := hun e.on (by simp [Array.getD_eq_getD_getElem?, hsize, hl])
          rcases List.mem_cons.1 hq with rfl | hq
          · omega
          · have := List.rel_of_pairwise_cons hasc hq
            omega
      rw [hre] at this
      cases this
  have stop : ∀ (R : List It) (S : SS) (H : Heap) (L : Loc) (a : Act) (w : World), R = [] → Tr C ops S R S' → Rep C n w0 H L S a w → (∀ a' w' H' L', Ext w0.heap.size H H' → Rep C n w0 H' L' S' a' w' → Q .normal a' w') → Q .normal a w := by
    intro R S H L a w hR ht hr hQ
    subst hR
    cases ht
    exact hQ a w H L (Ext.refl _ _) hr
  induction fuel with
  | zero =>
    intro listed R S H L a w hlen hsz hops hun hR hasc hpw hfr hd ht hr hQ
    have hR0 : R = [] := List.eq_nil_of_length_eq_zero (by omega)
    refine ⟨?_, stop R S H L a w hR0 ht hr hQ⟩
    cases hre : Region.ready .any ops listed with
    | nil => rfl
    | cons j r =>
      have : j ∈ Region.ready .any ops listed := by rw [hre]; simp
      rw [mem_ready] at this
      obtain ⟨q, hq, _⟩ := hun j this.1
      rw [hR0] at hq
      cases hq
  | succ fuel ih =>
    intro listed R S H L a w hlen hsz hops hun hR hasc hpw hfr hd ht hr hQ
    refine ⟨fun hre => stop R S H L a w (empty listed R hsz hops hun hR hasc hre) ht hr hQ, fun j hj => ?_⟩
    obtain ⟨hjun, oj, hoj, hall⟩ := mem_ready.1 hj
    obtain ⟨p, hpR, rfl⟩ := hun j hjun
    have hpo := hops p hpR
    rw [hoj] at hpo
    cases hpo
    obtain ⟨R1, R2, rfl⟩ := List.append_of_mem hpR
    have hind : ∀ q ∈ R1, indepB ops q p = true := by
      intro q hq
      have := (List.pairwise_append.1 hpw).2.2 q hq p (by simp)
      rcases this.2 with h | h
      · exfalso
        simp only [edgeB, Array.any_eq_true'] at h
        obtain ⟨e, he, hb⟩ := h
        simp only [Bool.and_eq_true] at hb
        have h1 := hall e he hb.1
        rw [Nat.eq_of_beq_eq_true hb.2] at h1
        have h2 := hR q (by simp [hq])
        have hlt : q.i < listed.size := by rw [hsz]; exact (Array.getElem?_eq_some_iff.1 (hops q (by simp [hq]))).1
        simp [Array.getD_eq_getD_getElem?, hlt] at h1 h2
        rw [h1] at h2
        cases h2
      · exact h
    obtain ⟨hstep, ht'⟩ := Tr.front R1 S ht hind
    have hsub : (R1 ++ R2).Sublist (R1 ++ p :: R2) := List.Sublist.append (List.Sublist.refl _) (List.sublist_cons_self p R2)
    refine hstep.sound hoj hr (hd p hpR) (hfr p hpR) (fun a' w' H' L' hx hr' => ?_) r
    refine ih (listed.setIfInBounds p.i true) (R1 ++ R2) _ H' L' a' w' (by simp at hlen ⊢; omega) (by simpa using hsz) (fun q hq => hops q (hsub.subset hq)) (fun k hk => ?_) (fun q hq => ?_) (hasc.sublist hsub) (hpw.sublist hsub) (fun q hq id hid => ?_) (fun q hq => hd q (hsub.subset hq)) ht' hr'
      (fun a2 w2 H2 L2 hx2 hr2 => hQ a2 w2 H2 L2 (hx.trans hx2) hr2)
    · have hkp : p.i ≠ k := by
        intro e
        subst e
        have hlt : p.i < listed.size := by rw [hsz]; exact (Array.getElem?_eq_some_iff.1 hoj).1
        simp [Array.getD_eq_getD_getElem?, hlt] at hk
      rw [getD_set_ne true hkp] at hk
      obtain ⟨q, hq, rfl⟩ := hun k hk
      refine ⟨q, ?_, rfl⟩
      rcases List.mem_append.1 hq with hq | hq
      · exact List.mem_append_left _ hq
      · rcases List.mem_cons.1 hq with rfl | hq
        · exact absurd rfl hkp
        · exact List.mem_append_right _ hq
    · have hne : p.i ≠ q.i := by
        rcases List.mem_append.1 hq with hq | hq
        · have := (List.pairwise_append.1 hasc).2.2 q hq p (by simp)
          omega
        · have := List.rel_of_pairwise_cons (List.pairwise_append.1 hasc).2.1 hq
          omega
      rw [getD_set_ne true hne]
      exact hR q (hsub.subset hq)
    · have hfq := hfr q (hsub.subset hq) id hid
      rcases List.mem_append.1 hq with hq | hq
      · have := hind q hq
        simp only [indepB, Bool.and_eq_true, List.all_eq_true, Bool.not_eq_true'] at this
        exact app_fresh hfq (this.2 id hid).1 (this.2 id hid).2
      · have := (List.rel_of_pairwise_cons (List.pairwise_append.1 hpw).2.1 hq).1
        simp only [lateB, Bool.and_eq_true, List.all_eq_true, Bool.not_eq_true'] at this
        exact app_fresh hfq (this id hid).1 (this id hid).2

/-- The operations with their places and effects. -/
def items : Nat → List Oper → List Eff → List It
  | i, o :: os, e :: es => ⟨i, o, e⟩ :: items (i + 1) os es
  | _, _, _ => []
def pairsB (ops : Array Oper) : List It → Bool
  | [] => true
  | p :: r => r.all (fun q => lateB p q && (edgeB p.i q.o || indepB ops p q)) && pairsB ops r
def edgesB : Nat → List Oper → Bool
  | _, [] => true
  | i, o :: os => o.after.all (fun e => !Region.binds .any e || Nat.blt e.on i) && edgesB (i + 1) os
/-- May the region's operations come in whatever order? -/
def drawB (ops : Array Oper) (es : List Eff) : Bool := edgesB 0 ops.toList && pairsB ops (items 0 ops.toList es)

theorem pairs_spec : ∀ (R : List It), pairsB ops R = true → R.Pairwise (fun p q => lateB p q = true ∧ (edgeB p.i q.o = true ∨ indepB ops p q = true))
  | [], _ => .nil
  | p :: r, h => by
    simp only [pairsB, Bool.and_eq_true, List.all_eq_true] at h
    exact .cons (fun q hq => by have := h.1 q hq; simpa using this) (pairs_spec r h.2)
theorem edges_spec : ∀ (os : List Oper) (i : Nat), edgesB i os = true → ∀ (j : Nat) (o : Oper), os[j]? = some o → ∀ e ∈ o.after, Region.binds .any e = true → e.on < i + j
  | [], _, _, j, o, hj => by simp at hj
  | o' :: os, i, h, j, o, hj => by
    simp only [edgesB, Bool.and_eq_true] at h
    cases j with
    | zero =>
      simp at hj
      subst hj
      intro e he hb
      have := Array.all_eq_true_iff_forall_mem.1 h.1 e he
      simp only [hb, Bool.not_true, Bool.false_or] at this
      rw [Nat.blt_eq] at this
      simpa using this
    | succ j =>
      intro e he hb
      have := edges_spec os (i + 1) h.2 j o (by simpa using hj) e he hb
      omega
theorem items_spec : ∀ (os : List Oper) (es : List Eff) (i : Nat), os.length = es.length → (items i os es).length = os.length ∧ (items i os es).Pairwise (fun p q => p.i < q.i) ∧ (∀ p ∈ items i os es, i ≤ p.i ∧ os[p.i - i]? = some p.o ∧ es[p.i - i]? = some p.e) ∧ ∀ j, j < os.length → ∃ p ∈ items i os es, p.i = i + j
  | [], [], i, _ => by simp [items]
  | o :: os, e :: es, i, h => by
    obtain ⟨h1, h2, h3, h4⟩ := items_spec os es (i + 1) (by simpa using h)
    refine ⟨by simp [items, h1], ?_, ?_, ?_⟩
    · simp only [items]
      exact .cons (fun q hq => by have := (h3 q hq).1; simp only; omega) h2
    · intro p hp
      simp only [items, List.mem_cons] at hp
      rcases hp with rfl | hp
      · simp
      · obtain ⟨a1, a2, a3⟩ := h3 p hp
        refine ⟨by omega, ?_, ?_⟩
        · rw [show p.i - i = (p.i - (i + 1)) + 1 by omega, List.getElem?_cons_succ]; exact a2
        · rw [show p.i - i = (p.i - (i + 1)) + 1 by omega, List.getElem?_cons_succ]; exact a3
    · intro j hj
      cases j with
      | zero => exact ⟨⟨i, o, e⟩, by simp [items], rfl⟩
      | succ j =>
        obtain ⟨p, hp, hpi⟩ := h4 j (by simpa using hj)
        exact ⟨p, by simp [items, hp], by omega⟩
  | [], e :: es, i, h => by simp at h
  | o :: os, [], i, h => by simp at h
theorem Trace.len {S S' : SS} {os : List Oper} {es : List Eff} (h : Trace C ops S os es S') : os.length = es.length := by
  induction h with
  | nil => rfl
  | cons _ _ _ ih => simp [ih]
theorem Trace.tr {S S' : SS} : ∀ {os : List Oper} {es : List Eff} (i : Nat), Trace C ops S os es S' → Tr C ops S (items i os es) S' := by
  intro os es i h
  induction h generalizing i with
  | nil => exact .nil _
  | cons h _ _ ih => exact .cons (p := ⟨i, _, _⟩) h (ih (i + 1))

theorem region_any {S S' : SS} {H : Heap} {L : Loc} {a : Act} {w : World} {id : Nat} {es : List Eff} (hm : C.P.follows .mixedOrders = true) (ht : Trace C ops S ops.toList es S') (hb : drawB ops es = true) (hf : ∀ e ∈ es, ∀ id ∈ e.fresh, S.Fresh id)
    (hr : Rep C n w0 H L S a w) (hd : ∀ o ∈ ops.toList, ∀ d, o.dst = some d → d < n) (hQ : ∀ a' w' H' L', Ext w0.heap.size H H' → Rep C n w0 H' L' S' a' w' → Q .normal a' w') : (Code.region id ops true).wpA C.P Q a w := fun r => by
  refine wpIn_region_any hm ?_
  simp only [drawB, Bool.and_eq_true] at hb
  obtain ⟨hlen, hasc, hit, hex⟩ := items_spec ops.toList es 0 ht.len
  have hr' : Rep C n w0 H L S a { w with drawn := w.drawn + 1 } := ⟨hr.glob, hr.heap, hr.size, hr.slot, fun id o ho => (hr.objs id o ho).kept (Heap.le_refl _) (fun _ _ _ h => h) rfl (fun _ _ _ h => h) (fun _ _ _ _ => rfl), hr.apart, hr.below.drew, hr.defers⟩
  have hfal : ∀ j, (Array.replicate ops.size false).getD j true = false ↔ j < ops.size := by
    intro j
    by_cases hj : j < ops.size
    · simp [Array.getD_eq_getD_getElem?, hj]
    · simp [Array.getD_eq_getD_getElem?, hj]
  refine any_sound r (S' := S') (fun j o hj e he hbb => ?_) ops.size _ (items 0 ops.toList es) S H L a _ (by rw [hlen]; simp) (by simp) (fun p hp => ?_) (fun j hj => ?_) (fun p hp => ?_) hasc (pairs_spec _ hb.2) (fun p hp => ?_) (fun p hp => ?_) (ht.tr 0) hr' hQ
  · have := edges_spec ops.toList 0 hb.1 j o (by simpa using hj) e he hbb
    omega
  · have := (hit p hp).2.1
    simpa using this
  · obtain ⟨p, hp, hpi⟩ := hex j (by simpa using (hfal j).1 hj)
    exact ⟨p, hp, by omega⟩
  · rw [hfal]
    have := (hit p hp).2.1
    have := (List.getElem?_eq_some_iff.1 this).1
    simpa using this
  · have := (hit p hp).2.2
    exact hf p.e (List.mem_of_getElem? this)
  · have := (hit p hp).2.1
    exact hd p.o (List.mem_of_getElem? this)
end
end Go.Ab
