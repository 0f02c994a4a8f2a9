/- States told otherwise (a row that is let go; a new name; nil), and functions. Over any program. -/
import Derived.Test.YtkngglpnejdicaaDoorAb10
set_option linter.unusedVariables false
set_option linter.unusedSimpArgs false
namespace Go.Ab
open Go.RowKit

mutual
def AV.ren (id id' : Nat) : AV → AV
  | .row i => bif Nat.beq i id then .row id' else .row i
  | .ref i o => bif Nat.beq i id then .ref id' o else .ref i o
  | .agg fs => .agg (renL id id' fs)
  | .tup fs => .tup (renL id id' fs)
  | .clo f fs => .clo f (renL id id' fs)
  | .any => .any
  | .lit v => .lit v
  | .sl s c => .sl s c
  | .slc s c k => .slc s c k
  | .ip c => .ip c
def renL (id id' : Nat) : List AV → List AV
  | [] => []
  | x :: xs => x.ren id id' :: renL id id' xs
end

mutual
theorem RepV.ren {H : Heap} {id id' : Nat} : ∀ {x : AV} {L : Loc} {v : Value}, x.has id' = false → RepV H x L v → RepV H (x.ren id id') (L.set id' (L id)) v
  | .any, _, _, _, _ => by simp [AV.ren, RepV]
  | .lit _, _, _, _, h => by simpa [AV.ren, RepV] using h
  | .sl s c, L, _, _, h => by simpa [AV.ren, RepV] using h
  | .slc s c _, L, _, _, h => by simpa [AV.ren, RepV] using h
  | .ip c, L, _, _, h => by simpa [AV.ren, RepV] using h
  | .ref i o, L, _, hn, h => by
    simp only [AV.ren]
    cases hb : Nat.beq i id with
    | true =>
      have := Nat.eq_of_beq_eq_true hb
      subst this
      simp only [cond_true, RepV] at h ⊢
      obtain ⟨x, g, h1, h2, h3⟩ := h
      exact ⟨x, g, by simp [Loc.set, h1], h2, h3⟩
    | false => exact RepV.setL hn h
  | .row i, L, v, hn, h => by
    simp only [AV.ren]
    cases hb : Nat.beq i id with
    | true =>
      have := Nat.eq_of_beq_eq_true hb
      subst this
      simp only [cond_true, RepV] at h ⊢
      exact ⟨by simp [Loc.set, h.1], h.2⟩
    | false => exact RepV.setL hn h
  | .agg fs, _, _, hn, h => by
    simp only [AV.ren, AV.has, RepV] at h hn ⊢
    obtain ⟨vs, rfl, hr, h1⟩ := h
    exact ⟨vs, rfl, RepL.ren hn hr, h1⟩
  | .tup fs, _, _, hn, h => by
    simp only [AV.ren, AV.has, RepV] at h hn ⊢
    obtain ⟨vs, rfl, hr⟩ := h
    exact ⟨vs, rfl, RepL.ren hn hr⟩
  | .clo f fs, _, _, hn, h => by
    simp only [AV.ren, AV.has, RepV] at h hn ⊢
    obtain ⟨vs, rfl, hr⟩ := h
    exact ⟨vs, rfl, RepL.ren hn hr⟩
theorem RepL.ren {H : Heap} {id id' : Nat} : ∀ {xs : List AV} {L : Loc} {vs : List Value}, hasL id' xs = false → RepL H xs L vs → RepL H (renL id id' xs) (L.set id' (L id)) vs
  | [], _, _, _, h => by simpa [renL, RepL] using h
  | x :: xs, _, _, hn, h => by
    simp only [renL, RepL, hasL, Bool.or_eq_false_iff] at h hn ⊢
    obtain ⟨v, r, rfl, h1, h2⟩ := h
    exact ⟨v, r, rfl, RepV.ren hn.1 h1, RepL.ren hn.2 h2⟩
end

def AO.frz (id sz : Nat) (cs : List AV) : AO → AO
  | .var t c => .var t (frzL id sz cs c)
  | .row e s c => .row e s c
  | .blk o => .blk o
  | .pin c us => .pin (frzL id sz cs c) us
def AO.ren (id id' : Nat) : AO → AO
  | .var t c => .var t (renL id id' c)
  | .row e s c => .row e s c
  | .blk o => .blk o
  | .pin c us => .pin (renL id id' c) us
def St.frz (σ : St) (id sz : Nat) (cs : List AV) : St := ⟨σ.slots.map fun p => (p.1, p.2.frz id sz cs), (delO σ.objs id).map fun p => (p.1, p.2.frz id sz cs)⟩
def St.ren (σ : St) (id id' : Nat) : St := ⟨σ.slots.map fun p => (p.1, p.2.ren id id'), σ.objs.map fun p => (bif Nat.beq p.1 id then id' else p.1, p.2.ren id id')⟩

theorem look_map (f : AV → AV) (hf : f .any = .any) (l : List (Nat × AV)) (i : Nat) : look (l.map fun p => (p.1, f p.2)) i = f (look l i) := by
  induction l with
  | nil => simp [look, hf]
  | cons p l ih =>
    obtain ⟨j, v⟩ := p
    simp only [List.map_cons, look]
    cases Nat.beq j i with
    | true => rfl
    | false => exact ih
theorem lookO_map (f : AO → AO) (l : List (Nat × AO)) (i : Nat) : lookO (l.map fun p => (p.1, f p.2)) i = (lookO l i).map f := by
  induction l with
  | nil => rfl
  | cons p l ih =>
    obtain ⟨j, v⟩ := p
    simp only [List.map_cons, lookO]
    cases Nat.beq j i with
    | true => rfl
    | false => exact ih

section
variable {C : Ctx} {n : Nat} {Q : Exit → St → Prop} {σ : St}

/-- An own row is let go: nobody writes to it any more. -/
theorem Wk.freeze {id e sz : Nat} {cs : List AV} (h : lookO σ.objs id = some (.row e sz cs)) : Wk C n σ (σ.frz id sz cs) := fun w0 H L a w hr => by
  obtain ⟨v, vs, m, hl, hlen, hown, hrl, h1, hsz, hmx, hH⟩ := hr.objs id _ h
  have hv : ∃ H', H.le H' ∧ RepV H' (.sl sz cs) noLoc v ∧ (∀ b o, H' b = some o → w.heap[b]? = some o) ∧ Ext w0.heap.size H H' ∧ ∀ g, ownB v ≠ some g → H' g = H g := by
    rcases hown.2 with ⟨rfl, rfl⟩ | ⟨g, cap, cur, rfl, hB, hh, hnc, hcm, hcs, htake⟩
    · refine ⟨H, Heap.le_refl _, ?_, hr.heap, Ext.refl _ _, fun _ _ => rfl⟩
      simp only [RepV]
      exact ⟨none, 0, 0, rfl, Nat.le_refl _, by simp [maxLen], hsz, hlen, ⟨hmx, fun _ => rfl⟩, fun hp => absurd hp (by omega)⟩
    · refine ⟨fun b => if b = g then some (.cells cur e (0, 0)) else H b, fun b o hb => ?_, ?_, fun b o hb => ?_, ⟨fun b o hb => ?_, fun b hb => ?_⟩, fun g' hg' => ?_⟩
      · have : b ≠ g := fun e => by subst e; rw [hH b rfl] at hb; cases hb
        simp [this, hb]
      · simp only [RepV]
        refine ⟨_, m, cap, rfl, hnc, hcm, hsz, hlen, ⟨hmx, by simp⟩, fun hp => ⟨g, 0, cur, e, (0, 0), vs, rfl, by simp, fun j u hu => ?_, RepL.mono (fun b o hb => ?_) (Loc.le_refl _) hrl, h1⟩⟩
        · rw [← htake, List.getElem?_take] at hu
          split at hu
          · simpa using hu
          · cases hu
        · have : b ≠ g := fun e => by subst e; rw [hH b rfl] at hb; cases hb
          simp [this, hb]
      · by_cases hbg : b = g
        · subst hbg; simp at hb; subst hb; exact hh
        · simp [hbg] at hb; exact hr.heap b o hb
      · have : b ≠ g := fun e => by subst e; rw [hH b rfl] at hb; cases hb
        simp [this, hb]
      · have : b ≠ g := fun e => by omega
        simp [this]
      · have : g' ≠ g := fun e => hg' (by rw [e]; rfl)
        simp [this]
  obtain ⟨H', hle, hsl, hheap, hext, hoff⟩ := hv
  refine ⟨H', L, hext, ⟨C.mono _ _ hle hr.glob, hheap, hr.size, fun i => ?_, fun i o ho => ?_, fun i j o o' g x x' hne hi hj => ?_, hr.below, hr.defers⟩⟩
  · show RepV H' (look (σ.slots.map fun p => (p.1, p.2.frz id sz cs)) i) L _
    rw [look_map (fun x => x.frz id sz cs) rfl]
    exact RepV.frz hle hsl hl (hr.slot i)
  · have ho' : lookO ((delO σ.objs id).map fun p => (p.1, p.2.frz id sz cs)) i = some o := ho
    rw [lookO_map (fun x => x.frz id sz cs), lookO_del] at ho'
    by_cases hi : i = id
    · simp [hi] at ho'
    · simp [hi] at ho'
      obtain ⟨o2, ho2, rfl⟩ := ho'
      have hro := hr.objs i o2 ho2
      have hoff' : ∀ x g, L i = some x → ownB x = some g → H' g = none := fun x g hx hg => by
        rw [hoff g (fun e => hr.apart i id o2 _ g x v hi ho2 h hx hl hg e)]
        exact hro.place hx hg
      cases o2 with
      | var t c =>
        obtain ⟨g, us, a1, a2, a3, a4, a5, a6⟩ := hro
        exact ⟨g, us, a1, a2, RepL.frz hle hsl hl a3, a4, a5, hoff' _ g a1 rfl⟩
      | row e' s c =>
        obtain ⟨u, us, k, a1, a2, a3, a4, a5, a6, a7, a8⟩ := hro
        exact ⟨u, us, k, a1, a2, a3, RepL.mono hle (Loc.le_refl _) a4, a5, a6, a7, fun g hg => hoff' u g a1 hg⟩
      | blk o =>
        obtain ⟨g, a1, a2, a3, a4⟩ := hro
        exact ⟨g, a1, a2, a3, hoff' _ g a1 rfl⟩
      | pin c us => exact ⟨hro.1, RepL.frz hle hsl hl hro.2⟩
  · have old : ∀ k ob, lookO ((delO σ.objs id).map fun p => (p.1, p.2.frz id sz cs)) k = some ob → ∃ ob', σ.sem.μ k = some ob' := fun k ob hk => by
      rw [lookO_map (fun x => x.frz id sz cs), lookO_del] at hk
      by_cases hi : k = id
      · simp [hi] at hk
      · simp [hi] at hk
        obtain ⟨o2, ho2, _⟩ := hk
        exact ⟨o2, ho2⟩
    obtain ⟨o1, h1'⟩ := old i o hi
    obtain ⟨o2, h2'⟩ := old j o' hj
    exact hr.apart i j o1 o2 g x x' hne h1' h2'

theorem lookO_ren {l : List (Nat × AO)} {id id' : Nat} (hf : l.all (fun p => !Nat.beq p.1 id') = true) (j : Nat) : lookO (l.map fun p => (bif Nat.beq p.1 id then id' else p.1, p.2.ren id id')) j = if j = id' then (lookO l id).map (AO.ren id id') else if j = id then none else (lookO l j).map (AO.ren id id') := by
  induction l with
  | nil => simp [lookO]
  | cons p l ih =>
    obtain ⟨k, o⟩ := p
    simp only [List.all_cons, Bool.and_eq_true, Bool.not_eq_true'] at hf
    have hk := Nat.ne_of_beq_eq_false hf.1
    simp only [List.map_cons, lookO, ih hf.2]
    cases hb : Nat.beq k id with
    | true =>
      have := Nat.eq_of_beq_eq_true hb
      subst this
      by_cases h1 : j = id'
      · subst h1; simp
      · have hb1 : Nat.beq id' j = false := beq_ne (fun e => h1 e.symm)
        by_cases h2 : j = k
        · subst h2; simp [h1, hb1]
        · simp [h1, h2, hb1, beq_ne (fun e => h2 e.symm)]
    | false =>
      have hki := Nat.ne_of_beq_eq_false hb
      by_cases h1 : j = id'
      · subst h1
        simp [hf.1]
      · by_cases h2 : j = id
        · subst h2; simp [h1, hb]
        · by_cases h3 : j = k
          · subst h3; simp [h1, h2]
          · simp [h1, h2, beq_ne (fun e => h3 e.symm)]

/-- An own object under another number. -/
theorem Wk.ren {id id' : Nat} (hf : σ.freshB id' = true) : Wk C n σ (σ.ren id id') := fun w0 H L a w hr => by
  have hfr := fresh_sem hf
  have hk : σ.objs.all (fun p => !Nat.beq p.1 id') = true := by
    simp only [St.freshB, Bool.and_eq_true] at hf
    refine List.all_eq_true.2 fun p hp => ?_
    have := List.all_eq_true.1 hf.2 p hp
    simp only [Bool.and_eq_true] at this
    exact this.1
  have keep : ∀ (i j : Nat) (o : AO), j ≠ id' → i = (if j = id then id' else j) → σ.sem.μ j = some o → RepO H w0.heap.size w (L.set id' (L id)) i (o.ren id id') := by
    intro i j o hj hi ho
    have hL : (L.set id' (L id)) i = L j := by
      by_cases h : j = id
      · subst h; simp at hi; subst hi; simp [Loc.set]
      · simp [h] at hi; subst hi; simp [Loc.set, hj]
    have hro := hr.objs j o ho
    cases o with
    | var t c =>
      obtain ⟨g, us, a1, a2, a3, a4⟩ := hro
      exact ⟨g, us, by rw [hL]; exact a1, a2, RepL.ren (hfr.2.2 j _ ho) a3, a4⟩
    | row e' s c =>
      obtain ⟨u, us, k, a1, a2⟩ := hro
      exact ⟨u, us, k, by rw [hL]; exact a1, a2⟩
    | blk o =>
      obtain ⟨g, a1, a2⟩ := hro
      exact ⟨g, by rw [hL]; exact a1, a2⟩
    | pin c us => exact ⟨by rw [hL]; exact hro.1, RepL.ren (hfr.2.2 j _ ho) hro.2⟩
  have inv : ∀ i o, (σ.ren id id').sem.μ i = some o → ∃ j o', j ≠ id' ∧ i = (if j = id then id' else j) ∧ σ.sem.μ j = some o' ∧ o = o'.ren id id' := by
    intro i o ho
    have ho' : lookO (σ.objs.map fun p => (bif Nat.beq p.1 id then id' else p.1, p.2.ren id id')) i = some o := ho
    rw [lookO_ren hk] at ho'
    have hne : ∀ j o', σ.sem.μ j = some o' → j ≠ id' := fun j o' hj e => by subst e; rw [hfr.1] at hj; cases hj
    by_cases h1 : i = id'
    · subst h1
      simp at ho'
      obtain ⟨o', h2, rfl⟩ := ho'
      exact ⟨id, o', hne id o' h2, by simp, h2, rfl⟩
    · by_cases h2 : i = id
      · simp only [h1, if_false] at ho'
        simp [h2] at ho'
      · simp [h1, h2] at ho'
        obtain ⟨o', h3, rfl⟩ := ho'
        exact ⟨i, o', h1, by simp [h2], h3, rfl⟩
  refine ⟨H, L.set id' (L id), Ext.refl _ _, ⟨hr.glob, hr.heap, hr.size, fun i => ?_, fun i o ho => ?_, fun i j o o' g x x' hne hi hj hl hl' hg => ?_, hr.below, hr.defers⟩⟩
  · show RepV H (look (σ.slots.map fun p => (p.1, p.2.ren id id')) i) _ _
    rw [look_map (fun x => x.ren id id') rfl]
    exact RepV.ren (hfr.2.1 i) (hr.slot i)
  · obtain ⟨j, o', h1, h2, h3, rfl⟩ := inv i o ho
    exact keep i j o' h1 h2 h3
  · obtain ⟨j1, o1, a1, a2, a3, _⟩ := inv i o hi
    obtain ⟨j2, o2, b1, b2, b3, _⟩ := inv j o' hj
    have hL : ∀ i j, j ≠ id' → i = (if j = id then id' else j) → (L.set id' (L id)) i = L j := fun i j hj hi => by
      by_cases h : j = id
      · subst h; simp at hi; subst hi; simp [Loc.set]
      · simp [h] at hi; subst hi; simp [Loc.set, hj]
    rw [hL i j1 a1 a2] at hl
    rw [hL j j2 b1 b2] at hl'
    exact hr.apart j1 j2 o1 o2 g x x' (fun e => hne (by rw [a2, b2, e])) a3 b3 hl hl' hg

/-- A nil slice is an own row without elements. -/
theorem Wk.newNil {i id e sz : Nat} (hs : look σ.slots i = .lit (.slice none 0 0)) (hf : σ.freshB id = true) (hsz : 0 < sz) : Wk C n σ ⟨(i, .row id) :: σ.slots, (id, .row e sz []) :: σ.objs⟩ := fun w0 H L a w hr => by
  have hv : a.tmps.getD i undef = .slice none 0 0 := by
    have := hr.slot i
    rw [show σ.sem.ρ i = look σ.slots i from rfl, hs] at this
    simpa [RepV] using this
  have hnew := hr.new (id := id) (ob := .row e sz []) (x := .slice none 0 0) (w' := w) (fresh_sem hf) (Below.refl _ _) (fun g hg => by simp [ownB] at hg)
    ⟨.slice none 0 0, [], 0, by simp [Loc.set], by simp, World.ownsRow_nil w _ e sz, by simp [RepL], by simp, hsz, by simp, fun g hg => by simp [ownB] at hg⟩ hr.heap
  refine ⟨H, L.set id (some (.slice none 0 0)), Ext.refl _ _, ⟨hnew.glob, hnew.heap, hnew.size, fun j => ?_, fun j o ho => ?_, fun j k o o' g x x' hne hj hk => ?_, hnew.below, hnew.defers⟩⟩
  · show RepV H (look ((i, .row id) :: σ.slots) j) _ _
    simp only [look]
    cases hb : Nat.beq i j with
    | true =>
      have := Nat.eq_of_beq_eq_true hb
      subst this
      rw [hv]
      simp [RepV, Loc.set, Value.oneCell']
    | false => exact hnew.slot j
  · refine hnew.objs j o ?_
    have ho' : lookO ((id, .row e sz []) :: σ.objs) j = some o := ho
    simp only [lookO] at ho'
    by_cases hj : j = id
    · subst hj; simpa using ho'
    · rw [beq_ne (fun e => hj e.symm)] at ho'; simp only [hj, if_false]; exact ho'
  · have conv : ∀ j o, lookO ((id, .row e sz []) :: σ.objs) j = some o → (if j = id then some (AO.row e sz []) else σ.sem.μ j) = some o := fun j o ho => by
      simp only [lookO] at ho
      by_cases hj : j = id
      · subst hj; simpa using ho
      · rw [beq_ne (fun e => hj e.symm)] at ho; simp only [hj, if_false]; exact ho
    exact hnew.apart j k o o' g x x' hne (conv j o hj) (conv k o' hk)

/-- What stands for one abstract value stands for another one. -/
def AV.le (x y : AV) : Prop := ∀ (H : Heap) (L : Loc) (v : Value), RepV H x L v → RepV H y L v
theorem AV.le_refl (x : AV) : x.le x := fun _ _ _ h => h
theorem AV.le_nil {sz : Nat} (h : 0 < sz) : AV.le (.lit (.slice none 0 0)) (.sl sz []) := fun H L v hv => by
  simp only [RepV] at hv ⊢
  subst hv
  exact ⟨none, 0, 0, rfl, Nat.le_refl _, by simp [maxLen], h, by simp, ⟨by simp, fun _ => rfl⟩, fun hp => absurd hp (by omega)⟩
theorem AV.le_slc {sz c : Nat} {xs : List AV} : AV.le (.slc sz xs c) (.sl sz xs) := fun H L v hv => by
  simp only [RepV] at hv ⊢
  obtain ⟨A, n, h⟩ := hv
  exact ⟨A, n, c, h⟩
theorem AV.le_nilc {sz : Nat} (h : 0 < sz) : AV.le (.lit (.slice none 0 0)) (.slc sz [] 0) := fun H L v hv => by
  simp only [RepV] at hv ⊢
  subst hv
  exact ⟨none, 0, rfl, Nat.le_refl _, by simp [maxLen], h, by simp, by simp, fun hp => absurd hp (by omega)⟩
inductive LeL : List AV → List AV → Prop
  | nil : LeL [] []
  | cons {x y : AV} {xs ys : List AV} (h : x.le y) (t : LeL xs ys) : LeL (x :: xs) (y :: ys)
theorem LeL.rep {xs ys : List AV} (h : LeL xs ys) : ∀ {H : Heap} {L : Loc} {vs : List Value}, RepL H xs L vs → RepL H ys L vs := by
  induction h with
  | nil => intro H L vs h; exact h
  | cons h t ih =>
    intro H L vs hr
    simp only [RepL] at hr ⊢
    obtain ⟨v, r, rfl, h1, h2⟩ := hr
    exact ⟨v, r, rfl, h _ _ _ h1, ih h2⟩
theorem AV.le_agg {xs ys : List AV} (h : LeL xs ys) : AV.le (.agg xs) (.agg ys) := fun H L v hv => by
  simp only [RepV] at hv ⊢
  obtain ⟨vs, rfl, hr, h1⟩ := hv
  exact ⟨vs, rfl, h.rep hr, h1⟩
theorem Wk.slot {i : Nat} {y : AV} (h : (look σ.slots i).le y) : Wk C n σ ⟨(i, y) :: σ.slots, σ.objs⟩ := fun w0 H L a w hr =>
  ⟨H, L, Ext.refl _ _, ⟨hr.glob, hr.heap, hr.size, fun j => by
    show RepV H (look ((i, y) :: σ.slots) j) _ _
    simp only [look]
    cases hb : Nat.beq i j with
    | true =>
      have := Nat.eq_of_beq_eq_true hb
      subst this
      exact h _ _ _ (hr.slot i)
    | false => exact hr.slot j, hr.objs, hr.apart, hr.below, hr.defers⟩⟩

/-- A slice's length is bounded. -/
theorem awp_bound {c : Code} {i sz : Nat} {cs : List AV} (h : look σ.slots i = .sl sz cs) (k : cs.length ≤ 140737488355328 → awp C n c Q σ) : awp C n c Q σ := fun w0 H L a w hr => by
  refine k ?_ w0 H L a w hr
  have := hr.slot i
  rw [show σ.sem.ρ i = look σ.slots i from rfl, h] at this
  simp only [RepV] at this
  obtain ⟨_, _, _, _, _, _, _, _, h1, _⟩ := this
  exact h1.1
theorem awp_boundO {c : Code} {id e sz : Nat} {cs : List AV} (h : lookO σ.objs id = some (.row e sz cs)) (k : cs.length ≤ 140737488355328 → awp C n c Q σ) : awp C n c Q σ := fun w0 H L a w hr => by
  refine k ?_ w0 H L a w hr
  obtain ⟨_, _, _, _, _, _, _, _, _, h1, _⟩ := hr.objs id _ h
  exact h1

/-! ### Functions -/
def ent : Nat → List AV → List (Nat × AV)
  | _, [] => []
  | i, x :: xs => (i, x) :: ent (i + 1) xs
def entry (args : List AV) : St := ⟨ent 0 args, []⟩
theorem look_ent : ∀ (args : List AV) (i j : Nat), look (ent i args) j = if i ≤ j then (args[j - i]?).getD .any else .any
  | [], i, j => by simp [ent, look]
  | x :: xs, i, j => by
    simp only [ent, look, look_ent xs (i + 1) j]
    cases hb : Nat.beq i j with
    | true => have := Nat.eq_of_beq_eq_true hb; subst this; simp
    | false =>
      have := Nat.ne_of_beq_eq_false hb
      simp only [cond_false]
      by_cases h : i + 1 ≤ j
      · rw [if_pos h, if_pos (by omega), show j - i = (j - (i + 1)) + 1 by omega, List.getElem?_cons_succ]
      · rw [if_neg h]
        by_cases h2 : i ≤ j
        · omega
        · rw [if_neg h2]

/-- What the results' places hold. -/
def ResOk (C : Ctx) (σ : St) : List ResultVar → List AV → Prop
  | [], [] => True
  | .tmp t :: rs, v :: vs => (look σ.slots t).le v ∧ ResOk C σ rs vs
  | .cell t ty :: rs, v :: vs => (∃ id ob, look σ.slots t = .ref id 0 ∧ lookO σ.objs id = some ob ∧ ob.isIter = false ∧ ((tyAgg C.P ty = some ob.cells.length ∧ (AV.agg ob.cells).le v) ∨ (tySc C.P ty = true ∧ ∃ c, ob.cells = [c] ∧ c.le v))) ∧ ResOk C σ rs vs
  | _, _ => False
def packR : List AV → AV
  | [v] => v
  | vs => .tup vs
def postF (C : Ctx) (fn : Func) (res : AV) : Exit → St → Prop
  | .normal, σ => ∃ vs, ResOk C σ fn.results.toList vs ∧ closedL vs = true ∧ res = packR vs
  | .ret, σ => ∃ vs, ResOk C σ fn.results.toList vs ∧ closedL vs = true ∧ res = packR vs
  | _, _ => False

def resOne (tmps : Array Value) : ResultVar → Sem Value
  | .tmp t => pure (tmps.getD t undef)
  | .cell t ty => do loadVar ty (← asAddr (tmps.getD t undef))
theorem res_run {w0 : World} {H : Heap} {L : Loc} {a : Act} {w : World} (hr : Rep C n w0 H L σ.sem a w) : ∀ (rs : List ResultVar) (vs : List AV), ResOk C σ rs vs →
    ∃ us : List Value, (rs.mapM (resOne a.tmps)).run C.P w = .ok us w ∧ RepL H vs L us
  | [], [], _ => ⟨[], by simp, by simp [RepL]⟩
  | .tmp t :: rs, v :: vs, h => by
    obtain ⟨us, h1, h2⟩ := res_run hr rs vs h.2
    refine ⟨a.tmps.getD t undef :: us, by simp only [List.mapM_cons, Sem.run_bind, resOne, Sem.run_pure, Result.andThen_ok, h1], ?_⟩
    simp only [RepL]
    exact ⟨_, _, rfl, h.1 _ _ _ (hr.slot t), h2⟩
  | .cell t ty :: rs, v :: vs, h => by
    obtain ⟨us, h1, h2⟩ := res_run hr rs vs h.2
    obtain ⟨⟨id, ob, hs, ho, hni, hc⟩, _⟩ := h
    have hsl := hr.slot t
    rw [show σ.sem.ρ t = look σ.slots t from rfl, hs] at hsl
    simp only [RepV] at hsl
    obtain ⟨x, g, hl, hg, hv⟩ := hsl
    obtain ⟨vs', arr, ty', hh, hrl, hone, hcell⟩ := (hr.objs id ob ho).cellsAt hni hl hg
    have hlen := hrl.length
    rcases hc with ⟨hag, hle⟩ | ⟨hsc, c, hc, hle⟩
    · have hrun := run_loadVar_agg (P := C.P) (w := w) hag hlen (b := ⟨g, 0, none⟩) (fun j u hj => by rw [cell_at hh]; simpa using hcell j u hj)
      refine ⟨.agg vs'.toArray :: us, by simp only [List.mapM_cons, Sem.run_bind, resOne, hv, asAddr, Sem.run_pure, Result.andThen_ok, hrun, h1], ?_⟩
      simp only [RepL]
      exact ⟨_, _, rfl, hle _ _ _ (by simp only [RepV]; exact ⟨vs', rfl, hrl, hone⟩), h2⟩
    · rw [hc] at hrl
      simp only [RepL] at hrl
      obtain ⟨u, r, rfl, hu, rfl⟩ := hrl
      have hrun := run_loadVar_sc (P := C.P) (w := w) hsc (b := ⟨g, 0, none⟩) (v := u) (by simp [World.cell?, hh]; simpa using hcell 0 u rfl)
      refine ⟨u :: us, by simp only [List.mapM_cons, Sem.run_bind, resOne, hv, asAddr, Sem.run_pure, Result.andThen_ok, hrun, h1], ?_⟩
      simp only [RepL]
      exact ⟨_, _, rfl, hle _ _ _ hu, h2⟩
  | [], v :: vs, h => by simp [ResOk] at h
  | .tmp _ :: _, [], h => by simp [ResOk] at h
  | .cell _ _ :: _, [], h => by simp [ResOk] at h

theorem ecalls_of_awp {f : FuncId} {fn : Func} {c : Code} {args : List AV} {res : AV} (hf : C.P.funcs[f]? = some fn) (hb : fn.body = some c) (hn : args.length ≤ fn.ntmps) (h : awp C fn.ntmps c (postF C fn res) (entry args)) (hmk : C.marks = [] := by rfl) : ECalls C f args res := by
  intro H L vals w hG hH hr
  have hlen := hr.length
  refine calls_of_wp hf hb ((wpIn_wide (n := 0)).1 ?_)
  have hrep : Rep C fn.ntmps w H L (entry args).sem { tmps := vals.toArray ++ Array.replicate (fn.ntmps - vals.toArray.size) undef, defers := [] } w := by
    refine ⟨hG, hH, by simp; omega, fun i => ?_, fun id o ho => by simp [entry, St.sem, lookO] at ho, fun id id' o o' g x x' _ ho => by simp [entry, St.sem, lookO] at ho, Below.refl _ _, hmk.symm⟩
    show RepV H (look (ent 0 args) i) L _
    rw [look_ent]
    simp only [Nat.zero_le, if_true, Nat.sub_zero]
    cases hi : args[i]? with
    | none => simp [RepV]
    | some x =>
      obtain ⟨v, hv1, hv2⟩ := hr.get hi
      have hlt : i < vals.length := (List.getElem?_eq_some_iff.1 hv1).1
      simp only [Option.getD_some, Array.getD_eq_getD_getElem?]
      rw [Array.getElem?_append_left (by simpa using hlt)]
      simpa [hv1] using hv2
  refine wpIn_mono (h w H L _ w hrep none) fun e a' w' hp => ?_
  obtain ⟨σ', H', L', hx, hr', hq⟩ := hp
  have fin : (∃ vs, ResOk C σ' fn.results.toList vs ∧ closedL vs = true ∧ res = packR vs) → a'.defers = [] ∧ ∃ v, (results fn a'.tmps).run C.P w' = .ok v w' ∧ ∃ H' v', Ending.returned v = .returned v' ∧ RepV H' res noLoc v' ∧ Ext w.heap.size H H' ∧ (∀ b o, H' b = some o → w'.heap[b]? = some o) ∧ Below w.heap.size w w' := by
    rintro ⟨vs, hres, hcl, rfl⟩
    obtain ⟨us, hrun, hrl⟩ := res_run hr' _ _ hres
    have hlu := hrl.length
    refine ⟨hr'.defers.trans hmk, if h : us.toArray.size = 1 then us.toArray[0] else .tuple us.toArray, ?_, H', _, rfl, ?_, hx, hr'.heap, hr'.below⟩
    · show (do let vs ← fn.results.mapM (resOne a'.tmps); pure (if h : vs.size = 1 then vs[0] else .tuple vs) : Sem Value).run C.P w' = _
      have hm : (fn.results.mapM (resOne a'.tmps)).run C.P w' = .ok us.toArray w' := by
        rw [Array.mapM_eq_mapM_toList]
        simp [hrun]
      simp only [Sem.run_bind, hm, Result.andThen_ok, Sem.run_pure]
    · have hrc := RepL.closed (L' := noLoc) hcl hrl
      match vs, us, hrc, hlu with
      | [v], [u], hrc, _ =>
        simp only [packR]
        simp only [RepL] at hrc
        obtain ⟨x, r, e, hx, _⟩ := hrc
        cases e
        simpa using hx
      | [], us, hrc, hlu =>
        have : us = [] := List.eq_nil_of_length_eq_zero (by simpa using hlu)
        subst this
        simp only [packR, RepV]
        exact ⟨[], by simp, hrc⟩
      | v1 :: v2 :: vs, us, hrc, hlu =>
        simp only [packR, RepV]
        refine ⟨us, ?_, hrc⟩
        rw [dif_neg (by simp at hlu ⊢; omega)]
  cases e with
  | normal => exact fin hq
  | ret => exact fin hq
  | _ => exact hq.elim
end
end Go.Ab
