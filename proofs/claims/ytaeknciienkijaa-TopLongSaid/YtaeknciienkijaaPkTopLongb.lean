/- What the proof of a row of this seat leans on (part 2 of 5): a library of abstract values, walks of functions, and plain laws. -/
import Derived.Shelf.Small.Bits
import Derived.Shelf.Small.Wraps
import Derived.Shelf.Strconv.Itoa0
import Derived.Shelf.Strings.Prefix
import Derived.Shelf.Bits.Mul64
import Derived.Test.YtaeknciienkijaaProg
import Derived.RangeFuncIn
import Derived.RangeFuncRecord
import Derived.RangeFuncLeaves
import Derived.Deep.DeepHandedRow
import Derived.Lay
import Derived.Lib.LaidTab
import Derived.Lib.SmallJoins
import Derived.Carry
import Derived.SizedLaws
import Derived.ProofKit
import Derived.OpenShut
import Derived.ShutString
import Derived.ChangeOld
import Derived.ChangeSlices
import Derived.MakeChecks
import Derived.Test.YtaeknciienkijaaRows
import Derived.Stop.LaidErr
import Derived.ChangeArms
import Derived.Lib.BitFns
import Derived.Laws.StructEq
import Derived.Laws.Externs
import Derived.Test.YtaeknciienkijaaPkTopLonga
set_option linter.unusedVariables false
set_option linter.unusedSimpArgs false
namespace Go.Ab
open Go.RowKit

mutual
def AV.ren (id id' : Nat) : AV → AV
 | .row i => bif Nat.beq i id then .row id' else .row i
 | .ref i o => bif Nat.beq i id then .ref id' o else .ref i o
 | .vw i o s k => bif Nat.beq i id then .vw id' o s k else .vw i o s k
 | .agg fs => .agg (renL id id' fs)
 | .tup fs => .tup (renL id id' fs)
 | .clo f fs => .clo f (renL id id' fs)
 | .any => .any
 | .lit v => .lit v
 | .sl s c => .sl s c
 | .slc s c k => .slc s c k
 | .ip c => .ip c
def renL (id id' : Nat) : List AV → List AV
 | [] => []
 | x :: xs => x.ren id id' :: renL id id' xs
end
mutual
theorem RepV.ren {H : Heap} {id id' : Nat} : ∀ {x : AV} {L : Loc} {v : Value}, x.has id' = false → RepV H x L v → RepV H (x.ren id id') (L.set id' (L id)) v
 | .any, _, _, _, _ => by simp [AV.ren, RepV]
 | .lit _, _, _, _, h => by simpa [AV.ren, RepV] using h
 | .sl s c, L, _, _, h => by simpa [AV.ren, RepV] using h
 | .slc s c _, L, _, _, h => by simpa [AV.ren, RepV] using h
 | .ip c, L, _, _, h => by simpa [AV.ren, RepV] using h
 | .ref i o, L, _, hn, h => by
  simp only [AV.ren]
  cases hb : Nat.beq i id with
  | true =>
   have := Nat.eq_of_beq_eq_true hb
   subst this
   simp only [cond_true, RepV] at h ⊢
   obtain ⟨x, g, h1, h2, h3⟩ := h
   exact ⟨x, g, by simp [Loc.set, h1], h2, h3⟩
  | false => exact RepV.setL hn h
 | .vw i o s k, L, v, hn, h => by
  simp only [AV.ren]
  cases hb : Nat.beq i id with
  | true =>
   have := Nat.eq_of_beq_eq_true hb
   subst this
   simp only [cond_true, RepV] at h ⊢
   obtain ⟨x, g, A, cap, h1, h2⟩ := h
   exact ⟨x, g, A, cap, by simp [Loc.set, h1], h2⟩
  | false => exact RepV.setL hn h
 | .row i, L, v, hn, h => by
  simp only [AV.ren]
  cases hb : Nat.beq i id with
  | true =>
   have := Nat.eq_of_beq_eq_true hb
   subst this
   simp only [cond_true, RepV] at h ⊢
   exact ⟨by simp [Loc.set, h.1], h.2⟩
  | false => exact RepV.setL hn h
 | .agg fs, _, _, hn, h => by
  simp only [AV.ren, AV.has, RepV] at h hn ⊢
  obtain ⟨vs, rfl, hr, h1⟩ := h
  exact ⟨vs, rfl, RepL.ren hn hr, h1⟩
 | .tup fs, _, _, hn, h => by
  simp only [AV.ren, AV.has, RepV] at h hn ⊢
  obtain ⟨vs, rfl, hr⟩ := h
  exact ⟨vs, rfl, RepL.ren hn hr⟩
 | .clo f fs, _, _, hn, h => by
  simp only [AV.ren, AV.has, RepV] at h hn ⊢
  obtain ⟨vs, rfl, hr⟩ := h
  exact ⟨vs, rfl, RepL.ren hn hr⟩
theorem RepL.ren {H : Heap} {id id' : Nat} : ∀ {xs : List AV} {L : Loc} {vs : List Value}, hasL id' xs = false → RepL H xs L vs → RepL H (renL id id' xs) (L.set id' (L id)) vs
 | [], _, _, _, h => by simpa [renL, RepL] using h
 | x :: xs, _, _, hn, h => by
  simp only [renL, RepL, hasL, Bool.or_eq_false_iff] at h hn ⊢
  obtain ⟨v, r, rfl, h1, h2⟩ := h
  exact ⟨v, r, rfl, RepV.ren hn.1 h1, RepL.ren hn.2 h2⟩
end
def AO.frz (id sz : Nat) (cs : List AV) : AO → AO
 | .var t c => .var t (frzL id sz cs c)
 | .row e s c => .row e s c
 | .blk o => .blk o
 | .pin c us => .pin (frzL id sz cs c) us
def AO.ren (id id' : Nat) : AO → AO
 | .var t c => .var t (renL id id' c)
 | .row e s c => .row e s c
 | .blk o => .blk o
 | .pin c us => .pin (renL id id' c) us
def St.frz (σ : St) (id sz : Nat) (cs : List AV) : St := ⟨σ.slots.map fun p => (p.1, p.2.frz id sz cs), (delO σ.objs id).map fun p => (p.1, p.2.frz id sz cs)⟩
def St.ren (σ : St) (id id' : Nat) : St := ⟨σ.slots.map fun p => (p.1, p.2.ren id id'), σ.objs.map fun p => (bif Nat.beq p.1 id then id' else p.1, p.2.ren id id')⟩

theorem look_map (f : AV → AV) (hf : f .any = .any) (l : List (Nat × AV)) (i : Nat) : look (l.map fun p => (p.1, f p.2)) i = f (look l i) := by
 induction l with
 | nil => simp [look, hf]
 | cons p l ih =>
  obtain ⟨j, v⟩ := p
  simp only [List.map_cons, look]
  cases Nat.beq j i with
  | true => rfl
  | false => exact ih
theorem lookO_map (f : AO → AO) (l : List (Nat × AO)) (i : Nat) : lookO (l.map fun p => (p.1, f p.2)) i = (lookO l i).map f := by
 induction l with
 | nil => rfl
 | cons p l ih =>
  obtain ⟨j, v⟩ := p
  simp only [List.map_cons, lookO]
  cases Nat.beq j i with
  | true => rfl
  | false => exact ih

section
variable {C : Ctx} {n : Nat} {Q : Exit → St → Prop} {σ : St}

theorem Wk.freeze {id e sz : Nat} {cs : List AV} (h : lookO σ.objs id = some (.row e sz cs)) : Wk C n σ (σ.frz id sz cs) := fun w0 H L a w hr => by
 obtain ⟨v, vs, m, hl, hlen, hown, hrl, h1, hsz, hmx, hH⟩ := hr.objs id _ h
 have hv : ∃ H', H.le H' ∧ RepV H' (.sl sz cs) noLoc v ∧ (∀ b o, H' b = some o → w.heap[b]? = some o) ∧ Ext w0.heap.size H H' ∧ ∀ g, ownB v ≠ some g → H' g = H g := by
  rcases hown.2 with ⟨rfl, rfl⟩ | ⟨g, cap, cur, rfl, hB, hh, hnc, hcm, hcs, htake⟩
  ·refine ⟨H, Heap.le_refl _, ?_, hr.heap, Ext.refl _ _, fun _ _ => rfl⟩
   simp only [RepV]
   exact ⟨none, 0, 0, rfl, Nat.le_refl _, by simp [maxLen], hsz, hlen, ⟨hmx, fun _ => rfl⟩, fun hp => absurd hp (by omega)⟩
  ·refine ⟨fun b => if b = g then some (.cells cur e (0, 0)) else H b, fun b o hb => ?_, ?_, fun b o hb => ?_, ⟨fun b o hb => ?_, fun b hb => ?_⟩, fun g' hg' => ?_⟩
   ·have : b ≠ g := fun e => by subst e; rw [hH b rfl] at hb; cases hb
    simp [this, hb]
   ·simp only [RepV]
    refine ⟨_, m, cap, rfl, hnc, hcm, hsz, hlen, ⟨hmx, by simp⟩, fun hp => ⟨g, 0, cur, e, (0, 0), vs, rfl, by simp, fun j u hu => ?_, RepL.mono (fun b o hb => ?_) (Loc.le_refl _) hrl, h1⟩⟩
    ·rw [← htake, List.getElem?_take] at hu
     split at hu
     ·simpa using hu
     ·cases hu
    ·have : b ≠ g := fun e => by subst e; rw [hH b rfl] at hb; cases hb
     simp [this, hb]
   ·by_cases hbg : b = g
    ·subst hbg; simp at hb; subst hb; exact hh
    ·simp [hbg] at hb; exact hr.heap b o hb
   ·have : b ≠ g := fun e => by subst e; rw [hH b rfl] at hb; cases hb
    simp [this, hb]
   ·have : b ≠ g := fun e => by omega
    simp [this]
   ·have : g' ≠ g := fun e => hg' (by rw [e]; rfl)
    simp [this]
 obtain ⟨H', hle, hsl, hheap, hext, hoff⟩ := hv
 refine ⟨H', L, hext, ⟨C.mono _ _ hle hr.glob, hheap, hr.size, fun i => ?_, fun i o ho => ?_, fun i j o o' g x x' hne hi hj => ?_, hr.below, hr.defers⟩⟩
 ·show RepV H' (look (σ.slots.map fun p => (p.1, p.2.frz id sz cs)) i) L _
  rw [look_map (fun x => x.frz id sz cs) rfl]
  exact RepV.frz hle hsl hl (hr.slot i)
 ·have ho' : lookO ((delO σ.objs id).map fun p => (p.1, p.2.frz id sz cs)) i = some o := ho
  rw [lookO_map (fun x => x.frz id sz cs), lookO_del] at ho'
  by_cases hi : i = id
  ·simp [hi] at ho'
  ·simp [hi] at ho'
   obtain ⟨o2, ho2, rfl⟩ := ho'
   have hro := hr.objs i o2 ho2
   have hoff' : ∀ x g, L i = some x → ownB x = some g → H' g = none := fun x g hx hg => by
    rw [hoff g (fun e => hr.apart i id o2 _ g x v hi ho2 h hx hl hg e)]
    exact hro.place hx hg
   cases o2 with
   | var t c =>
    obtain ⟨g, us, a1, a2, a3, a4, a5, a6⟩ := hro
    exact ⟨g, us, a1, a2, RepL.frz hle hsl hl a3, a4, a5, hoff' _ g a1 rfl⟩
   | row e' s c =>
    obtain ⟨u, us, k, a1, a2, a3, a4, a5, a6, a7, a8⟩ := hro
    exact ⟨u, us, k, a1, a2, a3, RepL.mono hle (Loc.le_refl _) a4, a5, a6, a7, fun g hg => hoff' u g a1 hg⟩
   | blk o =>
    obtain ⟨g, a1, a2, a3, a4⟩ := hro
    exact ⟨g, a1, a2, a3, hoff' _ g a1 rfl⟩
   | pin c us => exact ⟨hro.1, RepL.frz hle hsl hl hro.2⟩
 ·have old : ∀ k ob, lookO ((delO σ.objs id).map fun p => (p.1, p.2.frz id sz cs)) k = some ob → ∃ ob', σ.sem.μ k = some ob' := fun k ob hk => by
   rw [lookO_map (fun x => x.frz id sz cs), lookO_del] at hk
   by_cases hi : k = id
   ·simp [hi] at hk
   ·simp [hi] at hk
    obtain ⟨o2, ho2, _⟩ := hk
    exact ⟨o2, ho2⟩
  obtain ⟨o1, h1'⟩ := old i o hi
  obtain ⟨o2, h2'⟩ := old j o' hj
  exact hr.apart i j o1 o2 g x x' hne h1' h2'

theorem lookO_ren {l : List (Nat × AO)} {id id' : Nat} (hf : l.all (fun p => !Nat.beq p.1 id') = true) (j : Nat) : lookO (l.map fun p => (bif Nat.beq p.1 id then id' else p.1, p.2.ren id id')) j = if j = id' then (lookO l id).map (AO.ren id id') else if j = id then none else (lookO l j).map (AO.ren id id') := by
 induction l with
 | nil => simp [lookO]
 | cons p l ih =>
  obtain ⟨k, o⟩ := p
  simp only [List.all_cons, Bool.and_eq_true, Bool.not_eq_true'] at hf
  have hk := Nat.ne_of_beq_eq_false hf.1
  simp only [List.map_cons, lookO, ih hf.2]
  cases hb : Nat.beq k id with
  | true =>
   have := Nat.eq_of_beq_eq_true hb
   subst this
   by_cases h1 : j = id'
   ·subst h1; simp
   ·have hb1 : Nat.beq id' j = false := beq_ne (fun e => h1 e.symm)
    by_cases h2 : j = k
    ·subst h2; simp [h1, hb1]
    ·simp [h1, h2, hb1, beq_ne (fun e => h2 e.symm)]
  | false =>
   have hki := Nat.ne_of_beq_eq_false hb
   by_cases h1 : j = id'
   ·subst h1
    simp [hf.1]
   ·by_cases h2 : j = id
    ·subst h2; simp [h1, hb]
    ·by_cases h3 : j = k
     ·subst h3; simp [h1, h2]
     ·simp [h1, h2, beq_ne (fun e => h3 e.symm)]

theorem Wk.ren {id id' : Nat} (hf : σ.freshB id' = true) : Wk C n σ (σ.ren id id') := fun w0 H L a w hr => by
 have hfr := fresh_sem hf
 have hk : σ.objs.all (fun p => !Nat.beq p.1 id') = true := by
  simp only [St.freshB, Bool.and_eq_true] at hf
  refine List.all_eq_true.2 fun p hp => ?_
  have := List.all_eq_true.1 hf.2 p hp
  simp only [Bool.and_eq_true] at this
  exact this.1
 have keep : ∀ (i j : Nat) (o : AO), j ≠ id' → i = (if j = id then id' else j) → σ.sem.μ j = some o → RepO H w0.heap.size w (L.set id' (L id)) i (o.ren id id') := by
  intro i j o hj hi ho
  have hL : (L.set id' (L id)) i = L j := by
   by_cases h : j = id
   ·subst h; simp at hi; subst hi; simp [Loc.set]
   ·simp [h] at hi; subst hi; simp [Loc.set, hj]
  have hro := hr.objs j o ho
  cases o with
  | var t c =>
   obtain ⟨g, us, a1, a2, a3, a4⟩ := hro
   exact ⟨g, us, by rw [hL]; exact a1, a2, RepL.ren (hfr.2.2 j _ ho) a3, a4⟩
  | row e' s c =>
   obtain ⟨u, us, k, a1, a2⟩ := hro
   exact ⟨u, us, k, by rw [hL]; exact a1, a2⟩
  | blk o =>
   obtain ⟨g, a1, a2⟩ := hro
   exact ⟨g, by rw [hL]; exact a1, a2⟩
  | pin c us => exact ⟨by rw [hL]; exact hro.1, RepL.ren (hfr.2.2 j _ ho) hro.2⟩
 have inv : ∀ i o, (σ.ren id id').sem.μ i = some o → ∃ j o', j ≠ id' ∧ i = (if j = id then id' else j) ∧ σ.sem.μ j = some o' ∧ o = o'.ren id id' := by
  intro i o ho
  have ho' : lookO (σ.objs.map fun p => (bif Nat.beq p.1 id then id' else p.1, p.2.ren id id')) i = some o := ho
  rw [lookO_ren hk] at ho'
  have hne : ∀ j o', σ.sem.μ j = some o' → j ≠ id' := fun j o' hj e => by subst e; rw [hfr.1] at hj; cases hj
  by_cases h1 : i = id'
  ·subst h1
   simp at ho'
   obtain ⟨o', h2, rfl⟩ := ho'
   exact ⟨id, o', hne id o' h2, by simp, h2, rfl⟩
  ·by_cases h2 : i = id
   ·simp only [h1, if_false] at ho'
    simp [h2] at ho'
   ·simp [h1, h2] at ho'
    obtain ⟨o', h3, rfl⟩ := ho'
    exact ⟨i, o', h1, by simp [h2], h3, rfl⟩
 refine ⟨H, L.set id' (L id), Ext.refl _ _, ⟨hr.glob, hr.heap, hr.size, fun i => ?_, fun i o ho => ?_, fun i j o o' g x x' hne hi hj hl hl' hg => ?_, hr.below, hr.defers⟩⟩
 ·show RepV H (look (σ.slots.map fun p => (p.1, p.2.ren id id')) i) _ _
  rw [look_map (fun x => x.ren id id') rfl]
  exact RepV.ren (hfr.2.1 i) (hr.slot i)
 ·obtain ⟨j, o', h1, h2, h3, rfl⟩ := inv i o ho
  exact keep i j o' h1 h2 h3
 ·obtain ⟨j1, o1, a1, a2, a3, _⟩ := inv i o hi
  obtain ⟨j2, o2, b1, b2, b3, _⟩ := inv j o' hj
  have hL : ∀ i j, j ≠ id' → i = (if j = id then id' else j) → (L.set id' (L id)) i = L j := fun i j hj hi => by
   by_cases h : j = id
   ·subst h; simp at hi; subst hi; simp [Loc.set]
   ·simp [h] at hi; subst hi; simp [Loc.set, hj]
  rw [hL i j1 a1 a2] at hl
  rw [hL j j2 b1 b2] at hl'
  exact hr.apart j1 j2 o1 o2 g x x' (fun e => hne (by rw [a2, b2, e])) a3 b3 hl hl' hg

theorem Wk.newNil {i id e sz : Nat} (hs : look σ.slots i = .lit (.slice none 0 0)) (hf : σ.freshB id = true) (hsz : 0 < sz) : Wk C n σ ⟨(i, .row id) :: σ.slots, (id, .row e sz []) :: σ.objs⟩ := fun w0 H L a w hr => by
 have hv : a.tmps.getD i undef = .slice none 0 0 := by
  have := hr.slot i
  rw [show σ.sem.ρ i = look σ.slots i from rfl, hs] at this
  simpa [RepV] using this
 have hnew := hr.new (id := id) (ob := .row e sz []) (x := .slice none 0 0) (w' := w) (fresh_sem hf) (Bel.refl _ _) (fun g hg => by simp [ownB] at hg)
  ⟨.slice none 0 0, [], 0, by simp [Loc.set], by simp, World.ownsRow_nil w _ e sz, by simp [RepL], by simp, hsz, by simp, fun g hg => by simp [ownB] at hg⟩ hr.heap
 refine ⟨H, L.set id (some (.slice none 0 0)), Ext.refl _ _, ⟨hnew.glob, hnew.heap, hnew.size, fun j => ?_, fun j o ho => ?_, fun j k o o' g x x' hne hj hk => ?_, hnew.below, hnew.defers⟩⟩
 ·show RepV H (look ((i, .row id) :: σ.slots) j) _ _
  simp only [look]
  cases hb : Nat.beq i j with
  | true =>
   have := Nat.eq_of_beq_eq_true hb
   subst this
   rw [hv]
   simp [RepV, Loc.set, Value.oneCell']
  | false => exact hnew.slot j
 ·refine hnew.objs j o ?_
  have ho' : lookO ((id, .row e sz []) :: σ.objs) j = some o := ho
  simp only [lookO] at ho'
  by_cases hj : j = id
  ·subst hj; simpa using ho'
  ·rw [beq_ne (fun e => hj e.symm)] at ho'; simp only [hj, if_false]; exact ho'
 ·have conv : ∀ j o, lookO ((id, .row e sz []) :: σ.objs) j = some o → (if j = id then some (AO.row e sz []) else σ.sem.μ j) = some o := fun j o ho => by
   simp only [lookO] at ho
   by_cases hj : j = id
   ·subst hj; simpa using ho
   ·rw [beq_ne (fun e => hj e.symm)] at ho; simp only [hj, if_false]; exact ho
  exact hnew.apart j k o o' g x x' hne (conv j o hj) (conv k o' hk)

def AV.le (x y : AV) : Prop := ∀ (H : Heap) (L : Loc) (v : Value), RepV H x L v → RepV H y L v
theorem AV.le_refl (x : AV) : x.le x := fun _ _ _ h => h
theorem AV.le_nil {sz : Nat} (h : 0 < sz) : AV.le (.lit (.slice none 0 0)) (.sl sz []) := fun H L v hv => by
 simp only [RepV] at hv ⊢
 subst hv
 exact ⟨none, 0, 0, rfl, Nat.le_refl _, by simp [maxLen], h, by simp, ⟨by simp, fun _ => rfl⟩, fun hp => absurd hp (by omega)⟩
inductive LeL : List AV → List AV → Prop
 | nil : LeL [] []
 | cons {x y : AV} {xs ys : List AV} (h : x.le y) (t : LeL xs ys) : LeL (x :: xs) (y :: ys)
theorem LeL.rep {xs ys : List AV} (h : LeL xs ys) : ∀ {H : Heap} {L : Loc} {vs : List Value}, RepL H xs L vs → RepL H ys L vs := by
 induction h with
 | nil => intro H L vs h; exact h
 | cons h t ih =>
  intro H L vs hr
  simp only [RepL] at hr ⊢
  obtain ⟨v, r, rfl, h1, h2⟩ := hr
  exact ⟨v, r, rfl, h _ _ _ h1, ih h2⟩
theorem AV.le_agg {xs ys : List AV} (h : LeL xs ys) : AV.le (.agg xs) (.agg ys) := fun H L v hv => by
 simp only [RepV] at hv ⊢
 obtain ⟨vs, rfl, hr, h1⟩ := hv
 exact ⟨vs, rfl, h.rep hr, h1⟩
theorem Wk.slot {i : Nat} {y : AV} (h : (look σ.slots i).le y) : Wk C n σ ⟨(i, y) :: σ.slots, σ.objs⟩ := fun w0 H L a w hr =>
 ⟨H, L, Ext.refl _ _, ⟨hr.glob, hr.heap, hr.size, fun j => by
  show RepV H (look ((i, y) :: σ.slots) j) _ _
  simp only [look]
  cases hb : Nat.beq i j with
  | true =>
   have := Nat.eq_of_beq_eq_true hb
   subst this
   exact h _ _ _ (hr.slot i)
  | false => exact hr.slot j, hr.objs, hr.apart, hr.below, hr.defers⟩⟩

theorem awp_bound {c : Code} {i sz : Nat} {cs : List AV} (h : look σ.slots i = .sl sz cs) (k : cs.length ≤ 140737488355328 → awp C n c Q σ) : awp C n c Q σ := fun w0 H L a w hr => by
 refine k ?_ w0 H L a w hr
 have := hr.slot i
 rw [show σ.sem.ρ i = look σ.slots i from rfl, h] at this
 simp only [RepV] at this
 obtain ⟨_, _, _, _, _, _, _, _, h1, _⟩ := this
 exact h1.1
def ent : Nat → List AV → List (Nat × AV)
 | _, [] => []
 | i, x :: xs => (i, x) :: ent (i + 1) xs
def entry (args : List AV) : St := ⟨ent 0 args, []⟩
theorem look_ent : ∀ (args : List AV) (i j : Nat), look (ent i args) j = if i ≤ j then (args[j - i]?).getD .any else .any
 | [], i, j => by simp [ent, look]
 | x :: xs, i, j => by
  simp only [ent, look, look_ent xs (i + 1) j]
  cases hb : Nat.beq i j with
  | true => have := Nat.eq_of_beq_eq_true hb; subst this; simp
  | false =>
   have := Nat.ne_of_beq_eq_false hb
   simp only [cond_false]
   by_cases h : i + 1 ≤ j
   ·rw [if_pos h, if_pos (by omega), show j - i = (j - (i + 1)) + 1 by omega, List.getElem?_cons_succ]
   ·rw [if_neg h]
    by_cases h2 : i ≤ j
    ·omega
    ·rw [if_neg h2]

def ResOk (C : Ctx) (σ : St) : List ResultVar → List AV → Prop
 | [], [] => True
 | .tmp t :: rs, v :: vs => (look σ.slots t).le v ∧ ResOk C σ rs vs
 | .cell t ty :: rs, v :: vs => (∃ id ob, look σ.slots t = .ref id 0 ∧ lookO σ.objs id = some ob ∧ ob.isIter = false ∧ ((tyAgg C.P ty = some ob.cells.length ∧ (AV.agg ob.cells).le v) ∨ (tySc C.P ty = true ∧ ∃ c, ob.cells = [c] ∧ c.le v))) ∧ ResOk C σ rs vs
 | _, _ => False
def packR : List AV → AV
 | [v] => v
 | vs => .tup vs
def postF (C : Ctx) (fn : Func) (res : AV) : Exit → St → Prop
 | .normal, σ => ∃ vs, ResOk C σ fn.results.toList vs ∧ closedL vs = true ∧ res = packR vs
 | .ret, σ => ∃ vs, ResOk C σ fn.results.toList vs ∧ closedL vs = true ∧ res = packR vs
 | _, _ => False

def resOne (tmps : Array Value) : ResultVar → Sem Value
 | .tmp t => pure (tmps.getD t undef)
 | .cell t ty => do loadVar ty (← asAddr (tmps.getD t undef))
theorem res_run {w0 : World} {H : Heap} {L : Loc} {a : Act} {w : World} (hr : Rep C n w0 H L σ.sem a w) : ∀ (rs : List ResultVar) (vs : List AV), ResOk C σ rs vs →
  ∃ us : List Value, (rs.mapM (resOne a.tmps)).run C.P w = .ok us w ∧ RepL H vs L us
 | [], [], _ => ⟨[], by simp, by simp [RepL]⟩
 | .tmp t :: rs, v :: vs, h => by
  obtain ⟨us, h1, h2⟩ := res_run hr rs vs h.2
  refine ⟨a.tmps.getD t undef :: us, by simp only [List.mapM_cons, Sem.run_bind, resOne, Sem.run_pure, Result.andThen_ok, h1], ?_⟩
  simp only [RepL]
  exact ⟨_, _, rfl, h.1 _ _ _ (hr.slot t), h2⟩
 | .cell t ty :: rs, v :: vs, h => by
  obtain ⟨us, h1, h2⟩ := res_run hr rs vs h.2
  obtain ⟨⟨id, ob, hs, ho, hni, hc⟩, _⟩ := h
  have hsl := hr.slot t
  rw [show σ.sem.ρ t = look σ.slots t from rfl, hs] at hsl
  simp only [RepV] at hsl
  obtain ⟨x, g, hl, hg, hv⟩ := hsl
  obtain ⟨vs', arr, ty', hh, hrl, hone, hcell⟩ := (hr.objs id ob ho).cellsAt hni hl hg
  have hlen := hrl.length
  rcases hc with ⟨hag, hle⟩ | ⟨hsc, c, hc, hle⟩
  ·have hrun := run_loadVar_agg (P := C.P) (w := w) hag hlen (b := ⟨g, 0, none⟩) (fun j u hj => by rw [cell_at hh]; simpa using hcell j u hj)
   refine ⟨.agg vs'.toArray :: us, by simp only [List.mapM_cons, Sem.run_bind, resOne, hv, asAddr, Sem.run_pure, Result.andThen_ok, hrun, h1], ?_⟩
   simp only [RepL]
   exact ⟨_, _, rfl, hle _ _ _ (by simp only [RepV]; exact ⟨vs', rfl, hrl, hone⟩), h2⟩
  ·rw [hc] at hrl
   simp only [RepL] at hrl
   obtain ⟨u, r, rfl, hu, rfl⟩ := hrl
   have hrun := run_loadVar_sc (P := C.P) (w := w) hsc (b := ⟨g, 0, none⟩) (v := u) (by simp [World.cell?, hh]; simpa using hcell 0 u rfl)
   refine ⟨u :: us, by simp only [List.mapM_cons, Sem.run_bind, resOne, hv, asAddr, Sem.run_pure, Result.andThen_ok, hrun, h1], ?_⟩
   simp only [RepL]
   exact ⟨_, _, rfl, hle _ _ _ hu, h2⟩
 | [], v :: vs, h => by simp [ResOk] at h
 | .tmp _ :: _, [], h => by simp [ResOk] at h
 | .cell _ _ :: _, [], h => by simp [ResOk] at h

theorem ecalls_of_awp {f : FuncId} {fn : Func} {c : Code} {args : List AV} {res : AV} (hf : C.P.funcs[f]? = some fn) (hb : fn.body = some c) (hn : args.length ≤ fn.ntmps) (h : awp C fn.ntmps c (postF C fn res) (entry args)) (hmk : C.marks = [] := by rfl) : ECalls C f args res := by
 intro H L vals w hG hH hr
 have hlen := hr.length
 refine calls_of_wp hf hb ((wpIn_wide (n := 0)).1 ?_)
 have hrep : Rep C fn.ntmps w H L (entry args).sem { tmps := vals.toArray ++ Array.replicate (fn.ntmps - vals.toArray.size) undef, defers := [] } w := by
  refine ⟨hG, hH, by simp; omega, fun i => ?_, fun id o ho => by simp [entry, St.sem, lookO] at ho, fun id id' o o' g x x' _ ho => by simp [entry, St.sem, lookO] at ho, Bel.refl _ _, hmk.symm⟩
  show RepV H (look (ent 0 args) i) L _
  rw [look_ent]
  simp only [Nat.zero_le, if_true, Nat.sub_zero]
  cases hi : args[i]? with
  | none => simp [RepV]
  | some x =>
   obtain ⟨v, hv1, hv2⟩ := hr.get hi
   have hlt : i < vals.length := (List.getElem?_eq_some_iff.1 hv1).1
   simp only [Option.getD_some, Array.getD_eq_getD_getElem?]
   rw [Array.getElem?_append_left (by simpa using hlt)]
   simpa [hv1] using hv2
 refine wpIn_mono (h w H L _ w hrep none) fun e a' w' hp => ?_
 obtain ⟨σ', H', L', hx, hr', hq⟩ := hp
 have fin : (∃ vs, ResOk C σ' fn.results.toList vs ∧ closedL vs = true ∧ res = packR vs) → a'.defers = [] ∧ ∃ v, (results fn a'.tmps).run C.P w' = .ok v w' ∧ ∃ H' v', Ending.returned v = .returned v' ∧ RepV H' res noLoc v' ∧ Ext w.heap.size H H' ∧ (∀ b o, H' b = some o → w'.heap[b]? = some o) ∧ Bel w.heap.size w w' := by
  rintro ⟨vs, hres, hcl, rfl⟩
  obtain ⟨us, hrun, hrl⟩ := res_run hr' _ _ hres
  have hlu := hrl.length
  refine ⟨hr'.defers.trans hmk, if h : us.toArray.size = 1 then us.toArray[0] else .tuple us.toArray, ?_, H', _, rfl, ?_, hx, hr'.heap, hr'.below⟩
  ·show (do let vs ← fn.results.mapM (resOne a'.tmps); pure (if h : vs.size = 1 then vs[0] else .tuple vs) : Sem Value).run C.P w' = _
   have hm : (fn.results.mapM (resOne a'.tmps)).run C.P w' = .ok us.toArray w' := by
    rw [Array.mapM_eq_mapM_toList]
    simp [hrun]
   simp only [Sem.run_bind, hm, Result.andThen_ok, Sem.run_pure]
  ·have hrc := RepL.closed (L' := noLoc) hcl hrl
   match vs, us, hrc, hlu with
   | [v], [u], hrc, _ =>
    simp only [packR]
    simp only [RepL] at hrc
    obtain ⟨x, r, e, hx, _⟩ := hrc
    cases e
    simpa using hx
   | [], us, hrc, hlu =>
    have : us = [] := List.eq_nil_of_length_eq_zero (by simpa using hlu)
    subst this
    simp only [packR, RepV]
    exact ⟨[], by simp, hrc⟩
   | v1 :: v2 :: vs, us, hrc, hlu =>
    simp only [packR, RepV]
    refine ⟨us, ?_, hrc⟩
    rw [dif_neg (by simp at hlu ⊢; omega)]
 cases e with
 | normal => exact fin hq
 | ret => exact fin hq
 | _ => exact hq.elim
end
end Go.Ab

namespace Go.Ab
open Go.RowKit

inductive Gd (ops : Array Oper) (s : List (Nat × AV)) : Option (Nat × Bool) → Prop
 | none : Gd ops s none
 | yes {j d : Nat} {want b : Bool} (hd : (ops[j]?).bind (·.dst) = some d) (hb : look s d = .lit (.bool b)) (h : b = want) : Gd ops s (some (j, want))

def ev (s : List (Nat × AV)) : Operand → AV
 | .tmp t => look s t
 | .const v => .lit v
 | .global g => .lit (.pointer (some ⟨g, 0, none⟩))
 | .func f => .clo f []
def evs (s : List (Nat × AV)) : List Operand → List AV
 | [] => []
 | x :: xs => ev s x :: evs s xs
theorem ev_st (s : List (Nat × AV)) (m : List (Nat × AO)) (x : Operand) : (St.sem ⟨s, m⟩).ev x = ev s x := by cases x <;> rfl
theorem evs_st (s : List (Nat × AV)) (m : List (Nat × AO)) (xs : List Operand) : xs.map (St.sem ⟨s, m⟩).ev = evs s xs := by
 induction xs with
 | nil => rfl
 | cons x xs ih => simp only [List.map_cons, evs, ih, ev_st]
def frS (s : List (Nat × AV)) (m : List (Nat × AO)) (id : Nat) : Bool := s.all (fun p => !p.2.has id) && m.all fun p => !Nat.beq p.1 id && !p.2.has id

section
variable {C : Ctx} {ops : Array Oper} {s : List (Nat × AV)} {m : List (Nat × AO)} {os : List Oper} {K : List Eff → St → Prop} {d : Nat} {t : TypeId} {p : String} {af : Array Edge} {g : Option (Nat × Bool)}

theorem aops_end {σ : St} (h : K [] σ) : aops C ops σ [] K := aops_nil h

theorem o_step {dst : Option Nat} {op : Op} {e : Eff} (hg : Gd ops s g) (hs : Step C (St.sem ⟨s, m⟩) ⟨dst, op, t, p, af, g⟩ e) (hf : e.fresh.all (St.freshB ⟨s, m⟩) = true) (k : aops C ops (St.app ⟨s, m⟩ dst e) os fun es σ' => K (e :: es) σ') :
  aops C ops ⟨s, m⟩ (⟨dst, op, t, p, af, g⟩ :: os) K := by
 cases hg with
 | none => exact aops_step rfl hs hf k
 | yes hd hb h => exact aops_stepG rfl hd hb h hs hf k
theorem o_val {op : Op} {v : AV} {us : List Nat} (hg : Gd ops s g) (hs : Step C (St.sem ⟨s, m⟩) ⟨some d, op, t, p, af, g⟩ { val := v, use := us }) (k : aops C ops ⟨(d, v) :: s, m⟩ os fun es σ' => K ({ val := v, use := us } :: es) σ') :
  aops C ops ⟨s, m⟩ (⟨some d, op, t, p, af, g⟩ :: os) K := o_step hg hs rfl k
theorem o_skip {j d' : Nat} {want b : Bool} {op : Op} (hd : (ops[j]?).bind (·.dst) = some d') (hb : look s d' = .lit (.bool b)) (h : b = !want) (k : aops C ops ⟨(d, .lit undef) :: s, m⟩ os fun es σ' => K ({ val := .lit undef } :: es) σ') :
  aops C ops ⟨s, m⟩ (⟨some d, op, t, p, af, some (j, want)⟩ :: os) K := aops_skipG rfl hd hb (by subst h; cases want <;> simp) k
theorem o_skipU {j d' : Nat} {want : Bool} {op : Op} (hd : (ops[j]?).bind (·.dst) = some d') (hb : look s d' = .lit undef) (k : aops C ops ⟨(d, .lit undef) :: s, m⟩ os fun es σ' => K ({ val := .lit undef } :: es) σ') :
  aops C ops ⟨s, m⟩ (⟨some d, op, t, p, af, some (j, want)⟩ :: os) K := aops_skipG rfl hd hb (by simp [undef]) k
theorem o_split {b : Bool} (d' : Nat) (hb : look s d' = .lit (.bool b)) (h1 : b = true → aops C ops ⟨s, m⟩ os K) (h2 : b = false → aops C ops ⟨s, m⟩ os K) : aops C ops ⟨s, m⟩ os K := aops_split b h1 h2
theorem o_splitP {q : Prop} [Decidable q] (d' : Nat) (hb : look s d' = .lit (.bool (decide q))) (h1 : q → aops C ops ⟨s, m⟩ os K) (h2 : ¬ q → aops C ops ⟨s, m⟩ os K) : aops C ops ⟨s, m⟩ os K :=
 aops_split (decide q) (fun h => h1 (of_decide_eq_true h)) (fun h => h2 (of_decide_eq_false h))

theorem o_move {x : Operand} (v : AV) (hg : Gd ops s g) (hx : ev s x = v) (k : aops C ops ⟨(d, v) :: s, m⟩ os fun es σ' => K ({ val := v } :: es) σ') : aops C ops ⟨s, m⟩ (⟨some d, .move x, t, p, af, g⟩ :: os) K :=
 o_val hg (by rw [← hx, ← ev_st s m]; exact .copy x (.inl rfl)) k
theorem o_assign {x : Operand} (v : AV) (hg : Gd ops s g) (hx : ev s x = v) (k : aops C ops ⟨(d, v) :: s, m⟩ os fun es σ' => K ({ val := v } :: es) σ') : aops C ops ⟨s, m⟩ (⟨some d, .assign x, t, p, af, g⟩ :: os) K :=
 o_val hg (by rw [← hx, ← ev_st s m]; exact .copy x (.inr rfl)) k
theorem o_pickT {c x y : Operand} {b : Bool} (v : AV) (hg : Gd ops s g) (hc : ev s c = .lit (.bool b)) (hb : b = true) (hx : ev s x = v) (k : aops C ops ⟨(d, v) :: s, m⟩ os fun es σ' => K ({ val := v } :: es) σ') : aops C ops ⟨s, m⟩ (⟨some d, .pick c x y, t, p, af, g⟩ :: os) K :=
 o_val hg (by
  have := Step.pick (C := C) (S := St.sem ⟨s, m⟩) (o := ⟨some d, .pick c x y, t, p, af, g⟩) c x y b rfl (by rw [ev_st]; exact hc)
  rw [hb, cond_true, ev_st, hx] at this
  exact this) k
theorem o_pickF {c x y : Operand} {b : Bool} (v : AV) (hg : Gd ops s g) (hc : ev s c = .lit (.bool b)) (hb : b = false) (hy : ev s y = v) (k : aops C ops ⟨(d, v) :: s, m⟩ os fun es σ' => K ({ val := v } :: es) σ') : aops C ops ⟨s, m⟩ (⟨some d, .pick c x y, t, p, af, g⟩ :: os) K :=
 o_val hg (by
  have := Step.pick (C := C) (S := St.sem ⟨s, m⟩) (o := ⟨some d, .pick c x y, t, p, af, g⟩) c x y b rfl (by rw [ev_st]; exact hc)
  rw [hb, cond_false, ev_st, hy] at this
  exact this) k

theorem o_pure1 {op : Op} {x : Operand} {a v : Value} (hops : op.operands = #[x]) (hg : Gd ops s g) (hx : ev s x = .lit a) (h : ∀ ρ : Operand → Value, ρ x = a → ∀ w, (execOp ρ ⟨some d, op, t, p, af, g⟩).run C.P w = .ok (.value v) w)
  (k : aops C ops ⟨(d, .lit v) :: s, m⟩ os fun es σ' => K ({ val := .lit v } :: es) σ') : aops C ops ⟨s, m⟩ (⟨some d, op, t, p, af, g⟩ :: os) K :=
 o_val hg (.pure v fun ρ hρ w => h ρ (hρ x (by simp [hops]) a (by rw [ev_st]; exact AV.isLit_of hx)) w) k
theorem o_pure2 {op : Op} {x y : Operand} {a b v : Value} (hops : op.operands = #[x, y]) (hg : Gd ops s g) (hx : ev s x = .lit a) (hy : ev s y = .lit b) (h : ∀ ρ : Operand → Value, ρ x = a → ρ y = b → ∀ w, (execOp ρ ⟨some d, op, t, p, af, g⟩).run C.P w = .ok (.value v) w)
  (k : aops C ops ⟨(d, .lit v) :: s, m⟩ os fun es σ' => K ({ val := .lit v } :: es) σ') : aops C ops ⟨s, m⟩ (⟨some d, op, t, p, af, g⟩ :: os) K :=
 o_val hg (.pure v fun ρ hρ w => h ρ (hρ x (by simp [hops]) a (by rw [ev_st]; exact AV.isLit_of hx)) (hρ y (by simp [hops]) b (by rw [ev_st]; exact AV.isLit_of hy)) w) k

theorem eqGuard_int {P : Program} {op : BinOp} {xt : TypeId} {x y : Operand} {k : IntKind} {a : Int} {b : Value} (w : World) : (eqGuard op xt x y (.int k a) b).run P w = .ok () w := by
 have : eqGuard op xt x y (.int k a) b = pure () := eqGuard_at_int ..
 rw [this]; rfl

theorem o_arith {b : BinOp} {xt yt : TypeId} {x y : Operand} {k : IntKind} {a c : Int} (r : Int) (hb : (b = .add ∧ r = k.wrap (a + c)) ∨ (b = .sub ∧ r = k.wrap (a - c)) ∨ (b = .mul ∧ r = k.wrap (a * c))) (hg : Gd ops s g) (hx : ev s x = .lit (.int k a)) (hy : ev s y = .lit (.int k c))
  (kk : aops C ops ⟨(d, .lit (.int k r)) :: s, m⟩ os fun es σ' => K ({ val := .lit (.int k r) } :: es) σ') : aops C ops ⟨s, m⟩ (⟨some d, .binOp b xt x y yt, t, p, af, g⟩ :: os) K :=
 o_pure2 rfl hg hx hy (fun ρ h1 h2 w => by
  rcases hb with ⟨rfl, rfl⟩ | ⟨rfl, rfl⟩ | ⟨rfl, rfl⟩ <;> simp [execOp, h1, h2, eqGuard_int, binOp, Op.intArith]) kk
theorem o_add {xt yt : TypeId} {x y : Operand} {k : IntKind} {a c : Int} (hg : Gd ops s g) (hx : ev s x = .lit (.int k a)) (hy : ev s y = .lit (.int k c)) (hr : k.wrap (a + c) = a + c)
  (kk : aops C ops ⟨(d, .lit (.int k (a + c))) :: s, m⟩ os fun es σ' => K ({ val := .lit (.int k (a + c)) } :: es) σ') : aops C ops ⟨s, m⟩ (⟨some d, .binOp .add xt x y yt, t, p, af, g⟩ :: os) K :=
 o_arith (a + c) (.inl ⟨rfl, hr.symm⟩) hg hx hy kk
theorem o_sub {xt yt : TypeId} {x y : Operand} {k : IntKind} {a c : Int} (hg : Gd ops s g) (hx : ev s x = .lit (.int k a)) (hy : ev s y = .lit (.int k c)) (hr : k.wrap (a - c) = a - c)
  (kk : aops C ops ⟨(d, .lit (.int k (a - c))) :: s, m⟩ os fun es σ' => K ({ val := .lit (.int k (a - c)) } :: es) σ') : aops C ops ⟨s, m⟩ (⟨some d, .binOp .sub xt x y yt, t, p, af, g⟩ :: os) K :=
 o_arith (a - c) (.inr (.inl ⟨rfl, hr.symm⟩)) hg hx hy kk
theorem o_mul {xt yt : TypeId} {x y : Operand} {k : IntKind} {a c : Int} (hg : Gd ops s g) (hx : ev s x = .lit (.int k a)) (hy : ev s y = .lit (.int k c)) (hr : k.wrap (a * c) = a * c)
  (kk : aops C ops ⟨(d, .lit (.int k (a * c))) :: s, m⟩ os fun es σ' => K ({ val := .lit (.int k (a * c)) } :: es) σ') : aops C ops ⟨s, m⟩ (⟨some d, .binOp .mul xt x y yt, t, p, af, g⟩ :: os) K :=
 o_arith (a * c) (.inr (.inr ⟨rfl, hr.symm⟩)) hg hx hy kk
theorem o_quo {xt yt : TypeId} {x y : Operand} {k : IntKind} {a c : Int} (hg : Gd ops s g) (hx : ev s x = .lit (.int k a)) (hy : ev s y = .lit (.int k c)) (ha : 0 ≤ a) (hc : 0 < c) (hr : k.wrap (a / c) = a / c)
  (kk : aops C ops ⟨(d, .lit (.int k (a / c))) :: s, m⟩ os fun es σ' => K ({ val := .lit (.int k (a / c)) } :: es) σ') : aops C ops ⟨s, m⟩ (⟨some d, .binOp .quo xt x y yt, t, p, af, g⟩ :: os) K :=
 o_pure2 rfl hg hx hy (fun ρ h1 h2 w => by
  have hne : ¬ c = 0 := by omega
  have ht : a.tdiv c = a / c := Int.tdiv_eq_ediv_of_nonneg ha
  simp [execOp, h1, h2, eqGuard_int, binOp, Op.intDiv, hne, ht, hr]) kk
theorem o_rem {xt yt : TypeId} {x y : Operand} {k : IntKind} {a c : Int} (hg : Gd ops s g) (hx : ev s x = .lit (.int k a)) (hy : ev s y = .lit (.int k c)) (ha : 0 ≤ a) (hc : 0 < c)
  (kk : aops C ops ⟨(d, .lit (.int k (a % c))) :: s, m⟩ os fun es σ' => K ({ val := .lit (.int k (a % c)) } :: es) σ') : aops C ops ⟨s, m⟩ (⟨some d, .binOp .rem xt x y yt, t, p, af, g⟩ :: os) K :=
 o_pure2 rfl hg hx hy (fun ρ h1 h2 w => by
  have hne : ¬ c = 0 := by omega
  have ht : a.tmod c = a % c := Int.tmod_eq_emod_of_nonneg ha
  simp [execOp, h1, h2, eqGuard_int, binOp, Op.intDiv, hne, ht]) kk
theorem o_remT {xt yt : TypeId} {x y : Operand} {k : IntKind} {a c : Int} (hg : Gd ops s g) (hx : ev s x = .lit (.int k a)) (hy : ev s y = .lit (.int k c)) (hc : c ≠ 0)
  (kk : aops C ops ⟨(d, .lit (.int k (a.tmod c))) :: s, m⟩ os fun es σ' => K ({ val := .lit (.int k (a.tmod c)) } :: es) σ') : aops C ops ⟨s, m⟩ (⟨some d, .binOp .rem xt x y yt, t, p, af, g⟩ :: os) K :=
 o_pure2 rfl hg hx hy (fun ρ h1 h2 w => by simp [execOp, h1, h2, eqGuard_int, binOp, Op.intDiv, hc]) kk
def cmpP (b : BinOp) (a c : Int) : Prop := match b with
 | .eql => a = c
 | .neq => a ≠ c
 | .lss => a < c
 | .leq => a ≤ c
 | .gtr => c < a
 | .geq => c ≤ a
 | _ => False
theorem o_eql {xt yt : TypeId} {x y : Operand} {k : IntKind} {a c : Int} (hg : Gd ops s g) (hx : ev s x = .lit (.int k a)) (hy : ev s y = .lit (.int k c)) (kk : aops C ops ⟨(d, .lit (.bool (decide (a = c)))) :: s, m⟩ os fun es σ' => K ({ val := .lit (.bool (decide (a = c))) } :: es) σ') :
  aops C ops ⟨s, m⟩ (⟨some d, .binOp .eql xt x y yt, t, p, af, g⟩ :: os) K := o_pure2 rfl hg hx hy (fun ρ h1 h2 w => by simp [execOp, h1, h2, eqGuard_int, binOp, Op.intCmp]; rfl) kk
theorem o_neq {xt yt : TypeId} {x y : Operand} {k : IntKind} {a c : Int} (hg : Gd ops s g) (hx : ev s x = .lit (.int k a)) (hy : ev s y = .lit (.int k c)) (kk : aops C ops ⟨(d, .lit (.bool (decide (a ≠ c)))) :: s, m⟩ os fun es σ' => K ({ val := .lit (.bool (decide (a ≠ c))) } :: es) σ') :
  aops C ops ⟨s, m⟩ (⟨some d, .binOp .neq xt x y yt, t, p, af, g⟩ :: os) K := o_pure2 rfl hg hx hy (fun ρ h1 h2 w => by
   have : (a != c) = decide (a ≠ c) := by by_cases h : a = c <;> simp [h]
   simp [execOp, h1, h2, eqGuard_int, binOp, Op.intCmp, this]) kk
theorem o_lss {xt yt : TypeId} {x y : Operand} {k : IntKind} {a c : Int} (hg : Gd ops s g) (hx : ev s x = .lit (.int k a)) (hy : ev s y = .lit (.int k c)) (kk : aops C ops ⟨(d, .lit (.bool (decide (a < c)))) :: s, m⟩ os fun es σ' => K ({ val := .lit (.bool (decide (a < c))) } :: es) σ') :
  aops C ops ⟨s, m⟩ (⟨some d, .binOp .lss xt x y yt, t, p, af, g⟩ :: os) K := o_pure2 rfl hg hx hy (fun ρ h1 h2 w => by simp [execOp, h1, h2, eqGuard_int, binOp, Op.intCmp]) kk
theorem o_leq {xt yt : TypeId} {x y : Operand} {k : IntKind} {a c : Int} (hg : Gd ops s g) (hx : ev s x = .lit (.int k a)) (hy : ev s y = .lit (.int k c)) (kk : aops C ops ⟨(d, .lit (.bool (decide (a ≤ c)))) :: s, m⟩ os fun es σ' => K ({ val := .lit (.bool (decide (a ≤ c))) } :: es) σ') :
  aops C ops ⟨s, m⟩ (⟨some d, .binOp .leq xt x y yt, t, p, af, g⟩ :: os) K := o_pure2 rfl hg hx hy (fun ρ h1 h2 w => by simp [execOp, h1, h2, eqGuard_int, binOp, Op.intCmp]) kk
theorem o_gtr {xt yt : TypeId} {x y : Operand} {k : IntKind} {a c : Int} (hg : Gd ops s g) (hx : ev s x = .lit (.int k a)) (hy : ev s y = .lit (.int k c)) (kk : aops C ops ⟨(d, .lit (.bool (decide (c < a)))) :: s, m⟩ os fun es σ' => K ({ val := .lit (.bool (decide (c < a))) } :: es) σ') :
  aops C ops ⟨s, m⟩ (⟨some d, .binOp .gtr xt x y yt, t, p, af, g⟩ :: os) K := o_pure2 rfl hg hx hy (fun ρ h1 h2 w => by simp [execOp, h1, h2, eqGuard_int, binOp, Op.intCmp]) kk
theorem o_geq {xt yt : TypeId} {x y : Operand} {k : IntKind} {a c : Int} (hg : Gd ops s g) (hx : ev s x = .lit (.int k a)) (hy : ev s y = .lit (.int k c)) (kk : aops C ops ⟨(d, .lit (.bool (decide (c ≤ a)))) :: s, m⟩ os fun es σ' => K ({ val := .lit (.bool (decide (c ≤ a))) } :: es) σ') :
  aops C ops ⟨s, m⟩ (⟨some d, .binOp .geq xt x y yt, t, p, af, g⟩ :: os) K := o_pure2 rfl hg hx hy (fun ρ h1 h2 w => by simp [execOp, h1, h2, eqGuard_int, binOp, Op.intCmp]) kk
theorem eqGuard_bool {P : Program} {op : BinOp} {xt : TypeId} {x y : Operand} {a : Bool} {b : Value} (w : World) : (eqGuard op xt x y (.bool a) b).run P w = .ok () w := by
 have : eqGuard op xt x y (.bool a) b = pure () := eqGuard_at_bool ..
 rw [this]; rfl
theorem eqGuard_str {P : Program} {op : BinOp} {xt : TypeId} {x y : Operand} {a : ByteArray} {b : Value} (w : World) : (eqGuard op xt x y (.string a) b).run P w = .ok () w := by
 have : eqGuard op xt x y (.string a) b = pure () := eqGuard_at_string ..
 rw [this]; rfl
theorem o_eqlB {xt yt : TypeId} {x y : Operand} {a c : Bool} (hg : Gd ops s g) (hx : ev s x = .lit (.bool a)) (hy : ev s y = .lit (.bool c)) (ht : C.P.underlying xt = some .bool) (kk : aops C ops ⟨(d, .lit (.bool (decide (a = c)))) :: s, m⟩ os fun es σ' => K ({ val := .lit (.bool (decide (a = c))) } :: es) σ') :
  aops C ops ⟨s, m⟩ (⟨some d, .binOp .eql xt x y yt, t, p, af, g⟩ :: os) K := o_pure2 rfl hg hx hy (fun ρ h1 h2 w => by
   have : (a == c) = decide (a = c) := by cases a <;> cases c <;> rfl
   simp [execOp, h1, h2, eqGuard_bool, run_eql_bool w xt a c ht, this]) kk
theorem o_neqB {xt yt : TypeId} {x y : Operand} {a c : Bool} (hg : Gd ops s g) (hx : ev s x = .lit (.bool a)) (hy : ev s y = .lit (.bool c)) (ht : C.P.underlying xt = some .bool) (kk : aops C ops ⟨(d, .lit (.bool (decide (a ≠ c)))) :: s, m⟩ os fun es σ' => K ({ val := .lit (.bool (decide (a ≠ c))) } :: es) σ') :
  aops C ops ⟨s, m⟩ (⟨some d, .binOp .neq xt x y yt, t, p, af, g⟩ :: os) K := o_pure2 rfl hg hx hy (fun ρ h1 h2 w => by
   have e : ((binOp .neq xt (.bool a) (.bool c)).run C.P w) = .ok (.bool (decide (a ≠ c))) w := by
    have := run_equal_bool w xt a c ht
    simp only [binOp, Sem.run_bind, this, Result.andThen_ok, Sem.run_pure]
    cases a <;> cases c <;> rfl
   simp [execOp, h1, h2, eqGuard_bool, e]) kk
theorem o_eqlS {xt yt : TypeId} {x y : Operand} {a c : ByteArray} (hg : Gd ops s g) (hx : ev s x = .lit (.string a)) (hy : ev s y = .lit (.string c)) (kk : aops C ops ⟨(d, .lit (.bool (decide (a.toList = c.toList)))) :: s, m⟩ os fun es σ' => K ({ val := .lit (.bool (decide (a.toList = c.toList))) } :: es) σ') :
  aops C ops ⟨s, m⟩ (⟨some d, .binOp .eql xt x y yt, t, p, af, g⟩ :: os) K := o_pure2 rfl hg hx hy (fun ρ h1 h2 w => by
   have : (a.toList == c.toList) = decide (a.toList = c.toList) := by by_cases h : a.toList = c.toList <;> simp [h]
   simp [execOp, h1, h2, eqGuard_str, binOp, Op.stringOp, this]) kk
theorem o_neqS {xt yt : TypeId} {x y : Operand} {a c : ByteArray} (hg : Gd ops s g) (hx : ev s x = .lit (.string a)) (hy : ev s y = .lit (.string c)) (kk : aops C ops ⟨(d, .lit (.bool (decide (a.toList ≠ c.toList)))) :: s, m⟩ os fun es σ' => K ({ val := .lit (.bool (decide (a.toList ≠ c.toList))) } :: es) σ') :
  aops C ops ⟨s, m⟩ (⟨some d, .binOp .neq xt x y yt, t, p, af, g⟩ :: os) K := o_pure2 rfl hg hx hy (fun ρ h1 h2 w => by
   have : (!(a.toList == c.toList)) = decide (a.toList ≠ c.toList) := by by_cases h : a.toList = c.toList <;> simp [h]
   simp only [execOp, h1, h2, eqGuard_str, binOp, Op.stringOp, Sem.run_bind, Result.andThen_ok, Sem.run_pure, this]) kk
theorem o_notP {xt : TypeId} {x : Operand} {q : Prop} [Decidable q] (hg : Gd ops s g) (hx : ev s x = .lit (.bool (decide q))) (kk : aops C ops ⟨(d, .lit (.bool (decide (¬ q)))) :: s, m⟩ os fun es σ' => K ({ val := .lit (.bool (decide (¬ q))) } :: es) σ') :
  aops C ops ⟨s, m⟩ (⟨some d, .unOp .not xt x, t, p, af, g⟩ :: os) K := o_pure1 rfl hg hx (fun ρ h1 w => by
   have : (!decide q) = decide (¬ q) := by by_cases h : q <;> simp [h]
   simp only [execOp, h1, Op.unary, Sem.run_bind, Sem.run_pure, Result.andThen_ok, this]) kk
theorem o_not {xt : TypeId} {x : Operand} {b : Bool} (hg : Gd ops s g) (hx : ev s x = .lit (.bool b)) (kk : aops C ops ⟨(d, .lit (.bool (!b))) :: s, m⟩ os fun es σ' => K ({ val := .lit (.bool (!b)) } :: es) σ') :
  aops C ops ⟨s, m⟩ (⟨some d, .unOp .not xt x, t, p, af, g⟩ :: os) K := o_pure1 rfl hg hx (fun ρ h1 w => by simp [execOp, h1, Op.unary]) kk
theorem o_neg {xt : TypeId} {x : Operand} {k : IntKind} {a : Int} (hg : Gd ops s g) (hx : ev s x = .lit (.int k a)) (hr : k.wrap (-a) = -a) (kk : aops C ops ⟨(d, .lit (.int k (-a))) :: s, m⟩ os fun es σ' => K ({ val := .lit (.int k (-a)) } :: es) σ') :
  aops C ops ⟨s, m⟩ (⟨some d, .unOp .neg xt x, t, p, af, g⟩ :: os) K := o_pure1 rfl hg hx (fun ρ h1 w => by simp [execOp, h1, Op.unary, Op.intArith, hr]) kk
def tyInt (P : Program) (t : TypeId) : Option IntKind := match P.underlying t with
 | some (.int k) => some k
 | _ => none
theorem o_conv {src dst : TypeId} {x : Operand} {k k' : IntKind} {a : Int} (hg : Gd ops s g) (hx : ev s x = .lit (.int k a)) (hs : tyInt C.P src = some k) (hd : tyInt C.P dst = some k') (hr : k'.wrap a = a) (kk : aops C ops ⟨(d, .lit (.int k' a)) :: s, m⟩ os fun es σ' => K ({ val := .lit (.int k' a) } :: es) σ') :
  aops C ops ⟨s, m⟩ (⟨some d, .convert src dst x, t, p, af, g⟩ :: os) K := o_pure1 rfl hg hx (fun ρ h1 w => by
   have u1 : C.P.underlying src = some (.int k) := by
    unfold tyInt at hs
    cases hu : C.P.underlying src with
    | none => simp [hu] at hs
    | some dd => cases dd <;> simp [hu] at hs; subst hs; rfl
   have u2 : C.P.underlying dst = some (.int k') := by
    unfold tyInt at hd
    cases hu : C.P.underlying dst with
    | none => simp [hu] at hd
    | some dd => cases dd <;> simp [hu] at hd; subst hd; rfl
   simp [execOp, h1, convert, run_underlying u1, run_underlying u2, Conv.intToInt, hr]) kk
theorem o_lenS {ty : TypeId} {x : Operand} {a : ByteArray} (hg : Gd ops s g) (hx : ev s x = .lit (.string a)) (hs : C.P.underlying ty = some .string) (kk : aops C ops ⟨(d, .lit (.int .i64 (a.size : Int))) :: s, m⟩ os fun es σ' => K ({ val := .lit (.int .i64 (a.size : Int)) } :: es) σ') :
  aops C ops ⟨s, m⟩ (⟨some d, .call { callee := .builtin .len, args := #[x], argTypes := #[ty] }, t, p, af, g⟩ :: os) K := o_pure1 (x := x) rfl hg hx (fun ρ h1 w => by
   simp [execOp, resolve, invoke, builtin, h1, Builtin.len_, run_underlying hs, goInt]) kk
theorem o_max {ty ty' : TypeId} {x y : Operand} {a c : Int} (hg : Gd ops s g) (hx : ev s x = .lit (.int .i64 a)) (hy : ev s y = .lit (.int .i64 c)) (h : ∀ w, (Builtin.max_ #[ty, ty'] t #[.int .i64 a, .int .i64 c]).run C.P w = .ok (.int .i64 (max a c)) w)
  (kk : aops C ops ⟨(d, .lit (.int .i64 (max a c))) :: s, m⟩ os fun es σ' => K ({ val := .lit (.int .i64 (max a c)) } :: es) σ') :
  aops C ops ⟨s, m⟩ (⟨some d, .call { callee := .builtin .max, args := #[x, y], argTypes := #[ty, ty'] }, t, p, af, g⟩ :: os) K := o_pure2 (x := x) (y := y) rfl hg hx hy (fun ρ h1 h2 w => by
   simp [execOp, resolve, invoke, builtin, h1, h2, h w]) kk
end
end Go.Ab

namespace Go.Ab
open Go.RowKit

def setO : List (Nat × AO) → Nat → AO → List (Nat × AO)
 | [], _, _ => []
 | (j, v) :: r, i, o => bif Nat.beq j i then (j, o) :: r else (j, v) :: setO r i o
theorem lookO_set {l : List (Nat × AO)} {i : Nat} {ob : AO} (h : lookO l i = some ob) (o : AO) (j : Nat) : lookO (setO l i o) j = if j = i then some o else lookO l j := by
 induction l with
 | nil => simp [lookO] at h
 | cons p l ih =>
  obtain ⟨k, v⟩ := p
  simp only [lookO] at h
  simp only [setO]
  cases hb : Nat.beq k i with
  | true =>
   have := Nat.eq_of_beq_eq_true hb
   subst this
   simp only [cond_true, lookO]
   by_cases hj : j = k
   ·simp [hj]
   ·simp [hj, beq_ne (fun e => hj e.symm)]
  | false =>
   have hne := Nat.ne_of_beq_eq_false hb
   rw [hb] at h
   simp only [cond_false, lookO, ih h]
   cases hb2 : Nat.beq k j with
   | true => have := Nat.eq_of_beq_eq_true hb2; subst this; simp [hne]
   | false => simp
theorem lookO_none_of_fr {s : List (Nat × AV)} {m : List (Nat × AO)} {id : Nat} (h : St.freshB ⟨s, m⟩ id = true) : lookO m id = none := (fresh_sem h).1

def callable (P : Program) (f : FuncId) : Bool := match P.funcs[f]? with
 | some fn => fn.body.isSome && !(fn.name == "runtime.NumGoroutine")
 | none => false
theorem callable_spec {P : Program} {f : FuncId} (h : callable P f = true) : ((P.funcs[f]?).map (·.body.isSome)) = some true ∧ ((P.funcs[f]?).map (·.name == "runtime.NumGoroutine")) = some false := by
 unfold callable at h
 cases hf : P.funcs[f]? with
 | none => simp [hf] at h
 | some fn =>
  simp only [hf, Bool.and_eq_true, Bool.not_eq_true'] at h
  simp [h.1, h.2]

section
variable {C : Ctx} {ops : Array Oper} {s : List (Nat × AV)} {m : List (Nat × AO)} {os : List Oper} {K : List Eff → St → Prop} {d : Nat} {t : TypeId} {p : String} {af : Array Edge} {g : Option (Nat × Bool)}

theorem aops_sem {σ σ2 : St} (h : σ.sem = σ2.sem) (k : aops C ops σ2 os K) : aops C ops σ os K := by
 obtain ⟨es, σ', ht, hk⟩ := k
 exact ⟨es, σ', by rw [h]; exact ht, hk⟩
theorem o_mem {dst : Option Nat} {op : Op} {e : Eff} {s' : List (Nat × AV)} {m' : List (Nat × AO)} (hg : Gd ops s g) (hs : Step C (St.sem ⟨s, m⟩) ⟨dst, op, t, p, af, g⟩ e) (hf : e.fresh.all (St.freshB ⟨s, m⟩) = true)
  (he : (St.app ⟨s, m⟩ dst e).sem = St.sem ⟨s', m'⟩) (k : aops C ops ⟨s', m'⟩ os fun es σ' => K (e :: es) σ') : aops C ops ⟨s, m⟩ (⟨dst, op, t, p, af, g⟩ :: os) K := o_step hg hs hf (aops_sem he k)
theorem sem_new {id : Nat} {ob : AO} {v : AV} {us fr : List Nat} (h : St.freshB ⟨s, m⟩ id = true) : (St.app ⟨s, m⟩ (some d) { val := v, upd := [(id, some ob)], use := us, fresh := fr }).sem = St.sem ⟨(d, v) :: s, (id, ob) :: m⟩ := by
 unfold St.app St.sem
 congr 1
 funext j
 simp only [appU, lookO_put, lookO]
 by_cases hj : j = id
 ·subst hj; simp
 ·simp [hj, beq_ne (fun e => hj e.symm)]
theorem sem_set {dst : Option Nat} {id : Nat} {ob ob' : AO} {v : AV} {us fr : List Nat} {s' : List (Nat × AV)} (h : lookO m id = some ob) (hs : (match dst with | some d => (d, v) :: s | none => s) = s') : (St.app ⟨s, m⟩ dst { val := v, upd := [(id, some ob')], use := us, fresh := fr }).sem = St.sem ⟨s', setO m id ob'⟩ := by
 subst hs
 unfold St.app St.sem
 congr 1
 funext j
 simp only [appU, lookO_put, lookO_set h]

theorem o_lenSl {ty e : TypeId} {x : Operand} {sz : Nat} {cs : List AV} (n : Nat) (hg : Gd ops s g) (ht : C.P.underlying ty = some (.slice e)) (hx : ev s x = .sl sz cs) (hn : cs.length = n * sz) (k : aops C ops ⟨(d, .lit (.int .i64 (n : Int))) :: s, m⟩ os fun es σ' => K ({ val := .lit (.int .i64 (n : Int)) } :: es) σ') :
  aops C ops ⟨s, m⟩ (⟨some d, .call { callee := .builtin .len, args := #[x], argTypes := #[ty] }, t, p, af, g⟩ :: os) K := o_val hg (.lenSl ty e x sz n cs rfl ht (by rw [ev_st]; exact hx) hn) k
theorem o_lenRow {ty e e' : TypeId} {x : Operand} {id sz : Nat} {cs : List AV} (n : Nat) (hg : Gd ops s g) (ht : C.P.underlying ty = some (.slice e)) (hx : ev s x = .row id) (ho : lookO m id = some (.row e' sz cs)) (hn : cs.length = n * sz) (k : aops C ops ⟨(d, .lit (.int .i64 (n : Int))) :: s, m⟩ os fun es σ' => K ({ val := .lit (.int .i64 (n : Int)), use := [id] } :: es) σ') :
  aops C ops ⟨s, m⟩ (⟨some d, .call { callee := .builtin .len, args := #[x], argTypes := #[ty] }, t, p, af, g⟩ :: os) K := o_val hg (.lenRow ty e e' x id sz n cs rfl ht (by rw [ev_st]; exact hx) ho hn) k
theorem o_call {f : FuncId} {args : Array Operand} {tys : Array TypeId} (asx : List AV) (res : AV) (hg : Gd ops s g) (hb : callable C.P f = true) (ha : evs s args.toList = asx) (hc : ECalls C f asx res) (k : aops C ops ⟨(d, res) :: s, m⟩ os fun es σ' => K ({ val := res } :: es) σ') :
  aops C ops ⟨s, m⟩ (⟨some d, .call { callee := .value (.func f), args := args, argTypes := tys }, t, p, af, g⟩ :: os) K :=
 o_val hg (.call f args tys asx res rfl (callable_spec hb).1 (callable_spec hb).2 (by rw [evs_st]; exact ha) hc) k
theorem o_callO {f : FuncId} {args : Array Operand} {tys : Array TypeId} {res : AV} {ty : TypeId} {cs : List AV} (id : Nat) (asx : List AV) (hg : Gd ops s g) (hb : callable C.P f = true) (ha : evs s args.toList = asx) (hc : ECallsO C f asx res id (.var ty cs)) (hf : St.freshB ⟨s, m⟩ id = true)
  (k : aops C ops ⟨(d, res) :: s, (id, .var ty cs) :: m⟩ os fun es σ' => K ({ val := res, upd := [(id, some (.var ty cs))], fresh := [id] } :: es) σ') :
  aops C ops ⟨s, m⟩ (⟨some d, .call { callee := .value (.func f), args := args, argTypes := tys }, t, p, af, g⟩ :: os) K :=
 o_mem hg (.callO f args tys asx res id ty cs rfl (callable_spec hb).1 (callable_spec hb).2 (by rw [evs_st]; exact ha) hc) (by simp [hf]) (sem_new hf) k
theorem o_alloc {ty : TypeId} {z : List Value} (id : Nat) (cs : List AV) (hg : Gd ops s g) (hz : tyZero C.P ty = some z) (h1 : z.all (·.oneCell') = true) (hcs : z.map .lit = cs) (hf : St.freshB ⟨s, m⟩ id = true)
  (k : aops C ops ⟨(d, .ref id 0) :: s, (id, .var ty cs) :: m⟩ os fun es σ' => K ({ val := .ref id 0, upd := [(id, some (.var ty cs))], fresh := [id] } :: es) σ') : aops C ops ⟨s, m⟩ (⟨some d, .alloc ty, t, p, af, g⟩ :: os) K := by
 subst hcs
 exact o_mem hg (.alloc ty z id rfl hz h1) (by simp [hf]) (sem_new hf) k
theorem o_box {ty : TypeId} {x : Operand} (id : Nat) (cs : List AV) (hg : Gd ops s g) (hx : cellsOf (ev s x) = some cs) (hf : St.freshB ⟨s, m⟩ id = true)
  (k : aops C ops ⟨(d, .ref id 0) :: s, (id, .var ty cs) :: m⟩ os fun es σ' => K ({ val := .ref id 0, upd := [(id, some (.var ty cs))], fresh := [id] } :: es) σ') : aops C ops ⟨s, m⟩ (⟨some d, .box ty x, t, p, af, g⟩ :: os) K :=
 o_mem hg (.box ty x id cs rfl (by rw [ev_st]; exact hx)) (by simp [hf]) (sem_new hf) k
theorem o_loadS {ty : TypeId} {x : Operand} {id off : Nat} {ob : AO} (c : AV) (hg : Gd ops s g) (ht : tySc C.P ty = true) (hx : ev s x = .ref id off) (ho : lookO m id = some ob) (hk : ob.cells[off]? = some c)
  (k : aops C ops ⟨(d, c) :: s, m⟩ os fun es σ' => K ({ val := c, use := [id] } :: es) σ') : aops C ops ⟨s, m⟩ (⟨some d, .load ty x, t, p, af, g⟩ :: os) K := o_val hg (.loadS ty x id off ob c rfl (by rw [ev_st]; exact hx) ho ht hk) k
theorem o_loadA {ty : TypeId} {x : Operand} {id off n : Nat} {ob : AO} (cs : List AV) (hg : Gd ops s g) (ht : tyAgg C.P ty = some n) (hx : ev s x = .ref id off) (ho : lookO m id = some ob) (hni : ob.isIter = false) (hl : Nat.ble (off + n) ob.cells.length = true) (hk : (ob.cells.drop off).take n = cs)
  (k : aops C ops ⟨(d, .agg cs) :: s, m⟩ os fun es σ' => K ({ val := .agg cs, use := [id] } :: es) σ') : aops C ops ⟨s, m⟩ (⟨some d, .load ty x, t, p, af, g⟩ :: os) K := by
 subst hk
 exact o_val hg (.loadA ty x id off n ob rfl (by rw [ev_st]; exact hx) ho hni ht (Nat.le_of_ble_eq_true hl)) k
theorem o_loadIS {ty : TypeId} {x : Operand} {cs : List AV} (c : AV) (hg : Gd ops s g) (ht : tySc C.P ty = true) (hx : ev s x = .ip cs) (hk : cs[0]? = some c)
  (k : aops C ops ⟨(d, c) :: s, m⟩ os fun es σ' => K ({ val := c } :: es) σ') : aops C ops ⟨s, m⟩ (⟨some d, .load ty x, t, p, af, g⟩ :: os) K := o_val hg (.loadIS ty x c cs rfl (by rw [ev_st]; exact hx) ht hk) k
theorem o_store {ty : TypeId} {x y : Operand} {id off n : Nat} {ty' : TypeId} {cs new : List AV} (m' : List (Nat × AO)) (hg : Gd ops s g) (ht : tySize C.P ty = some n) (hx : ev s x = .ref id off) (ho : lookO m id = some (.var ty' cs)) (hy : cellsOf (ev s y) = some new) (hn : new.length = n) (hl : Nat.ble (off + n) cs.length = true)
  (hm : setO m id (.var ty' (over cs off new)) = m') (k : aops C ops ⟨s, m'⟩ os fun es σ' => K ({ val := .any, upd := [(id, some (.var ty' (over cs off new)))], use := [id] } :: es) σ') : aops C ops ⟨s, m⟩ (⟨none, .store ty x y, t, p, af, g⟩ :: os) K := by
 subst hm
 exact o_mem hg (.store ty x y id off n (.var ty' cs) new rfl (by rw [ev_st]; exact hx) ho (by rw [ev_st]; exact hy) rfl ht hn (Nat.le_of_ble_eq_true hl)) rfl (sem_set ho rfl) k
theorem o_storeRow {ty : TypeId} {x y : Operand} {id off n : Nat} {e : TypeId} {sz : Nat} {cs new : List AV} (cs' : List AV) (m' : List (Nat × AO)) (hg : Gd ops s g) (ht : tySize C.P ty = some n) (hx : ev s x = .ref id off) (ho : lookO m id = some (.row e sz cs)) (hy : cellsOf (ev s y) = some new) (hcl : closedL new = true) (hn : new.length = n) (hl : off + n ≤ cs.length)
  (hc : over cs off new = cs') (hm : setO m id (.row e sz cs') = m') (k : aops C ops ⟨s, m'⟩ os fun es σ' => K ({ val := .any, upd := [(id, some (.row e sz cs'))], use := [id] } :: es) σ') : aops C ops ⟨s, m⟩ (⟨none, .store ty x y, t, p, af, g⟩ :: os) K := by
 subst hm
 subst hc
 exact o_mem hg (.storeRow ty x y id off n e sz cs new rfl (by rw [ev_st]; exact hx) ho (by rw [ev_st]; exact hy) hcl ht hn hl) rfl (sem_set ho rfl) k
theorem o_fieldRef {ty : TypeId} {x : Operand} {f id off fo : Nat} {ft : TypeId} (o' : Nat) (hg : Gd ops s g) (hf : tyField C.P ty f = some (fo, ft)) (hx : ev s x = .ref id off) (ho : off + fo = o') (k : aops C ops ⟨(d, .ref id o') :: s, m⟩ os fun es σ' => K ({ val := .ref id o' } :: es) σ') :
  aops C ops ⟨s, m⟩ (⟨some d, .fieldAddr ty x f, t, p, af, g⟩ :: os) K := by
 subst ho
 exact o_val hg (.fieldRef ty x f id off fo ft rfl (by rw [ev_st]; exact hx) hf) k
theorem o_index1 {ty : TypeId} {x y : Operand} {e by' : Nat} {cs : List AV} {kk : IntKind} {i : Int} (hg : Gd ops s g) (ht : tyElem C.P ty = some (e, 1, by')) (hx : ev s x = .sl 1 cs) (hy : ev s y = .lit (.int kk i)) (h0 : 0 ≤ i) (h1 : i.toNat < cs.length)
  (k : aops C ops ⟨(d, .ip (cs.drop i.toNat)) :: s, m⟩ os fun es σ' => K ({ val := .ip (cs.drop i.toNat) } :: es) σ') : aops C ops ⟨s, m⟩ (⟨some d, .indexAddr ty x y, t, p, af, g⟩ :: os) K := by
 have := Step.indexSl (C := C) (S := St.sem ⟨s, m⟩) (o := ⟨some d, .indexAddr ty x y, t, p, af, g⟩) ty x y e 1 by' cs kk i rfl ht (by rw [ev_st]; exact hx) (by rw [ev_st]; exact hy) h0 (by omega)
 rw [Nat.mul_one] at this
 exact o_val hg this k
theorem o_indexRow1 {ty : TypeId} {x y : Operand} {e e' id by' : Nat} {cs : List AV} {kk : IntKind} {i : Int} (hg : Gd ops s g) (ht : tyElem C.P ty = some (e, 1, by')) (hx : ev s x = .row id) (ho : lookO m id = some (.row e' 1 cs)) (hy : ev s y = .lit (.int kk i)) (h0 : 0 ≤ i) (h1 : i.toNat < cs.length)
  (k : aops C ops ⟨(d, .ref id i.toNat) :: s, m⟩ os fun es σ' => K ({ val := .ref id i.toNat, use := [id] } :: es) σ') : aops C ops ⟨s, m⟩ (⟨some d, .indexAddr ty x y, t, p, af, g⟩ :: os) K := by
 have := Step.indexRow (C := C) (S := St.sem ⟨s, m⟩) (o := ⟨some d, .indexAddr ty x y, t, p, af, g⟩) ty x y e e' id 1 by' cs kk i rfl ht (by rw [ev_st]; exact hx) ho (by rw [ev_st]; exact hy) h0 (by omega)
 rw [Nat.mul_one] at this
 exact o_val hg this k
theorem o_build {ty : TypeId} {parts : Array (Nat × Operand)} {pl : Nat → Option (Nat × Nat)} {z : List Value} (cs : List AV) (ps : List (Nat × List AV)) (hg : Gd ops s g) (hp : tyPlaces C.P ty = some pl) (hz : tyZero C.P ty = some z) (h1 : z.all (·.oneCell') = true) (hps : optL (parts.toList.map fun (i, x) => (cellsOf (ev s x)).map fun c => (i, c)) = some ps) (hc : fillA pl (z.map .lit) ps = some cs)
  (k : aops C ops ⟨(d, .agg cs) :: s, m⟩ os fun es σ' => K ({ val := .agg cs } :: es) σ') : aops C ops ⟨s, m⟩ (⟨some d, .build ty parts, t, p, af, g⟩ :: os) K :=
 o_val hg (.build ty parts pl z ps cs rfl hp hz h1 (by simp only [ev_st]; exact hps) hc) k
theorem o_buildSlice {ty : TypeId} {len : Nat} {parts : Array (Nat × Operand)} {e sz by' : Nat} {z : List Value} (id : Nat) (cs : List AV) (ps : List (Nat × List AV)) (hg : Gd ops s g) (ht : tyElem C.P ty = some (e, sz, by')) (hsz : Nat.blt 0 sz = true) (hz : tyZero C.P e = some z) (h1 : z.all (·.oneCell') = true) (hzl : z.length = sz)
  (hps : optL (parts.toList.map fun (i, x) => (cellsOf (ev s x)).map fun c => (i, c)) = some ps) (hc : fillA (fun i => some (i * sz, sz)) ((List.range (len * sz)).map fun j => .lit (z.getD (j % sz) undef)) ps = some cs) (hcl : closedL cs = true) (hl : Nat.ble (len * sz) 16777216 = true) (hf : St.freshB ⟨s, m⟩ id = true)
  (k : aops C ops ⟨(d, .row id) :: s, (id, .row e sz cs) :: m⟩ os fun es σ' => K ({ val := .row id, upd := [(id, some (.row e sz cs))], fresh := [id] } :: es) σ') : aops C ops ⟨s, m⟩ (⟨some d, .buildSlice ty len parts, t, p, af, g⟩ :: os) K :=
 o_mem hg (.buildSlice ty len parts e sz by' z ps cs id rfl ht (by rw [Nat.blt_eq] at hsz; exact hsz) hz h1 hzl (by simp only [ev_st]; exact hps) hc hcl (Nat.le_of_ble_eq_true hl)) (by simp [hf]) (sem_new hf) k
theorem o_makeN {ty : TypeId} {x y : Operand} {e by' : Nat} {z : Value} {kk kk' : IntKind} {c : Int} (id : Nat) (hg : Gd ops s g) (ht : tyElem C.P ty = some (e, 1, by')) (hz : tyZero C.P e = some [z]) (h1 : z.oneCell' = true) (hx : ev s x = .lit (.int kk c)) (hy : ev s y = .lit (.int kk' c)) (h0 : 0 ≤ c) (hb : by' * c.toNat ≤ 140737488355328) (hby : Nat.blt 0 by' = true) (hf : St.freshB ⟨s, m⟩ id = true)
  (k : aops C ops ⟨(d, .row id) :: s, (id, .row e 1 (List.replicate c.toNat (.lit z))) :: m⟩ os fun es σ' => K ({ val := .row id, upd := [(id, some (.row e 1 (List.replicate c.toNat (.lit z))))], fresh := [id] } :: es) σ') : aops C ops ⟨s, m⟩ (⟨some d, .makeSlice ty x y, t, p, af, g⟩ :: os) K :=
 o_mem hg (.makeN ty x y e by' z kk kk' c id rfl ht hz h1 (by rw [ev_st]; exact hx) (by rw [ev_st]; exact hy) h0 hb (by rw [Nat.blt_eq] at hby; exact hby)) (by simp [hf]) (sem_new hf) k
theorem o_slice {ty : TypeId} {x : Operand} {lo hi mx : Option Operand} {e sz by' n : Nat} {cs : List AV} (l h : Nat) (cs' : List AV) (hg : Gd ops s g) (ht : tyElem C.P ty = some (e, sz, by')) (hx : ev s x = .sl sz cs) (hn : cs.length = n * sz)
  (hlo : (St.sem ⟨s, m⟩).loOk lo l) (hhi : (St.sem ⟨s, m⟩).hiOk hi n h) (hmx : (St.sem ⟨s, m⟩).mxOk mx hi.isSome h) (h1 : l ≤ h) (h2 : h ≤ n) (hc : (cs.drop (l * sz)).take ((h - l) * sz) = cs')
  (k : aops C ops ⟨(d, .sl sz cs') :: s, m⟩ os fun es σ' => K ({ val := .sl sz cs' } :: es) σ') : aops C ops ⟨s, m⟩ (⟨some d, .slice ty x lo hi mx, t, p, af, g⟩ :: os) K := by
 subst hc
 exact o_val hg (.sliceSl ty x lo hi mx e sz by' n cs l h rfl ht (by rw [ev_st]; exact hx) hn hlo hhi hmx h1 h2) k
theorem sem_append {id id' : Nat} {ob : AO} {v : AV} {us fr : List Nat} (m' : List (Nat × AO)) (hm : delO m id = m') (hne : id' ≠ id) : (St.app ⟨s, m⟩ (some d) { val := v, upd := [(id', some ob), (id, none)], use := us, fresh := fr }).sem = St.sem ⟨(d, v) :: s, (id', ob) :: m'⟩ := by
 subst hm
 unfold St.app St.sem
 congr 1
 funext j
 simp only [appU, lookO_put, lookO, lookO_del]
 by_cases hj : j = id'
 ·subst hj; simp
 ·simp [hj, beq_ne (fun e => hj e.symm)]
theorem o_append {ty : TypeId} {a x : Operand} {e sz by' : Nat} {z : List Value} {id : Nat} {cs : List AV} (id' : Nat) (ds cs' : List AV) (us : List Nat) (m' : List (Nat × AO)) (hg : Gd ops s g) (ht : tyElem C.P ty = some (e, sz, by')) (hsz : Nat.blt 0 sz = true) (hz : tyZero C.P e = some z) (hzl : z.length = sz)
  (hs : ev s a = .row id) (ho : lookO m id = some (.row e sz cs)) (hx : (ev s x = .sl sz ds ∧ us = [id]) ∨ ∃ i e', ev s x = .row i ∧ lookO m i = some (.row e' sz ds) ∧ us = [id, i]) (hb : (cs.length + ds.length) / sz * by' ≤ 140737488355328) (hl : cs.length + ds.length ≤ 140737488355328)
  (hc : cs ++ ds = cs') (hf : St.freshB ⟨s, m⟩ id' = true) (hm : delO m id = m') (k : aops C ops ⟨(d, .row id') :: s, (id', .row e sz cs') :: m'⟩ os fun es σ' => K ({ val := .row id', upd := [(id', some (.row e sz cs')), (id, none)], use := us, fresh := [id'] } :: es) σ') :
  aops C ops ⟨s, m⟩ (⟨some d, .call { callee := .builtin .append, args := #[a, x], argTypes := #[ty, ty] }, t, p, af, g⟩ :: os) K := by
 subst hc
 have hne : id' ≠ id := fun e => by subst e; rw [lookO_none_of_fr hf] at ho; cases ho
 exact o_mem hg (.append ty a x e sz by' z id id' cs ds us rfl ht (by rw [Nat.blt_eq] at hsz; exact hsz) hz hzl (by rw [ev_st]; exact hs) ho (by rw [ev_st]; exact hx) hb hl) (by simp [hf]) (sem_append m' hm hne) k
theorem o_extract {x : Operand} {i : Nat} {fs : List AV} (c : AV) (hg : Gd ops s g) (hx : ev s x = .tup fs) (hi : fs[i]? = some c) (k : aops C ops ⟨(d, c) :: s, m⟩ os fun es σ' => K ({ val := c } :: es) σ') : aops C ops ⟨s, m⟩ (⟨some d, .extract x i, t, p, af, g⟩ :: os) K :=
 o_val hg (.extract x i fs c rfl (by rw [ev_st]; exact hx) hi) k
theorem o_strOf {ty ty' : TypeId} {x : Operand} {id e : Nat} {cs : List AV} (bs : List Int) (hg : Gd ops s g) (ht : C.P.underlying ty = some (.slice e)) (he : C.P.underlying e = some (.int .u8)) (ht' : C.P.underlying ty' = some .string) (hx : ev s x = .row id) (ho : lookO m id = some (.row e 1 cs)) (hc : cs = bs.map fun b => .lit (.int .u8 b))
  (k : aops C ops ⟨(d, .lit (.string (strOfNums bs))) :: s, m⟩ os fun es σ' => K ({ val := .lit (.string (strOfNums bs)), use := [id] } :: es) σ') : aops C ops ⟨s, m⟩ (⟨some d, .convert ty ty' x, t, p, af, g⟩ :: os) K :=
 o_val hg (.strOf ty ty' x id e 1 bs cs rfl ht he ht' (by rw [ev_st]; exact hx) ho rfl hc) k
theorem o_makeFunc {f : FuncId} {caps : Array Operand} (asx : List AV) (hg : Gd ops s g) (ha : evs s caps.toList = asx) (k : aops C ops ⟨(d, .clo f asx) :: s, m⟩ os fun es σ' => K ({ val := .clo f asx } :: es) σ') : aops C ops ⟨s, m⟩ (⟨some d, .makeFunc (.func f) #[] caps, t, p, af, g⟩ :: os) K := by
 have := Step.makeFunc (C := C) (S := St.sem ⟨s, m⟩) (o := ⟨some d, .makeFunc (.func f) #[] caps, t, p, af, g⟩) f caps rfl
 rw [evs_st, ha] at this
 exact o_val hg this k
theorem o_iterNew {ty : TypeId} {x : Operand} {a : ByteArray} (id : Nat) (hg : Gd ops s g) (ht : C.P.underlying ty = some .string) (hx : ev s x = .lit (.string a)) (hf : St.freshB ⟨s, m⟩ id = true)
  (k : aops C ops ⟨(d, .ref id 0) :: s, (id, .blk (.stringIter a 0)) :: m⟩ os fun es σ' => K ({ val := .ref id 0, upd := [(id, some (.blk (.stringIter a 0)))], fresh := [id] } :: es) σ') : aops C ops ⟨s, m⟩ (⟨some d, .range ty x, t, p, af, g⟩ :: os) K :=
 o_mem hg (.iterNew ty x id a rfl ht (by rw [ev_st]; exact hx)) (by simp [hf]) (sem_new hf) k
theorem o_iterNext {x : Operand} {id : Nat} {a : ByteArray} {pos : Nat} (v : Int) (c : Nat) (m' : List (Nat × AO)) (hg : Gd ops s g) (hx : ev s x = .ref id 0) (ho : lookO m id = some (.blk (.stringIter a pos))) (hp : pos < a.size) (hv : (Utf8.decode a pos).1 = v) (hc : pos + (Utf8.decode a pos).2 = c) (hm : setO m id (.blk (.stringIter a c)) = m')
  (k : aops C ops ⟨(d, .tup [.lit (.bool true), .lit (goInt pos), .lit (.int .i32 v)]) :: s, m'⟩ os fun es σ' => K ({ val := .tup [.lit (.bool true), .lit (goInt pos), .lit (.int .i32 v)], upd := [(id, some (.blk (.stringIter a c)))], use := [id] } :: es) σ') : aops C ops ⟨s, m⟩ (⟨some d, .next x true, t, p, af, g⟩ :: os) K := by
 subst hm
 subst hv
 subst hc
 exact o_mem hg (.iterNext x id a pos rfl (by rw [ev_st]; exact hx) ho hp) rfl (sem_set ho rfl) k
theorem o_iterEnd {x : Operand} {id : Nat} {a : ByteArray} {pos : Nat} (hg : Gd ops s g) (hx : ev s x = .ref id 0) (ho : lookO m id = some (.blk (.stringIter a pos))) (hp : ¬ pos < a.size)
  (k : aops C ops ⟨(d, .tup [.lit (.bool false)]) :: s, m⟩ os fun es σ' => K ({ val := .tup [.lit (.bool false)], use := [id] } :: es) σ') : aops C ops ⟨s, m⟩ (⟨some d, .next x true, t, p, af, g⟩ :: os) K :=
 o_val hg (.iterEnd x id a pos rfl (by rw [ev_st]; exact hx) ho hp) k
theorem o_nilRef {x : Operand} {id off : Nat} (hg : Gd ops s g) (hx : ev s x = .ref id off) (k : aops C ops ⟨(d, .ref id off) :: s, m⟩ os fun es σ' => K ({ val := .ref id off } :: es) σ') : aops C ops ⟨s, m⟩ (⟨some d, .nilCheck x, t, p, af, g⟩ :: os) K := o_val hg (.nilRef x id off rfl (by rw [ev_st]; exact hx)) k
theorem o_indexS {ty : TypeId} {x y : Operand} {kk : IntKind} {a : ByteArray} {i : Int} (r : Int) (hg : Gd ops s g) (ht : C.P.underlying ty = some .string) (hx : ev s x = .lit (.string a)) (hy : ev s y = .lit (.int kk i)) (h0 : 0 ≤ i) (h1 : i.toNat < a.size) (hr : ((a.data.toList.getD i.toNat 0).toNat : Int) = r)
  (k : aops C ops ⟨(d, .lit (.int .u8 r)) :: s, m⟩ os fun es σ' => K ({ val := .lit (.int .u8 r) } :: es) σ') : aops C ops ⟨s, m⟩ (⟨some d, .index ty x y, t, p, af, g⟩ :: os) K := by
 subst hr
 exact o_pure2 rfl hg hx hy (fun ρ e1 e2 w => by
  have e3 : a[i.toNat]? = some (a.data.toList.getD i.toNat 0) := by
   rw [getElem?_pos a i.toNat h1]
   have h1' : i.toNat < a.data.toList.length := by simpa using h1
   rw [List.getD_eq_getElem?_getD, List.getElem?_eq_getElem h1']
   rfl
  simp [execOp, e1, e2, Instr.index, asIntOf, run_underlying ht, h0, e3]) k
end

/-! ### Lists that are written by a function of their elements -/
theorem dropMap0 {α : Type} {f : α → AV} {xs : List α} {n : Nat} (dflt : α) (h : n < xs.length) : ((xs.map f).drop n)[0]? = some (f (xs.getD n dflt)) := by
 rw [List.getElem?_drop, Nat.add_zero, List.getElem?_map, List.getElem?_eq_getElem h]
 simp [List.getD, List.getElem?_eq_getElem h]
theorem getMap {α : Type} {f : α → AV} {xs : List α} {n : Nat} (dflt : α) (h : n < xs.length) : (xs.map f)[n]? = some (f (xs.getD n dflt)) := by
 rw [List.getElem?_map, List.getElem?_eq_getElem h]
 simp [List.getD, List.getElem?_eq_getElem h]
theorem overMap {α : Type} {f : α → AV} {xs : List α} {n : Nat} {v : α} (h : n < xs.length) : over (xs.map f) n [f v] = (xs.set n v).map f := by
 unfold over
 apply List.ext_getElem?
 intro j
 simp only [List.append_assoc, List.getElem?_append, List.length_take, List.length_map, List.length_cons, List.length_nil, List.getElem?_map, List.getElem?_set]
 rw [show min n xs.length = n by omega]
 by_cases h1 : j < n
 ·rw [if_pos h1, if_neg (by omega), List.getElem?_take, if_pos h1, List.getElem?_map]
 ·by_cases h2 : j = n
  ·subst h2; simp [h]
  ·rw [if_neg h1, if_neg (by omega), if_neg (by omega), List.getElem?_drop, List.getElem?_map]
   congr 2
   omega
theorem int_eq {k : IntKind} {a b : Int} (h : b = a) : AV.lit (.int k b) = AV.lit (.int k a) := by rw [h]
theorem post_ret {C : Ctx} {fn : Func} {res : AV} {σ : St} (h : ∃ vs, ResOk C σ fn.results.toList vs ∧ closedL vs = true ∧ res = packR vs) : postF C fn res .ret σ := h
theorem awp_loopR {C : Ctx} {n : Nat} {Q : Exit → St → Prop} {σ : St} {c : Code} (I : Nat → St → Prop) (h0 : ∃ k σ', I k σ' ∧ Wk C n σ σ') (round : ∀ k σ', I k σ' → awp C n c (thenK (fun σ2 => ∃ k' σ3, k' < k ∧ I k' σ3 ∧ Wk C n σ2 σ3) Q) σ') : awp C n (.loop c) Q σ := by
 obtain ⟨k0, σ0, hi, hw⟩ := h0
 refine awp_loop (γ := { x : Nat × St // I x.1 x.2 }) (fun g => g.1.2) (fun g => g.1.1) ⟨(k0, σ0), hi⟩ hw fun g => ?_
 refine awp_mono (round g.1.1 g.1.2 g.2) fun e σ2 hq => ?_
 cases e with
 | normal =>
  obtain ⟨k', σ3, hlt, hi', hw'⟩ := hq
  exact ⟨⟨(k', σ3), hi'⟩, hlt, hw'⟩
 | _ => exact hq
theorem awp_condB {C : Ctx} {n : Nat} {Q : Exit → St → Prop} {s : List (Nat × AV)} {m : List (Nat × AO)} {c : Operand} {x y : Code} {b : Bool} (hc : ev s c = .lit (.bool b)) (ht : b = true → awp C n x Q ⟨s, m⟩) (hf : b = false → awp C n y Q ⟨s, m⟩) : awp C n (.cond c x y) Q ⟨s, m⟩ :=
 awp_cond (b := b) (by cases c <;> exact hc) ht hf
theorem awp_condQ {C : Ctx} {n : Nat} {Q : Exit → St → Prop} {s : List (Nat × AV)} {m : List (Nat × AO)} {c : Operand} {x y : Code} {q : Prop} [Decidable q] (hc : ev s c = .lit (.bool (decide q))) (ht : q → awp C n x Q ⟨s, m⟩) (hf : ¬ q → awp C n y Q ⟨s, m⟩) : awp C n (.cond c x y) Q ⟨s, m⟩ :=
 awp_condB hc (fun h => ht (of_decide_eq_true h)) (fun h => hf (of_decide_eq_false h))
end Go.Ab

namespace Go.Ab
open Go.RowKit

def nm (k : IntKind) (x : Nat) : AV := .lit (.int k (x : Int))
def ns (k : IntKind) (xs : List Nat) : List AV := xs.map (nm k)
theorem ns_len {k : IntKind} {xs : List Nat} : (ns k xs).length = xs.length := by simp [ns]
def topOf : IntKind → Nat
 | .i8 => 127 | .i16 => 32767 | .i32 => 2147483647 | .i64 => 9223372036854775807
 | .u8 => 255 | .u16 => 65535 | .u32 => 4294967295 | .u64 => 18446744073709551615
theorem wrapN {k : IntKind} {x : Nat} (h : x ≤ topOf k) : k.wrap (x : Int) = (x : Int) := by
 cases k <;> simp only [topOf] at h <;> simp [IntKind.wrap, IntKind.bits, IntKind.signed] <;> omega
theorem wrap64 {x : Int} (h : -9223372036854775808 ≤ x) (h' : x ≤ 9223372036854775807) : IntKind.i64.wrap x = x := by
 simp [IntKind.wrap, IntKind.bits, IntKind.signed]; omega

theorem run_max {P : Program} {tys : Array TypeId} {t : TypeId} (a c : Int) (w : World) : (Builtin.max_ tys t #[.int .i64 a, .int .i64 c]).run P w = .ok (.int .i64 (max a c)) w := by
 have e : (if c > a then c else a) = max a c := by split <;> omega
 simp [Builtin.max_, Builtin.max2, e]
def im (k : IntKind) (x : Int) : AV := .lit (.int k x)
def is (k : IntKind) (xs : List Int) : List AV := xs.map (im k)
theorem nm_int {k : IntKind} {x : Int} {n : Nat} (h : x = (n : Int)) : AV.lit (.int k x) = nm k n := by rw [h]; rfl
theorem int_nm {k : IntKind} {x : Int} {n : Nat} (h : (n : Int) = x) : nm k n = AV.lit (.int k x) := by rw [← h]; rfl
def byts (a : ByteArray) : List Nat := a.data.toList.map UInt8.toNat
def strN (l : List Nat) : ByteArray := strOfNums (l.map fun (x : Nat) => (x : Int))
theorem byts_len (a : ByteArray) : (byts a).length = a.size := by simp [byts]
section
variable {C : Ctx} {ops : Array Oper} {s : List (Nat × AV)} {m : List (Nat × AO)} {os : List Oper} {K : List Eff → St → Prop} {d : Nat} {t : TypeId} {p : String} {af : Array Edge} {g : Option (Nat × Bool)}

theorem n_val {op : Op} {v : AV} (v' : AV) (e : v' = v) (h : (aops C ops ⟨(d, v) :: s, m⟩ os fun es σ' => K ({ val := v } :: es) σ') → aops C ops ⟨s, m⟩ (⟨some d, op, t, p, af, g⟩ :: os) K)
  (kk : aops C ops ⟨(d, v') :: s, m⟩ os fun es σ' => K ({ val := v' } :: es) σ') : aops C ops ⟨s, m⟩ (⟨some d, op, t, p, af, g⟩ :: os) K := by subst e; exact h kk

theorem n_add {xt yt : TypeId} {x y : Operand} {k : IntKind} (a c : Nat) (hg : Gd ops s g) (hx : ev s x = nm k a) (hy : ev s y = nm k c) (hr : a + c ≤ topOf k)
  (kk : aops C ops ⟨(d, nm k (a + c)) :: s, m⟩ os fun es σ' => K ({ val := nm k (a + c) } :: es) σ') : aops C ops ⟨s, m⟩ (⟨some d, .binOp .add xt x y yt, t, p, af, g⟩ :: os) K :=
 n_val (nm k (a + c)) (by simp [nm]) (o_add hg hx hy (by rw [← Int.natCast_add]; exact wrapN hr)) kk
theorem n_sub {xt yt : TypeId} {x y : Operand} {k : IntKind} (a c : Nat) (hg : Gd ops s g) (hx : ev s x = nm k a) (hy : ev s y = nm k c) (hc : c ≤ a) (hr : a ≤ topOf k)
  (kk : aops C ops ⟨(d, nm k (a - c)) :: s, m⟩ os fun es σ' => K ({ val := nm k (a - c) } :: es) σ') : aops C ops ⟨s, m⟩ (⟨some d, .binOp .sub xt x y yt, t, p, af, g⟩ :: os) K :=
 n_val (nm k (a - c)) (by simp [nm, Int.natCast_sub hc]) (o_sub hg hx hy (by rw [← Int.natCast_sub hc]; exact wrapN (by omega))) kk
theorem n_mul {xt yt : TypeId} {x y : Operand} {k : IntKind} (a c : Nat) (hg : Gd ops s g) (hx : ev s x = nm k a) (hy : ev s y = nm k c) (hr : a * c ≤ topOf k)
  (kk : aops C ops ⟨(d, nm k (a * c)) :: s, m⟩ os fun es σ' => K ({ val := nm k (a * c) } :: es) σ') : aops C ops ⟨s, m⟩ (⟨some d, .binOp .mul xt x y yt, t, p, af, g⟩ :: os) K :=
 n_val (nm k (a * c)) (by simp [nm]) (o_mul hg hx hy (by rw [← Int.natCast_mul]; exact wrapN hr)) kk
theorem n_quo {xt yt : TypeId} {x y : Operand} {k : IntKind} (a c : Nat) (hg : Gd ops s g) (hx : ev s x = nm k a) (hy : ev s y = nm k c) (hc : 0 < c) (hr : a / c ≤ topOf k)
  (kk : aops C ops ⟨(d, nm k (a / c)) :: s, m⟩ os fun es σ' => K ({ val := nm k (a / c) } :: es) σ') : aops C ops ⟨s, m⟩ (⟨some d, .binOp .quo xt x y yt, t, p, af, g⟩ :: os) K :=
 n_val (nm k (a / c)) (by simp [nm]) (o_quo hg hx hy (by omega) (by omega) (by rw [← Int.natCast_ediv]; exact wrapN hr)) kk
theorem n_rem {xt yt : TypeId} {x y : Operand} {k : IntKind} (a c : Nat) (hg : Gd ops s g) (hx : ev s x = nm k a) (hy : ev s y = nm k c) (hc : 0 < c)
  (kk : aops C ops ⟨(d, nm k (a % c)) :: s, m⟩ os fun es σ' => K ({ val := nm k (a % c) } :: es) σ') : aops C ops ⟨s, m⟩ (⟨some d, .binOp .rem xt x y yt, t, p, af, g⟩ :: os) K :=
 n_val (nm k (a % c)) (by simp [nm]) (o_rem hg hx hy (by omega) (by omega)) kk
theorem dec_eq {p q : Prop} [Decidable p] [Decidable q] (h : p ↔ q) : decide p = decide q := by simp [h]
def bp (q : Prop) [Decidable q] : AV := .lit (.bool (decide q))
theorem n_eql {xt yt : TypeId} {x y : Operand} {k : IntKind} (a c : Nat) (hg : Gd ops s g) (hx : ev s x = nm k a) (hy : ev s y = nm k c) (kk : aops C ops ⟨(d, bp (a = c)) :: s, m⟩ os fun es σ' => K ({ val := bp (a = c) } :: es) σ') :
  aops C ops ⟨s, m⟩ (⟨some d, .binOp .eql xt x y yt, t, p, af, g⟩ :: os) K := n_val (bp (a = c)) (by unfold bp; rw [dec_eq (p := a = c) (q := (a : Int) = c) (by omega)]) (o_eql hg hx hy) kk
theorem n_neq {xt yt : TypeId} {x y : Operand} {k : IntKind} (a c : Nat) (hg : Gd ops s g) (hx : ev s x = nm k a) (hy : ev s y = nm k c) (kk : aops C ops ⟨(d, bp (a ≠ c)) :: s, m⟩ os fun es σ' => K ({ val := bp (a ≠ c) } :: es) σ') :
  aops C ops ⟨s, m⟩ (⟨some d, .binOp .neq xt x y yt, t, p, af, g⟩ :: os) K := n_val (bp (a ≠ c)) (by unfold bp; rw [dec_eq (p := a ≠ c) (q := (a : Int) ≠ c) (by omega)]) (o_neq hg hx hy) kk
theorem n_lss {xt yt : TypeId} {x y : Operand} {k : IntKind} (a c : Nat) (hg : Gd ops s g) (hx : ev s x = nm k a) (hy : ev s y = nm k c) (kk : aops C ops ⟨(d, bp (a < c)) :: s, m⟩ os fun es σ' => K ({ val := bp (a < c) } :: es) σ') :
  aops C ops ⟨s, m⟩ (⟨some d, .binOp .lss xt x y yt, t, p, af, g⟩ :: os) K := n_val (bp (a < c)) (by unfold bp; rw [dec_eq (p := a < c) (q := (a : Int) < c) (by omega)]) (o_lss hg hx hy) kk
theorem n_leq {xt yt : TypeId} {x y : Operand} {k : IntKind} (a c : Nat) (hg : Gd ops s g) (hx : ev s x = nm k a) (hy : ev s y = nm k c) (kk : aops C ops ⟨(d, bp (a ≤ c)) :: s, m⟩ os fun es σ' => K ({ val := bp (a ≤ c) } :: es) σ') :
  aops C ops ⟨s, m⟩ (⟨some d, .binOp .leq xt x y yt, t, p, af, g⟩ :: os) K := n_val (bp (a ≤ c)) (by unfold bp; rw [dec_eq (p := a ≤ c) (q := (a : Int) ≤ c) (by omega)]) (o_leq hg hx hy) kk
theorem n_gtr {xt yt : TypeId} {x y : Operand} {k : IntKind} (a c : Nat) (hg : Gd ops s g) (hx : ev s x = nm k a) (hy : ev s y = nm k c) (kk : aops C ops ⟨(d, bp (c < a)) :: s, m⟩ os fun es σ' => K ({ val := bp (c < a) } :: es) σ') :
  aops C ops ⟨s, m⟩ (⟨some d, .binOp .gtr xt x y yt, t, p, af, g⟩ :: os) K := n_val (bp (c < a)) (by unfold bp; rw [dec_eq (p := c < a) (q := (c : Int) < a) (by omega)]) (o_gtr hg hx hy) kk
theorem n_geq {xt yt : TypeId} {x y : Operand} {k : IntKind} (a c : Nat) (hg : Gd ops s g) (hx : ev s x = nm k a) (hy : ev s y = nm k c) (kk : aops C ops ⟨(d, bp (c ≤ a)) :: s, m⟩ os fun es σ' => K ({ val := bp (c ≤ a) } :: es) σ') :
  aops C ops ⟨s, m⟩ (⟨some d, .binOp .geq xt x y yt, t, p, af, g⟩ :: os) K := n_val (bp (c ≤ a)) (by unfold bp; rw [dec_eq (p := c ≤ a) (q := (c : Int) ≤ a) (by omega)]) (o_geq hg hx hy) kk
theorem n_conv {src dst : TypeId} {x : Operand} {k k' : IntKind} (a : Nat) (hg : Gd ops s g) (hx : ev s x = nm k a) (hs : tyInt C.P src = some k) (hd : tyInt C.P dst = some k') (hr : a ≤ topOf k') (kk : aops C ops ⟨(d, nm k' a) :: s, m⟩ os fun es σ' => K ({ val := nm k' a } :: es) σ') :
  aops C ops ⟨s, m⟩ (⟨some d, .convert src dst x, t, p, af, g⟩ :: os) K := o_conv hg hx hs hd (wrapN hr) kk
theorem n_max {ty ty' : TypeId} {x y : Operand} (a c : Nat) (hg : Gd ops s g) (hx : ev s x = nm .i64 a) (hy : ev s y = nm .i64 c) (h : ∀ (a c : Int) w, (Builtin.max_ #[ty, ty'] t #[.int .i64 a, .int .i64 c]).run C.P w = .ok (.int .i64 (max a c)) w)
  (kk : aops C ops ⟨(d, nm .i64 (max a c)) :: s, m⟩ os fun es σ' => K ({ val := nm .i64 (max a c) } :: es) σ') :
  aops C ops ⟨s, m⟩ (⟨some d, .call { callee := .builtin .max, args := #[x, y], argTypes := #[ty, ty'] }, t, p, af, g⟩ :: os) K := n_val (nm .i64 (max a c)) (by unfold nm; rw [show ((max a c : Nat) : Int) = max (a : Int) c by omega]) (o_max hg hx hy (h _ _)) kk
theorem n_len {ty e : TypeId} {x : Operand} {k : IntKind} (xs : List Nat) (hg : Gd ops s g) (ht : C.P.underlying ty = some (.slice e)) (hx : ev s x = .sl 1 (ns k xs)) (kk : aops C ops ⟨(d, nm .i64 xs.length) :: s, m⟩ os fun es σ' => K ({ val := nm .i64 xs.length } :: es) σ') :
  aops C ops ⟨s, m⟩ (⟨some d, .call { callee := .builtin .len, args := #[x], argTypes := #[ty] }, t, p, af, g⟩ :: os) K := o_lenSl xs.length hg ht hx (by simp [ns]) kk
theorem n_lenRow {ty e e' : TypeId} {x : Operand} {id : Nat} {k : IntKind} (xs : List Nat) (hg : Gd ops s g) (ht : C.P.underlying ty = some (.slice e)) (hx : ev s x = .row id) (ho : lookO m id = some (.row e' 1 (ns k xs))) (kk : aops C ops ⟨(d, nm .i64 xs.length) :: s, m⟩ os fun es σ' => K ({ val := nm .i64 xs.length, use := [id] } :: es) σ') :
  aops C ops ⟨s, m⟩ (⟨some d, .call { callee := .builtin .len, args := #[x], argTypes := #[ty] }, t, p, af, g⟩ :: os) K := o_lenRow xs.length hg ht hx ho (by simp [ns]) kk
theorem n_index {ty : TypeId} {x y : Operand} {e by' : Nat} {k kk' : IntKind} (xs : List Nat) (i : Nat) (hg : Gd ops s g) (ht : tyElem C.P ty = some (e, 1, by')) (hx : ev s x = .sl 1 (ns k xs)) (hy : ev s y = nm kk' i) (h1 : i < xs.length)
  (kk : aops C ops ⟨(d, .ip ((ns k xs).drop i)) :: s, m⟩ os fun es σ' => K ({ val := .ip ((ns k xs).drop i) } :: es) σ') : aops C ops ⟨s, m⟩ (⟨some d, .indexAddr ty x y, t, p, af, g⟩ :: os) K :=
 o_index1 (i := (i : Int)) hg ht hx hy (by omega) (by simpa [ns] using h1) kk
theorem n_indexRow {ty : TypeId} {x y : Operand} {e e' id by' : Nat} {k kk' : IntKind} (xs : List Nat) (i : Nat) (hg : Gd ops s g) (ht : tyElem C.P ty = some (e, 1, by')) (hx : ev s x = .row id) (ho : lookO m id = some (.row e' 1 (ns k xs))) (hy : ev s y = nm kk' i) (h1 : i < xs.length)
  (kk : aops C ops ⟨(d, .ref id i) :: s, m⟩ os fun es σ' => K ({ val := .ref id i, use := [id] } :: es) σ') : aops C ops ⟨s, m⟩ (⟨some d, .indexAddr ty x y, t, p, af, g⟩ :: os) K :=
 o_indexRow1 (i := (i : Int)) hg ht hx ho hy (by omega) (by simpa [ns] using h1) kk
theorem n_loadI {ty : TypeId} {x : Operand} {k : IntKind} (xs : List Nat) (i : Nat) (hg : Gd ops s g) (ht : tySc C.P ty = true) (hx : ev s x = .ip ((ns k xs).drop i)) (h1 : i < xs.length)
  (kk : aops C ops ⟨(d, nm k (xs.getD i 0)) :: s, m⟩ os fun es σ' => K ({ val := nm k (xs.getD i 0) } :: es) σ') : aops C ops ⟨s, m⟩ (⟨some d, .load ty x, t, p, af, g⟩ :: os) K :=
 o_loadIS _ hg ht hx (dropMap0 0 h1) kk
theorem n_loadRow {ty : TypeId} {x : Operand} {id e' : Nat} {k : IntKind} (xs : List Nat) (i : Nat) (hg : Gd ops s g) (ht : tySc C.P ty = true) (hx : ev s x = .ref id i) (ho : lookO m id = some (.row e' 1 (ns k xs))) (h1 : i < xs.length)
  (kk : aops C ops ⟨(d, nm k (xs.getD i 0)) :: s, m⟩ os fun es σ' => K ({ val := nm k (xs.getD i 0), use := [id] } :: es) σ') : aops C ops ⟨s, m⟩ (⟨some d, .load ty x, t, p, af, g⟩ :: os) K :=
 o_loadS _ hg ht hx ho (getMap 0 h1) kk
theorem n_storeRow {ty : TypeId} {x y : Operand} {id e' : Nat} {k : IntKind} (xs : List Nat) (i v : Nat) (m' : List (Nat × AO)) (hg : Gd ops s g) (ht : tySize C.P ty = some 1) (hx : ev s x = .ref id i) (ho : lookO m id = some (.row e' 1 (ns k xs))) (hy : ev s y = nm k v) (h1 : i < xs.length)
  (hm : setO m id (.row e' 1 (ns k (xs.set i v))) = m') (kk : aops C ops ⟨s, m'⟩ os fun es σ' => K ({ val := .any, upd := [(id, some (.row e' 1 (ns k (xs.set i v))))], use := [id] } :: es) σ') : aops C ops ⟨s, m⟩ (⟨none, .store ty x y, t, p, af, g⟩ :: os) K :=
 o_storeRow (new := [nm k v]) (ns k (xs.set i v)) m' hg ht hx ho (by rw [hy]; rfl) rfl rfl (by simp [ns]; omega) (overMap (f := nm k) h1) hm kk
theorem n_append {ty : TypeId} {a x : Operand} {e by' : Nat} {z : List Value} {id i e' : Nat} {k : IntKind} (id' : Nat) (xs ys : List Nat) (m' : List (Nat × AO)) (hg : Gd ops s g) (ht : tyElem C.P ty = some (e, 1, by')) (hz : tyZero C.P e = some z) (hzl : z.length = 1)
  (hs : ev s a = .row id) (ho : lookO m id = some (.row e 1 (ns k xs))) (hx : ev s x = .row i) (hi : lookO m i = some (.row e' 1 (ns k ys))) (hb : (xs.length + ys.length) * by' ≤ 140737488355328) (hby : 0 < by')
  (hf : St.freshB ⟨s, m⟩ id' = true) (hm : delO m id = m') (kk : aops C ops ⟨(d, .row id') :: s, (id', .row e 1 (ns k (xs ++ ys))) :: m'⟩ os fun es σ' => K ({ val := .row id', upd := [(id', some (.row e 1 (ns k (xs ++ ys)))), (id, none)], use := [id, i], fresh := [id'] } :: es) σ') :
  aops C ops ⟨s, m⟩ (⟨some d, .call { callee := .builtin .append, args := #[a, x], argTypes := #[ty, ty] }, t, p, af, g⟩ :: os) K :=
 o_append id' (ns k ys) (ns k (xs ++ ys)) [id, i] m' hg ht rfl hz hzl hs ho (.inr ⟨i, e', hx, hi, rfl⟩) (by simp only [ns_len, Nat.div_one]; exact hb) (by simp only [ns_len]; have := Nat.le_mul_of_pos_right (xs.length + ys.length) hby; omega) (by simp [ns]) hf hm kk
theorem n_make {ty : TypeId} {x y : Operand} {e by' : Nat} {k kk kk' : IntKind} (id c : Nat) (hg : Gd ops s g) (ht : tyElem C.P ty = some (e, 1, by')) (hz : tyZero C.P e = some [.int k 0]) (hx : ev s x = nm kk c) (hy : ev s y = nm kk' c) (hb : by' * c ≤ 140737488355328) (hby : Nat.blt 0 by' = true) (hf : St.freshB ⟨s, m⟩ id = true)
  (kk : aops C ops ⟨(d, .row id) :: s, (id, .row e 1 (ns k (List.replicate c 0))) :: m⟩ os fun es σ' => K ({ val := .row id, upd := [(id, some (.row e 1 (ns k (List.replicate c 0))))], fresh := [id] } :: es) σ') : aops C ops ⟨s, m⟩ (⟨some d, .makeSlice ty x y, t, p, af, g⟩ :: os) K := by
 have e1 : ns k (List.replicate c 0) = List.replicate c (.lit (.int k 0)) := by simp [ns, nm]
 rw [e1] at kk
 exact o_makeN (c := (c : Int)) id hg ht hz rfl hx hy (by omega) (by simpa using hb) hby hf (by simpa using kk)
theorem n_slice {ty : TypeId} {x : Operand} {lo hi mx : Option Operand} {e by' : Nat} {k : IntKind} (xs : List Nat) (l h : Nat) (hg : Gd ops s g) (ht : tyElem C.P ty = some (e, 1, by')) (hx : ev s x = .sl 1 (ns k xs))
  (hlo : (St.sem ⟨s, m⟩).loOk lo l) (hhi : (St.sem ⟨s, m⟩).hiOk hi xs.length h) (hmx : (St.sem ⟨s, m⟩).mxOk mx hi.isSome h) (h1 : l ≤ h) (h2 : h ≤ xs.length)
  (kk : aops C ops ⟨(d, .sl 1 (ns k ((xs.drop l).take (h - l)))) :: s, m⟩ os fun es σ' => K ({ val := .sl 1 (ns k ((xs.drop l).take (h - l))) } :: es) σ') : aops C ops ⟨s, m⟩ (⟨some d, .slice ty x lo hi mx, t, p, af, g⟩ :: os) K :=
 o_slice l h _ hg ht hx (by simp [ns]) hlo hhi hmx h1 h2 (by simp [ns, List.map_take, List.map_drop]) kk
end
theorem n_bnd {k : IntKind} {xs : List Nat} {c : Nat} (h : (ns k xs).length ≤ c) : xs.length ≤ c := by rwa [ns_len] at h

theorem LeL.refl : ∀ (xs : List AV), LeL xs xs
 | [] => .nil
 | x :: xs => .cons (AV.le_refl x) (LeL.refl xs)
theorem ECalls.le {C : Ctx} {f : FuncId} {asx as' : List AV} {res : AV} (h : ECalls C f as' res) (hl : LeL asx as') : ECalls C f asx res := fun H L vals w hG hH hr => h H L vals w hG hH (hl.rep hr)
theorem AV.le_nil' {sz : Nat} {xs : List AV} (h : 0 < sz) (e : xs = []) : AV.le (.lit (.slice none 0 0)) (.sl sz xs) := by subst e; exact AV.le_nil h
theorem AV.le_eq {x y : AV} (h : x = y) : x.le y := by subst h; exact AV.le_refl _
def rowsOk (m : List (Nat × AO)) : List (Nat × Nat × List AV) → Prop
 | [] => True
 | (id, sz, cs) :: r => (∃ e, lookO m id = some (.row e sz cs)) ∧ rowsOk m r
theorem rowsOk_spec {s : List (Nat × AV)} {m : List (Nat × AO)} : ∀ {us : List (Nat × Nat × List AV)}, rowsOk m us → ∀ p ∈ us, ∃ e, (St.sem ⟨s, m⟩).μ p.1 = some (.row e p.2.1 p.2.2)
 | [], _, p, hp => by cases hp
 | (id, sz, cs) :: us, h, p, hp => by
  rcases List.mem_cons.1 hp with e | e
  ·subst e; exact h.1
  ·exact rowsOk_spec h.2 p e
def nodB : List Nat → Bool
 | [] => true
 | x :: xs => (xs.all fun y => !Nat.beq x y) && nodB xs
theorem nodB_spec : ∀ {l : List Nat}, nodB l = true → l.Nodup
 | [], _ => List.nodup_nil
 | x :: xs, h => by
  simp only [nodB, Bool.and_eq_true] at h
  refine List.nodup_cons.2 ⟨fun hm => ?_, nodB_spec h.2⟩
  have := List.all_eq_true.1 h.1 x hm
  simp at this
def delAll (m : List (Nat × AO)) : List (Nat × Nat × List AV) → List (Nat × AO)
 | [] => m
 | p :: r => delO (delAll m r) p.1
theorem lookO_delAll (m : List (Nat × AO)) (j : Nat) : ∀ us, lookO (delAll m us) j = if j ∈ us.map (·.1) then none else lookO m j
 | [] => by simp [delAll]
 | p :: us => by
  simp only [delAll, lookO_del, lookO_delAll m j us, List.map_cons, List.mem_cons]
  by_cases h1 : j = p.1 <;> by_cases h2 : j ∈ us.map (·.1) <;> simp only [h1, h2, if_true, if_false, true_or, or_true, or_false]
section
variable {C : Ctx} {ops : Array Oper} {s : List (Nat × AV)} {m : List (Nat × AO)} {os : List Oper} {K : List Eff → St → Prop} {d : Nat} {t : TypeId} {p : String} {af : Array Edge} {g : Option (Nat × Bool)}
theorem o_callG {y : Operand} {f : FuncId} {args : Array Operand} {tys : Array TypeId} {caps : List AV} (us : List (Nat × Nat × List AV)) (asx as' : List AV) (res : AV) (m' : List (Nat × AO)) (hg : Gd ops s g) (hb : callable C.P f = true) (hy : ev s y = .clo f caps) (hu : rowsOk m us) (hnd : nodB (us.map (·.1)) = true)
  (ha : frzAll us (evs s args.toList ++ caps) = asx) (hl : LeL asx as') (hc : ECalls C f as' res) (hm : delAll m us = m') (k : aops C ops ⟨(d, res) :: s, m'⟩ os fun es σ' => K ({ val := res, use := us.map (·.1), upd := us.map fun p => (p.1, none) } :: es) σ') :
  aops C ops ⟨s, m⟩ (⟨some d, .call { callee := .value y, args := args, argTypes := tys }, t, p, af, g⟩ :: os) K := by
 subst hm
 refine o_mem hg (.callG y f args tys caps us asx res rfl (by rw [ev_st]; exact hy) (callable_spec hb).1 (callable_spec hb).2 (rowsOk_spec hu) (nodB_spec hnd) (by rw [evs_st]; exact ha) (hc.le hl)) rfl ?_ k
 unfold St.app St.sem
 congr 1
 funext j
 rw [lookO_delAll]
 show lookO (appU _ m) j = _
 rw [lookO_app, lkU_drop]
 by_cases hj : j ∈ us.map (·.1) <;> simp only [hj, if_true, if_false]
theorem n_as {v v' : AV} (e : v = v') (k : aops C ops ⟨(d, v') :: s, m⟩ os K) : aops C ops ⟨(d, v) :: s, m⟩ os K := by subst e; exact k
theorem hi_nm {k : IntKind} {y : Operand} {n l : Nat} (h : ev s y = nm k l) : (St.sem ⟨s, m⟩).hiOk (some y) n l := ⟨k, (l : Int), by rw [ev_st]; exact h, by omega, by omega⟩
def byt (a : ByteArray) (i : Nat) : Nat := (a.data.toList.getD i 0).toNat
theorem byt_lt (a : ByteArray) (i : Nat) : byt a i < 256 := (a.data.toList.getD i 0).toNat_lt
theorem n_indexS {ty : TypeId} {x y : Operand} {kk : IntKind} (a : ByteArray) (i : Nat) (hg : Gd ops s g) (ht : C.P.underlying ty = some .string) (hx : ev s x = .lit (.string a)) (hy : ev s y = nm kk i) (h1 : i < a.size)
  (k : aops C ops ⟨(d, nm .u8 (byt a i)) :: s, m⟩ os fun es σ' => K ({ val := nm .u8 (byt a i) } :: es) σ') : aops C ops ⟨s, m⟩ (⟨some d, .index ty x y, t, p, af, g⟩ :: os) K :=
 o_indexS (i := (i : Int)) (byt a i : Nat) hg ht hx hy (by omega) (by simpa using h1) rfl k
theorem n_lenS {ty : TypeId} {x : Operand} (a : ByteArray) (hg : Gd ops s g) (hx : ev s x = .lit (.string a)) (hs : C.P.underlying ty = some .string) (kk : aops C ops ⟨(d, nm .i64 a.size) :: s, m⟩ os fun es σ' => K ({ val := nm .i64 a.size } :: es) σ') :
  aops C ops ⟨s, m⟩ (⟨some d, .call { callee := .builtin .len, args := #[x], argTypes := #[ty] }, t, p, af, g⟩ :: os) K := o_lenS hg hx hs kk
theorem n_sliceSL {ty : TypeId} {x y : Operand} {k : IntKind} (a : ByteArray) (l h : Nat) (hg : Gd ops s g) (ht : C.P.underlying ty = some .string) (hx : ev s x = .lit (.string a)) (hy : ev s y = nm k l) (h1 : l ≤ h) (h2 : h = a.size)
  (kk : aops C ops ⟨(d, .lit (.string (a.extract l h))) :: s, m⟩ os fun es σ' => K ({ val := .lit (.string (a.extract l h)) } :: es) σ') : aops C ops ⟨s, m⟩ (⟨some d, .slice ty x (some y) none none, t, p, af, g⟩ :: os) K :=
 o_val hg (.pure _ fun ρ hρ w => by
  have e1 := hρ x (by simp [Op.operands]) _ (by rw [ev_st]; exact AV.isLit_of hx)
  have e2 := hρ y (by simp [Op.operands]) _ (by rw [ev_st]; exact AV.isLit_of hy)
  have i2 : (0 : Int) ≤ (l : Int) ∧ (l : Int) ≤ (a.size : Int) := by omega
  subst h2
  simp [execOp, e1, e2, Instr.sliceAt, Instr.slice, run_underlying ht, Instr.sliceBounds, Instr.sliceBound, asIntOf, i2, h1]) kk
theorem i_index {ty : TypeId} {x y : Operand} {e by' : Nat} {k kk' : IntKind} (xs : List Int) (i : Nat) (hg : Gd ops s g) (ht : tyElem C.P ty = some (e, 1, by')) (hx : ev s x = .sl 1 (is k xs)) (hy : ev s y = nm kk' i) (h1 : i < xs.length)
  (kk : aops C ops ⟨(d, .ip ((is k xs).drop i)) :: s, m⟩ os fun es σ' => K ({ val := .ip ((is k xs).drop i) } :: es) σ') : aops C ops ⟨s, m⟩ (⟨some d, .indexAddr ty x y, t, p, af, g⟩ :: os) K :=
 o_index1 (i := (i : Int)) hg ht hx hy (by omega) (by simpa [is] using h1) kk
theorem i_loadI {ty : TypeId} {x : Operand} {k : IntKind} (xs : List Int) (i : Nat) (hg : Gd ops s g) (ht : tySc C.P ty = true) (hx : ev s x = .ip ((is k xs).drop i)) (h1 : i < xs.length)
  (kk : aops C ops ⟨(d, .lit (.int k (xs.getD i 0))) :: s, m⟩ os fun es σ' => K ({ val := .lit (.int k (xs.getD i 0)) } :: es) σ') : aops C ops ⟨s, m⟩ (⟨some d, .load ty x, t, p, af, g⟩ :: os) K :=
 o_loadIS (im k (xs.getD i 0)) hg ht hx (dropMap0 0 h1) kk
theorem n_strOf {ty ty' : TypeId} {x : Operand} {id e : Nat} (xs : List Nat) (hg : Gd ops s g) (ht : C.P.underlying ty = some (.slice e)) (he : C.P.underlying e = some (.int .u8)) (ht' : C.P.underlying ty' = some .string) (hx : ev s x = .row id) (ho : lookO m id = some (.row e 1 (ns .u8 xs)))
  (k : aops C ops ⟨(d, .lit (.string (strN xs))) :: s, m⟩ os fun es σ' => K ({ val := .lit (.string (strN xs)), use := [id] } :: es) σ') : aops C ops ⟨s, m⟩ (⟨some d, .convert ty ty' x, t, p, af, g⟩ :: os) K :=
 o_strOf (xs.map fun (x : Nat) => (x : Int)) hg ht he ht' hx ho (by simp [ns, nm]) k
theorem aops_em {σ : St} (q : Prop) [Decidable q] (h1 : q → aops C ops σ os K) (h2 : ¬ q → aops C ops σ os K) : aops C ops σ os K := if h : q then h1 h else h2 h
theorem o_mv {x : Operand} (v : AV) (hx : ev s x = v) (k : aops C ops ⟨(d, v) :: s, m⟩ os fun es σ' => K ({ val := v } :: es) σ') : aops C ops ⟨s, m⟩ (⟨some d, .move x, t, p, af, none⟩ :: os) K := o_move v Gd.none hx k
theorem o_as {x : Operand} (v : AV) (hx : ev s x = v) (k : aops C ops ⟨(d, v) :: s, m⟩ os fun es σ' => K ({ val := v } :: es) σ') : aops C ops ⟨s, m⟩ (⟨some d, .assign x, t, p, af, none⟩ :: os) K := o_assign v Gd.none hx k
theorem o_ct {f : FuncId} {args : Array Operand} {tys : Array TypeId} {asx : List AV} {res : AV} (hc : ECalls C f asx res) (hg : Gd ops s g) (hb : callable C.P f = true) (ha : evs s args.toList = asx) (k : aops C ops ⟨(d, res) :: s, m⟩ os fun es σ' => K ({ val := res } :: es) σ') :
  aops C ops ⟨s, m⟩ (⟨some d, .call { callee := .value (.func f), args := args, argTypes := tys }, t, p, af, g⟩ :: os) K := o_call asx res hg hb ha hc k
end
end Go.Ab

namespace Go.Mth
def val : List Nat → Nat
 | [] => 0
 | x :: xs => x + 1000000000 * val xs
def Dig (xs : List Nat) : Prop := ∀ x ∈ xs, x < 1000000000
def digs (n : Nat) : List Nat := if h : n = 0 then [] else n % 1000000000 :: digs (n / 1000000000)
termination_by n
decreasing_by omega
def dgn : Nat → Nat → List Nat
 | 0, _ => []
 | k + 1, n => n % 1000000000 :: dgn k (n / 1000000000)
def sgn (z : Int) : Int := if z = 0 then 0 else if z < 0 then -1 else 1
def cmpN (a b : Nat) : Int := if a < b then -1 else if b < a then 1 else 0

theorem Dig.nil : Dig [] := fun x h => by cases h
theorem Dig.cons {x : Nat} {xs : List Nat} (h : x < 1000000000) (t : Dig xs) : Dig (x :: xs) := fun y hy => by
 rcases List.mem_cons.1 hy with e | e
 ·omega
 ·exact t y e
theorem Dig.head {x : Nat} {xs : List Nat} (h : Dig (x :: xs)) : x < 1000000000 := h x (by simp)
theorem Dig.tail {x : Nat} {xs : List Nat} (h : Dig (x :: xs)) : Dig xs := fun y hy => h y (by simp [hy])
theorem Dig.getD {xs : List Nat} (h : Dig xs) (i : Nat) : xs.getD i 0 < 1000000000 := by
 by_cases hi : i < xs.length
 ·rw [List.getD_eq_getElem?_getD, List.getElem?_eq_getElem hi]; exact h _ (List.getElem_mem hi)
 ·rw [List.getD_eq_getElem?_getD, List.getElem?_eq_none (by omega)]; decide
theorem Dig.app {xs ys : List Nat} (h : Dig xs) (k : Dig ys) : Dig (xs ++ ys) := fun x hx => by
 rcases List.mem_append.1 hx with e | e
 ·exact h x e
 ·exact k x e
theorem Dig.snoc {xs : List Nat} {x : Nat} (h : Dig xs) (k : x < 1000000000) : Dig (xs ++ [x]) := h.app (Dig.nil.cons k)
theorem Dig.take {xs : List Nat} (h : Dig xs) (n : Nat) : Dig (xs.take n) := fun x hx => h x (List.mem_of_mem_take hx)
theorem Dig.set {xs : List Nat} (h : Dig xs) {i x : Nat} (k : x < 1000000000) : Dig (xs.set i x) := fun y hy => by
 rcases List.mem_or_eq_of_mem_set hy with e | e
 ·exact h y e
 ·omega
theorem dgn_dig : ∀ (k n : Nat), Dig (dgn k n)
 | 0, _ => Dig.nil
 | k + 1, n => (dgn_dig k _).cons (Nat.mod_lt _ (by decide))
theorem val_dgn : ∀ (k n : Nat), val (dgn k n) = n % 1000000000 ^ k
 | 0, n => by simp [dgn, val, Nat.mod_one]
 | k + 1, n => by
  rw [dgn, val, val_dgn k, Nat.pow_succ, Nat.mul_comm (1000000000 ^ k), Nat.mod_mul]
theorem val_lt : ∀ {xs : List Nat}, Dig xs → val xs < 1000000000 ^ xs.length
 | [], _ => by simp [val]
 | x :: xs, h => by
  have := val_lt h.tail
  have h1 := h.head
  simp only [val, List.length_cons, Nat.pow_succ]
  omega
theorem eq_dgn : ∀ {xs : List Nat}, Dig xs → xs = dgn xs.length (val xs)
 | [], _ => rfl
 | x :: xs, h => by
  have h1 := h.head
  simp only [List.length_cons, dgn, val]
  rw [show (x + 1000000000 * val xs) % 1000000000 = x by omega, show (x + 1000000000 * val xs) / 1000000000 = val xs by omega, ← eq_dgn h.tail]
theorem val_app : ∀ (xs ys : List Nat), val (xs ++ ys) = val xs + 1000000000 ^ xs.length * val ys
 | [], ys => by simp [val]
 | x :: xs, ys => by
  simp only [List.cons_append, val, val_app xs ys, List.length_cons, Nat.pow_succ, Nat.mul_add]
  rw [Nat.mul_comm (1000000000 ^ xs.length) 1000000000, Nat.mul_assoc]
  omega
theorem val_snoc (xs : List Nat) (x : Nat) : val (xs ++ [x]) = val xs + 1000000000 ^ xs.length * x := by rw [val_app]; simp [val]
theorem digs_zero : digs 0 = [] := by rw [digs]; simp
theorem digs_pos {n : Nat} (h : 0 < n) : digs n = n % 1000000000 :: digs (n / 1000000000) := by rw [digs]; simp [Nat.ne_of_gt h]
theorem digs_dig (n : Nat) : Dig (digs n) := by
 induction n using Nat.strongRecOn with
 | _ n ih =>
  by_cases h : n = 0
  ·subst h; rw [digs_zero]; exact Dig.nil
  ·rw [digs_pos (by omega)]; exact (ih (n / 1000000000) (by omega)).cons (Nat.mod_lt _ (by decide))
theorem val_digs (n : Nat) : val (digs n) = n := by
 induction n using Nat.strongRecOn with
 | _ n ih =>
  by_cases h : n = 0
  ·subst h; rw [digs_zero]; rfl
  ·rw [digs_pos (by omega), val, ih (n / 1000000000) (by omega)]; omega
theorem digs_len_zero {n : Nat} : (digs n).length = 0 ↔ n = 0 := by
 constructor
 ·intro h
  have := List.eq_nil_of_length_eq_zero h
  have h2 := val_digs n
  rw [this] at h2
  exact h2.symm
 ·intro h; subst h; rw [digs_zero]; rfl
def Trim (xs : List Nat) : Prop := ∀ h : xs ≠ [], xs.getLast h ≠ 0
theorem val_pos_of_trim : ∀ {xs : List Nat}, xs ≠ [] → Trim xs → 0 < val xs
 | [], h, _ => absurd rfl h
 | [x], _, t => by have := t (by simp); simp at this; simp [val]; omega
 | x :: y :: xs, _, t => by
  have := val_pos_of_trim (xs := y :: xs) (by simp) (fun h => by have := t (by simp); simpa using this)
  simp only [val] at this ⊢
  omega
theorem eq_digs : ∀ {xs : List Nat}, Dig xs → Trim xs → xs = digs (val xs)
 | [], _, _ => by simp [val, digs_zero]
 | x :: xs, h, t => by
  have h1 := h.head
  have tt : Trim xs := fun hx => by have := t (by simp); simpa [List.getLast_cons hx] using this
  have hp := val_pos_of_trim (xs := x :: xs) (by simp) t
  rw [digs_pos hp]
  simp only [val]
  rw [show (x + 1000000000 * val xs) % 1000000000 = x by omega, show (x + 1000000000 * val xs) / 1000000000 = val xs by omega, ← eq_digs h.tail tt]
theorem digs_trim (n : Nat) : Trim (digs n) := by
 induction n using Nat.strongRecOn with
 | _ n ih =>
  intro h
  by_cases hn : n = 0
  ·subst hn; rw [digs_zero] at h; exact absurd rfl h
  ·have hd := digs_pos (n := n) (by omega)
   have hlt := ih (n / 1000000000) (by omega)
   by_cases h2 : digs (n / 1000000000) = []
   ·have h3 : n / 1000000000 = 0 := digs_len_zero.1 (by rw [h2]; rfl)
    simp only [hd, h2, List.getLast_singleton]
    omega
   ·simp only [hd, List.getLast_cons h2]
    exact hlt h2
theorem take_getD_zero {xs : List Nat} {n : Nat} (hn : 0 < n) (hl : n ≤ xs.length) (h : xs.getD (n - 1) 0 = 0) : val (xs.take n) = val (xs.take (n - 1)) := by
 have e : xs.take n = xs.take (n - 1) ++ [xs.getD (n - 1) 0] := by
  rw [show n = (n - 1) + 1 by omega, List.take_add_one]
  rw [List.getD_eq_getElem?_getD, Nat.add_sub_cancel, List.getElem?_eq_getElem (by omega)]
  rfl
 rw [e, val_snoc, h]; simp
theorem trim_digs {xs : List Nat} (hd : Dig xs) {n : Nat} (hl : n ≤ xs.length) (hv : val (xs.take n) = val xs) (h : n = 0 ∨ xs.getD (n - 1) 0 ≠ 0) : xs.take n = digs (val xs) := by
 rw [← hv]
 refine eq_digs (hd.take n) fun hne => ?_
 rcases h with h | h
 ·subst h; simp at hne
 ·have hlen : (xs.take n).length = n := by simp; omega
  have hn : 0 < n := by
   cases n with
   | zero => simp at hne
   | succ n => omega
  rw [List.getLast_eq_getElem]
  simp only [List.getElem_take, hlen]
  rw [List.getD_eq_getElem?_getD, List.getElem?_eq_getElem (by omega)] at h
  simpa using h

theorem val_take_succ (xs : List Nat) (j : Nat) : val (xs.take (j + 1)) = val (xs.take j) + 1000000000 ^ j * xs.getD j 0 := by
 by_cases h : j < xs.length
 ·have e : xs.take (j + 1) = xs.take j ++ [xs.getD j 0] := by
   rw [List.take_add_one, List.getD_eq_getElem?_getD, List.getElem?_eq_getElem h]; rfl
  rw [e, val_snoc, List.length_take, Nat.min_eq_left (by omega)]
 ·rw [List.take_of_length_le (by omega), List.take_of_length_le (by omega), List.getD_eq_getElem?_getD, List.getElem?_eq_none (by omega)]; simp
theorem val_split (xs : List Nat) {j : Nat} (h : j ≤ xs.length) : val xs = val (xs.take j) + 1000000000 ^ j * val (xs.drop j) := by
 have := val_app (xs.take j) (xs.drop j)
 rw [List.take_append_drop, List.length_take, Nat.min_eq_left h] at this
 exact this
theorem val_take_all {xs : List Nat} {j : Nat} (h : xs.length ≤ j) : val (xs.take j) = val xs := by rw [List.take_of_length_le h]
theorem val_drop_succ {xs : List Nat} {j : Nat} (h : j < xs.length) : val (xs.drop j) = xs.getD j 0 + 1000000000 * val (xs.drop (j + 1)) := by
 rw [List.drop_eq_getElem_cons h, val, List.getD_eq_getElem?_getD, List.getElem?_eq_getElem h]; rfl
theorem val_drop_all {xs : List Nat} {j : Nat} (h : xs.length ≤ j) : val (xs.drop j) = 0 := by rw [List.drop_of_length_le h]; rfl
theorem cmp_lt {a b : List Nat} (ha : Dig a) {j : Nat} (hja : j < a.length) (hjb : j < b.length) (hd : val (a.drop (j + 1)) = val (b.drop (j + 1))) (h : a.getD j 0 < b.getD j 0) : val a < val b := by
 rw [val_split a (j := j) (by omega), val_split b (j := j) (by omega), val_drop_succ hja, val_drop_succ hjb, hd]
 have h1 := val_lt (ha.take j)
 rw [List.length_take, Nat.min_eq_left (by omega)] at h1
 have h2 : 1000000000 ^ j * (a.getD j 0 + 1 + 1000000000 * val (b.drop (j + 1))) ≤ 1000000000 ^ j * (b.getD j 0 + 1000000000 * val (b.drop (j + 1))) := Nat.mul_le_mul_left _ (by omega)
 have h3 : 1000000000 ^ j * (a.getD j 0 + 1 + 1000000000 * val (b.drop (j + 1))) = 1000000000 ^ j * (a.getD j 0 + 1000000000 * val (b.drop (j + 1))) + 1000000000 ^ j := by
  rw [show a.getD j 0 + 1 + 1000000000 * val (b.drop (j + 1)) = (a.getD j 0 + 1000000000 * val (b.drop (j + 1))) + 1 by omega, Nat.mul_add, Nat.mul_one]
 omega
theorem digs_lo (n : Nat) (h : 0 < n) : 1000000000 ^ ((digs n).length - 1) ≤ n := by
 induction n using Nat.strongRecOn with
 | _ n ih =>
  rw [digs_pos h]
  simp only [List.length_cons, Nat.add_sub_cancel]
  by_cases h2 : n / 1000000000 = 0
  ·rw [h2, digs_zero]; simp; omega
  ·have h3 := ih (n / 1000000000) (by omega) (by omega)
   have hl : 0 < (digs (n / 1000000000)).length := by
    rcases Nat.eq_zero_or_pos (digs (n / 1000000000)).length with e | e
    ·exact absurd (digs_len_zero.1 e) h2
    ·exact e
   have e : 1000000000 ^ (digs (n / 1000000000)).length = 1000000000 ^ ((digs (n / 1000000000)).length - 1) * 1000000000 := by
    rw [← Nat.pow_succ]; congr 1; omega
   rw [e]
   omega
theorem digs_hi (n : Nat) : n < 1000000000 ^ (digs n).length := by
 have := val_lt (digs_dig n)
 rwa [val_digs] at this
theorem digs_len_lt {m n : Nat} (h : (digs m).length < (digs n).length) : m < n := by
 have h1 := digs_hi m
 have hn : 0 < n := by
  rcases Nat.eq_zero_or_pos n with e | e
  ·subst e; rw [digs_zero] at h; simp at h
  ·exact e
 have h2 := digs_lo n hn
 have h3 : 1000000000 ^ (digs m).length ≤ 1000000000 ^ ((digs n).length - 1) := Nat.pow_le_pow_right (by decide) (by omega)
 omega
theorem digs_len_le {m n : Nat} (h : m ≤ n) : (digs m).length ≤ (digs n).length := by
 rcases Nat.lt_or_ge (digs n).length (digs m).length with e | e
 ·have := digs_len_lt e; omega
 ·exact e
theorem digs_len_of_lt {n k : Nat} (h : n < 1000000000 ^ k) : (digs n).length ≤ k := by
 by_cases hn : n = 0
 ·subst hn; rw [digs_zero]; simp
 ·have h1 := digs_lo n (by omega)
  rcases Nat.lt_or_ge k (digs n).length with e | e
  ·have : 1000000000 ^ k ≤ 1000000000 ^ ((digs n).length - 1) := Nat.pow_le_pow_right (by decide) (by omega)
   omega
  ·exact e
theorem cmpN_len {m n : Nat} (h : (digs m).length ≠ (digs n).length) : cmpN m n = if (digs m).length < (digs n).length then -1 else 1 := by
 unfold cmpN
 by_cases h1 : (digs m).length < (digs n).length
 ·rw [if_pos h1, if_pos (digs_len_lt h1)]
 ·have := digs_len_lt (m := n) (n := m) (by omega)
  rw [if_neg h1, if_neg (by omega), if_pos this]
theorem cmpN_lt {m n j : Nat} (h1 : j < (digs m).length) (h2 : (digs m).length = (digs n).length) (hd : val ((digs m).drop (j + 1)) = val ((digs n).drop (j + 1))) (h : (digs m).getD j 0 < (digs n).getD j 0) : cmpN m n = -1 := by
 have := cmp_lt (digs_dig m) h1 (by omega) hd h
 rw [val_digs, val_digs] at this
 unfold cmpN
 rw [if_pos this]
theorem cmpN_gt {m n j : Nat} (h1 : j < (digs m).length) (h2 : (digs m).length = (digs n).length) (hd : val ((digs m).drop (j + 1)) = val ((digs n).drop (j + 1))) (h : (digs n).getD j 0 < (digs m).getD j 0) : cmpN m n = 1 := by
 have := cmp_lt (digs_dig n) (by omega) h1 hd.symm h
 rw [val_digs, val_digs] at this
 unfold cmpN
 rw [if_neg (by omega), if_pos this]
theorem cmpN_eq {m n : Nat} (h : val ((digs m).drop 0) = val ((digs n).drop 0)) : cmpN m n = 0 := by
 simp only [List.drop_zero, val_digs] at h
 subst h
 simp [cmpN]
theorem carry (i s : Nat) : 1000000000 ^ i * (s % 1000000000) + 1000000000 ^ (i + 1) * (s / 1000000000) = 1000000000 ^ i * s := by
 rw [Nat.pow_succ, Nat.mul_assoc, ← Nat.mul_add, Nat.mod_add_div]
theorem add_step {r a b : List Nat} {i c s : Nat} (hl : r.length = i) (hv : val r + 1000000000 ^ i * c = val (a.take i) + val (b.take i)) (hs : s = a.getD i 0 + b.getD i 0 + c) :
  val (r ++ [s % 1000000000]) + 1000000000 ^ (i + 1) * (s / 1000000000) = val (a.take (i + 1)) + val (b.take (i + 1)) := by
 rw [val_snoc, hl, Nat.add_assoc, carry, val_take_succ, val_take_succ, hs, Nat.mul_add, Nat.mul_add]
 omega
def moreN (m n : Nat) : Nat := if m + n < 1000000000 ^ max (digs m).length (digs n).length then max (digs m).length (digs n).length else max (digs m).length (digs n).length + 1
theorem val_more (m n : Nat) : val (dgn (moreN m n) (m + n)) = m + n := by
 rw [val_dgn, Nat.mod_eq_of_lt]
 have h1 := digs_hi m
 have h2 := digs_hi n
 have h3 : 1000000000 ^ (digs m).length ≤ 1000000000 ^ max (digs m).length (digs n).length := Nat.pow_le_pow_right (by decide) (by omega)
 have h4 : 1000000000 ^ (digs n).length ≤ 1000000000 ^ max (digs m).length (digs n).length := Nat.pow_le_pow_right (by decide) (by omega)
 unfold moreN
 split
 ·assumption
 ·rw [Nat.pow_succ]; omega
theorem val_minus (m n : Nat) : val (dgn (digs m).length (m - n)) = m - n := by
 rw [val_dgn, Nat.mod_eq_of_lt]
 have := digs_hi m
 omega
theorem more_fin {r : List Nat} {m n i : Nat} (hl : r.length = i) (hd : Dig r) (h1 : (digs m).length ≤ i) (h2 : (digs n).length ≤ i) (hv : val r + 1000000000 ^ i * 0 = val ((digs m).take i) + val ((digs n).take i)) (hi : i ≤ max (digs m).length (digs n).length ∨ (i = max (digs m).length (digs n).length + 1 ∧ 1000000000 ^ max (digs m).length (digs n).length ≤ m + n)) : r = dgn (moreN m n) (m + n) := by
 rw [val_take_all h1, val_take_all h2, val_digs, val_digs, Nat.mul_zero, Nat.add_zero] at hv
 have e := eq_dgn hd
 rw [hl, hv] at e
 have hlt := val_lt hd
 rw [hl, hv] at hlt
 rw [e]
 congr 1
 unfold moreN
 rcases hi with h | ⟨h, h'⟩
 ·have : i = max (digs m).length (digs n).length := by omega
  rw [← this, if_pos hlt]
 ·rw [if_neg (by omega), h]
theorem sub_step {r a b : List Nat} {i c x c' : Nat} (hl : r.length = i) (hv : val r + val (b.take i) = val (a.take i) + 1000000000 ^ i * c) (hs : x + b.getD i 0 + c = a.getD i 0 + 1000000000 * c') :
  val (r ++ [x]) + val (b.take (i + 1)) = val (a.take (i + 1)) + 1000000000 ^ (i + 1) * c' := by
 have h := congrArg (fun t => 1000000000 ^ i * t) hs
 simp only [Nat.mul_add] at h
 rw [val_snoc, hl, val_take_succ, val_take_succ, Nat.pow_succ, Nat.mul_assoc]
 omega
theorem less_fin {r : List Nat} {m n c : Nat} (hl : r.length = (digs m).length) (hd : Dig r) (hnm : n ≤ m) (hv : val r + val ((digs n).take (digs m).length) = val ((digs m).take (digs m).length) + 1000000000 ^ (digs m).length * c) : r = dgn (digs m).length (m - n) := by
 have hle := digs_len_le hnm
 rw [val_take_all hle, val_take_all (Nat.le_refl _), val_digs, val_digs] at hv
 have e := eq_dgn hd
 have hlt := val_lt hd
 rw [hl] at e hlt
 have hm := digs_hi m
 have hc : c = 0 := by
  rcases Nat.eq_zero_or_pos c with h | h
  ·exact h
  ·have : 1000000000 ^ (digs m).length * 1 ≤ 1000000000 ^ (digs m).length * c := Nat.mul_le_mul_left _ h
   omega
 subst hc
 rw [e]
 congr 1
 omega
theorem getD_ge {xs : List Nat} {i : Nat} (h : xs.length ≤ i) : xs.getD i 0 = 0 := by rw [List.getD_eq_getElem?_getD, List.getElem?_eq_none h]; rfl
def cmpZ (x y : Int) : Int := if x < y then -1 else if y < x then 1 else 0
theorem cmpN_ge {m n : Nat} (h : (0 : Int) ≤ cmpN m n) : n ≤ m := by unfold cmpN at h; split at h <;> omega
theorem cmpN_ng {m n : Nat} (h : ¬ (0 : Int) ≤ cmpN m n) : m ≤ n := by unfold cmpN at h; split at h <;> omega
theorem cmpZ_neg {x y : Int} (hx : x < 0) (h : sgn x = sgn y) : cmpZ x y = cmpN y.natAbs x.natAbs := by
 unfold sgn at h; unfold cmpZ cmpN
 repeat' split at h
 all_goals (repeat' split)
 all_goals omega
theorem cmpZ_pos {x y : Int} (hx : ¬ x < 0) (h : sgn x = sgn y) : cmpZ x y = cmpN x.natAbs y.natAbs := by
 unfold sgn at h; unfold cmpZ cmpN
 repeat' split at h
 all_goals (repeat' split)
 all_goals omega
theorem cmpZ_sgn_lt {x y : Int} (h : sgn x < sgn y) : cmpZ x y = -1 := by
 unfold sgn at h; unfold cmpZ
 repeat' split at h
 all_goals (repeat' split)
 all_goals omega
theorem cmpZ_sgn_gt {x y : Int} (h : sgn x ≠ sgn y) (h2 : ¬ sgn x < sgn y) : cmpZ x y = 1 := by
 unfold sgn at h h2; unfold cmpZ
 repeat' split at h
 all_goals (repeat' split)
 all_goals (repeat' split at h2)
 all_goals omega
theorem more_hi {m n i c : Nat} {r : List Nat} (hc : c ≤ 1) (hv : val r + 1000000000 ^ i * c = val ((digs m).take i) + val ((digs n).take i)) (hi : i ≤ max (digs m).length (digs n).length ∨ (i = max (digs m).length (digs n).length + 1 ∧ c = 0 ∧ 1000000000 ^ (max (digs m).length (digs n).length) ≤ m + n)) (hg : i < (digs m).length ∨ i < (digs n).length ∨ 0 < c) :
  i + 1 ≤ max (digs m).length (digs n).length ∨ (i + 1 = max (digs m).length (digs n).length + 1 ∧ ((digs m).getD i 0 + (digs n).getD i 0 + c) / 1000000000 = 0 ∧ 1000000000 ^ (max (digs m).length (digs n).length) ≤ m + n) := by
 by_cases hk : i + 1 ≤ max (digs m).length (digs n).length
 ·exact Or.inl hk
 ·refine Or.inr ⟨by omega, ?_, ?_⟩
  ·rw [getD_ge (xs := digs m) (by omega), getD_ge (xs := digs n) (by omega)]; omega
  ·have hik : i = max (digs m).length (digs n).length := by omega
   have hc1 : c = 1 := by omega
   rw [val_take_all (xs := digs m) (by omega), val_take_all (xs := digs n) (by omega), val_digs, val_digs, hc1] at hv
   rw [← hik]; omega
theorem val_set : ∀ {xs : List Nat} {i : Nat} (v : Nat), i < xs.length → val (xs.set i v) + 1000000000 ^ i * xs.getD i 0 = val xs + 1000000000 ^ i * v
 | [], i, v, h => by simp at h
 | x :: xs, 0, v, h => by simp [val]; omega
 | x :: xs, i + 1, v, h => by
  have ih := val_set (xs := xs) (i := i) v (by simpa using h)
  have e : (x :: xs).getD (i + 1) 0 = xs.getD i 0 := by simp [List.getD]
  rw [List.set_cons_succ, val, val, e, Nat.pow_succ, Nat.mul_comm (1000000000 ^ i) 1000000000, Nat.mul_assoc, Nat.mul_assoc]
  omega
theorem Dig.mulb {a b : List Nat} (ha : Dig a) (hb : Dig b) (i k : Nat) : a.getD i 0 * b.getD k 0 ≤ 999999998000000001 := by
 have h1 := ha.getD i
 have h2 := hb.getD k
 have := Nat.mul_le_mul (show a.getD i 0 ≤ 999999999 by omega) (show b.getD k 0 ≤ 999999999 by omega)
 omega
theorem mul_step {o b : List Nat} {i k c x ai P : Nat} (hk : i + k < o.length) (hv : val o + 1000000000 ^ (i + k) * c = P + 1000000000 ^ i * (ai * val (b.take k))) (hx : x = o.getD (i + k) 0 + ai * b.getD k 0 + c) :
  val (o.set (i + k) (x % 1000000000)) + 1000000000 ^ (i + (k + 1)) * (x / 1000000000) = P + 1000000000 ^ i * (ai * val (b.take (k + 1))) := by
 have h1 := val_set (x % 1000000000) hk
 have h2 := carry (i + k) x
 have e : 1000000000 ^ (i + k) * x = 1000000000 ^ (i + k) * o.getD (i + k) 0 + 1000000000 ^ (i + k) * (ai * b.getD k 0) + 1000000000 ^ (i + k) * c := by rw [hx, Nat.mul_add, Nat.mul_add]
 rw [val_take_succ, Nat.mul_add, Nat.mul_add]
 have e2 : 1000000000 ^ i * (ai * (1000000000 ^ k * b.getD k 0)) = 1000000000 ^ (i + k) * (ai * b.getD k 0) := by
  rw [Nat.pow_add, Nat.mul_left_comm ai, Nat.mul_assoc]
 rw [e2, show i + (k + 1) = i + k + 1 by omega]
 omega
theorem val_take_le (xs : List Nat) (k : Nat) : val (xs.take k) ≤ val xs := by
 by_cases h : k ≤ xs.length
 ·rw [val_split xs h]; omega
 ·rw [val_take_all (by omega)]; omega
theorem mul_k {o : List Nat} {m n i k c : Nat} (hv : val o + 1000000000 ^ (i + k) * c = val ((digs m).take i) * n + 1000000000 ^ i * ((digs m).getD i 0 * val ((digs n).take k))) (hc : 0 < c) : k ≤ (digs n).length := by
 have h1 : val ((digs m).take (i + 1)) < 1000000000 ^ (i + 1) := by
  have h := val_lt ((digs_dig m).take (i + 1))
  have h2 : 1000000000 ^ ((digs m).take (i + 1)).length ≤ 1000000000 ^ (i + 1) := Nat.pow_le_pow_right (by decide) (by simp; omega)
  omega
 have h2 := digs_hi n
 have h3 : val ((digs n).take k) ≤ n := by have := val_take_le (digs n) k; rwa [val_digs] at this
 have h4 : 1000000000 ^ i * ((digs m).getD i 0 * val ((digs n).take k)) ≤ 1000000000 ^ i * ((digs m).getD i 0 * n) := Nat.mul_le_mul_left _ (Nat.mul_le_mul_left _ h3)
 have h5 : val ((digs m).take i) * n + 1000000000 ^ i * ((digs m).getD i 0 * n) = val ((digs m).take (i + 1)) * n := by rw [val_take_succ, Nat.add_mul, Nat.mul_assoc]
 have h6 : 1000000000 ^ (i + k) * 1 ≤ 1000000000 ^ (i + k) * c := Nat.mul_le_mul_left _ hc
 have h7 : val ((digs m).take (i + 1)) * n < 1000000000 ^ (i + 1) * 1000000000 ^ (digs n).length := Nat.mul_lt_mul'' h1 h2
 rw [← Nat.pow_add] at h7
 rcases Nat.lt_or_ge (digs n).length k with h | h
 ·have : 1000000000 ^ (i + 1 + (digs n).length) ≤ 1000000000 ^ (i + k) := Nat.pow_le_pow_right (by decide) (by omega)
  omega
 ·exact h
theorem mul_end {o : List Nat} {m n i k : Nat} (hk : (digs n).length ≤ k) (hv : val o + 1000000000 ^ (i + k) * 0 = val ((digs m).take i) * n + 1000000000 ^ i * ((digs m).getD i 0 * val ((digs n).take k))) : val o = val ((digs m).take (i + 1)) * n := by
 rw [val_take_all hk, val_digs] at hv
 rw [val_take_succ, Nat.add_mul, Nat.mul_assoc]
 omega
theorem val_repl (k : Nat) : val (List.replicate k 0) = 0 := by
 induction k with
 | zero => rfl
 | succ k ih => rw [List.replicate_succ, val, ih]
theorem Dig.repl (k : Nat) : Dig (List.replicate k 0) := fun x hx => by rw [List.eq_of_mem_replicate hx]; decide
theorem of_step {r : List Nat} {x n : Nat} (h : r ++ digs x = digs n) (hx : 0 < x) : (r ++ [x % 1000000000]) ++ digs (x / 1000000000) = digs n := by
 rw [← h, digs_pos hx]; simp
theorem of_end {r : List Nat} {x n : Nat} (h : r ++ digs x = digs n) (hx : ¬ 0 < x) : r = digs n := by
 rw [← h, show x = 0 by omega, digs_zero]; simp
theorem digs_len_small {n : Nat} (h : n < 1000000000000000000000000000) : (digs n).length ≤ 3 := digs_len_of_lt (by simpa using h)
theorem of_len {r : List Nat} {x n : Nat} (h : r ++ digs x = digs n) (hx : 0 < x) (hn : n < 1000000000000000000000000000) : r.length + 1 ≤ 3 := by
 have h1 := congrArg List.length h
 have h2 := digs_len_small hn
 have h3 : (digs x).length ≠ 0 := fun e => by have := digs_len_zero.1 e; omega
 simp at h1; omega
theorem drop_set_succ {xs : List Nat} {j v : Nat} : (xs.set j v).drop (j + 1) = xs.drop (j + 1) := by
 rw [List.drop_set]; simp
theorem drop_set_at {xs : List Nat} {j v : Nat} (h : j < xs.length) : val ((xs.set j v).drop j) = v + 1000000000 * val (xs.drop (j + 1)) := by
 rw [val_drop_succ (by simpa using h), drop_set_succ]
 congr 1
 rw [List.getD_eq_getElem?_getD, List.getElem?_set]; simp [h]
theorem div_step {a o : List Nat} {j d r x : Nat} (hj : j < a.length) (hl : o.length = a.length) (hd : 0 < d) (hv : val (a.drop (j + 1)) = d * val (o.drop (j + 1)) + r) (hx : x = r * 1000000000 + a.getD j 0) :
  val (a.drop j) = d * val ((o.set j (x / d)).drop j) + x % d := by
 rw [val_drop_succ hj, drop_set_at (by omega), hv, Nat.mul_add d]
 have := Nat.div_add_mod x d
 have e : 1000000000 * (d * val (o.drop (j + 1)) + r) = d * (1000000000 * val (o.drop (j + 1))) + r * 1000000000 := by rw [Nat.mul_add, Nat.mul_left_comm, Nat.mul_comm r]
 omega
theorem div_dig {r d x a : Nat} (hr : r < d) (ha : a < 1000000000) (hx : x = r * 1000000000 + a) : x / d < 1000000000 := by
 rw [Nat.div_lt_iff_lt_mul (by omega)]
 have : (r + 1) * 1000000000 ≤ d * 1000000000 := Nat.mul_le_mul_right _ hr
 omega
theorem div_end {m d r : Nat} {o : List Nat} (hr : r < d) (hv : val ((digs m).drop 0) = d * val (o.drop 0) + r) : val o = m / d ∧ r = m % d := by
 simp only [List.drop_zero, val_digs] at hv
 constructor
 ·rw [hv, Nat.mul_add_div (by omega), Nat.div_eq_of_lt hr]; rfl
 ·rw [hv, Nat.mul_add_mod, Nat.mod_eq_of_lt hr]
def decs (n : Nat) : List Nat := if h : n = 0 then [] else (48 + n % 10) :: decs (n / 10)
termination_by n
decreasing_by omega
theorem decs_zero : decs 0 = [] := by rw [decs]; simp
theorem decs_pos {n : Nat} (h : 0 < n) : decs n = (48 + n % 10) :: decs (n / 10) := by rw [decs]; simp [Nat.ne_of_gt h]
theorem text_step {bk : List Nat} {n p k hi : Nat} (hk : k < 9) (hM : 0 < p + 10 ^ (9 - k) * hi) (h : bk ++ decs (p + 10 ^ (9 - k) * hi) = decs n) : (bk ++ [48 + p % 10]) ++ decs (p / 10 + 10 ^ (9 - (k + 1)) * hi) = decs n := by
 rw [← h, decs_pos hM]
 have e : 10 ^ (9 - k) * hi = 10 * (10 ^ (9 - (k + 1)) * hi) := by
  rw [← Nat.mul_assoc, show 9 - k = (9 - (k + 1)) + 1 by omega, Nat.pow_succ, Nat.mul_comm 10]
 rw [e, show (p + 10 * (10 ^ (9 - (k + 1)) * hi)) % 10 = p % 10 by omega, show (p + 10 * (10 ^ (9 - (k + 1)) * hi)) / 10 = p / 10 + 10 ^ (9 - (k + 1)) * hi by omega]
 simp
theorem val_drop_pos {n j : Nat} (h : j < (digs n).length) : 0 < val ((digs n).drop j) := by
 have hne : (digs n).drop j ≠ [] := by simp; omega
 refine val_pos_of_trim hne fun hx => ?_
 rw [List.getLast_drop]
 exact digs_trim n _
theorem decs_len_lt {n : Nat} : ∀ {k : Nat}, n < 10 ^ k → (decs n).length ≤ k := by
 induction n using Nat.strongRecOn with
 | _ n ih =>
  intro k hk
  by_cases h : n = 0
  ·subst h; rw [decs_zero]; simp
  ·rw [decs_pos (by omega)]
   cases k with
   | zero => simp at hk; omega
   | succ k =>
    have := ih (n / 10) (by omega) (k := k) (by rw [Nat.div_lt_iff_lt_mul (by decide), ← Nat.pow_succ]; exact hk)
    simpa using this
theorem decs_len_le (n : Nat) : (decs n).length ≤ 9 * (digs n).length := by
 refine decs_len_lt ?_
 have := digs_hi n
 rw [show (1000000000 : Nat) = 10 ^ 9 by rfl, ← Nat.pow_mul] at this
 exact this
def ndig (n : Nat) : Nat := if n = 0 then 1 else (decs n).length
theorem decs_up {x y : Nat} (hy : 0 < y) : ∀ {k : Nat} {p : Nat}, p < 10 ^ k → (decs (p + 10 ^ k * y)).length = k + (decs y).length
 | 0, p, hp => by simp at hp; subst hp; simp
 | k + 1, p, hp => by
  have hpos : 0 < 10 ^ (k + 1) * y := Nat.mul_pos (Nat.pow_pos (by decide)) hy
  have e : 10 ^ (k + 1) * y = 10 * (10 ^ k * y) := by rw [Nat.pow_succ, Nat.mul_comm (10 ^ k) 10, Nat.mul_assoc]
  rw [decs_pos (by omega), List.length_cons, e, show (p + 10 * (10 ^ k * y)) / 10 = p / 10 + 10 ^ k * y by omega, decs_up hy (x := x) (k := k) (by rw [Nat.div_lt_iff_lt_mul (by decide), ← Nat.pow_succ]; exact hp)]
  omega
theorem ndig_top {n : Nat} (h : 0 < n) : (decs n).length = 9 * ((digs n).length - 1) + (decs ((digs n).getD ((digs n).length - 1) 0)).length := by
 have hl : (digs n).length ≠ 0 := fun e => by have := digs_len_zero.1 e; omega
 have hs := val_split (digs n) (j := (digs n).length - 1) (by omega)
 rw [val_digs, val_drop_succ (by omega), val_drop_all (xs := digs n) (j := (digs n).length - 1 + 1) (by omega)] at hs
 have hp := val_drop_pos (n := n) (j := (digs n).length - 1) (by omega)
 rw [val_drop_succ (by omega), val_drop_all (xs := digs n) (j := (digs n).length - 1 + 1) (by omega)] at hp
 have hlt := val_lt ((digs_dig n).take ((digs n).length - 1))
 rw [List.length_take, Nat.min_eq_left (by omega)] at hlt
 simp only [Nat.mul_zero, Nat.add_zero] at hs hp
 rw [show (1000000000 : Nat) ^ ((digs n).length - 1) = 10 ^ (9 * ((digs n).length - 1)) by rw [Nat.pow_mul]] at hs hlt
 have := decs_up (x := 0) hp hlt
 rw [← hs] at this
 exact this
def sg (neg : Bool) (n : Nat) : Int := if neg = true then -(n : Int) else n
end Go.Mth

namespace Go.Mth
open Go.Ab
def txtL (z : Int) : List Nat := if z = 0 then [48] else (if z < 0 then [45] else []) ++ (decs z.natAbs).reverse
def txt (z : Int) : ByteArray := strN (txtL z)
def AllB (l : List Nat) : Prop := ∀ x ∈ l, x < 256
theorem byts_strN {l : List Nat} (h : AllB l) : byts (strN l) = l := by
 unfold byts strN
 rw [strOfNums_data, List.map_map, List.map_map]
 conv => rhs; rw [← List.map_id l]
 refine List.map_congr_left fun x hx => ?_
 have := h x hx
 simp only [Function.comp, Int.toNat_natCast, id_eq]
 exact UInt8.toNat_ofNat_of_lt' this
theorem strN_byts (a : ByteArray) : strN (byts a) = a := by
 unfold byts strN strOfNums
 rw [List.map_map, List.map_map]
 have : (a.data.toList.map (((fun n : Int => UInt8.ofNat n.toNat) ∘ (fun x : Nat => (x : Int))) ∘ UInt8.toNat)) = a.data.toList := by
  conv => rhs; rw [← List.map_id a.data.toList]
  refine List.map_congr_left fun x _ => ?_
  simp
 rw [this]
theorem byts_inj {a b : ByteArray} (h : byts a = byts b) : a = b := by rw [← strN_byts a, ← strN_byts b, h]
theorem byt_byts (a : ByteArray) (i : Nat) : byt a i = (byts a).getD i 0 := by
 unfold byt byts
 simp only [List.getD_eq_getElem?_getD, List.getElem?_map]
 cases a.data.toList[i]? <;> simp
theorem toList_loop (a : ByteArray) : ∀ (n i : Nat) (r : List UInt8), a.size - i = n → ByteArray.toList.loop a i r = r.reverse ++ a.data.toList.drop i := by
 intro n
 induction n with
 | zero =>
  intro i r h
  rw [ByteArray.toList.loop]
  have : ¬ i < a.size := by omega
  simp only [this, if_false]
  rw [List.drop_of_length_le (by simp; have : a.size = a.data.size := rfl; omega)]
  simp
 | succ n ih =>
  intro i r h
  rw [ByteArray.toList.loop]
  have hi : i < a.size := by omega
  simp only [hi, if_true]
  rw [ih (i + 1) _ (by omega)]
  have hi' : i < a.data.toList.length := by simpa using hi
  rw [List.drop_eq_getElem_cons hi']
  simp only [List.reverse_cons, List.append_assoc, List.cons_append, List.nil_append]
  congr 2
  simp [ByteArray.get!, getElem!_pos a.data i (by simpa using hi)]
theorem toList_data (a : ByteArray) : a.toList = a.data.toList := by
 unfold ByteArray.toList
 rw [toList_loop a _ 0 [] rfl]; simp
theorem str_eq {a b : ByteArray} : a.toList = b.toList ↔ a = b := by
 rw [toList_data, toList_data]
 constructor
 ·intro h
  refine byts_inj ?_
  unfold byts; rw [h]
 ·intro h; rw [h]
theorem str_nil {a : ByteArray} : a.toList = ByteArray.toList { data := #[] } ↔ a.size = 0 := by
 rw [str_eq]
 constructor
 ·intro h; subst h; rfl
 ·intro h
  refine byts_inj ?_
  have : (byts a).length = 0 := by rw [byts_len]; exact h
  rw [List.eq_nil_of_length_eq_zero this]; rfl
theorem txt_zero : txt 0 = { data := #[48] } := rfl
theorem txt_fin {z : Int} {b : List Nat} (hz : z.natAbs ≠ 0) (hb : b = decs z.natAbs ++ if z < 0 then [45] else []) : txt z = strN b.reverse := by
 unfold txt txtL
 rw [if_neg (by omega), hb]
 split <;> simp
theorem rev_step {b : List Nat} {j : Nat} (h : 0 < j) (hj : j ≤ b.length) : (b.drop j).reverse ++ [b.getD (j - 1) 0] = (b.drop (j - 1)).reverse := by
 rw [List.drop_eq_getElem_cons (i := j - 1) (by omega), List.reverse_cons, Nat.sub_add_cancel h, List.getD_eq_getElem?_getD, List.getElem?_eq_getElem (by omega)]
 rfl
theorem drop_hi {n i : Nat} (hi : i < (digs n).length) : val ((digs n).drop i) = (digs n).getD i 0 + 10 ^ (9 - 0) * val ((digs n).drop (i + 1)) := by rw [val_drop_succ hi]
theorem bk_len {bk : List Nat} {n M : Nat} (h : bk ++ decs M = decs n) (hM : 0 < M) (hn : (digs n).length ≤ 1000000000) : bk.length + 1 ≤ 9000000000 := by
 have h1 := congrArg List.length h
 have h2 := decs_len_le n
 rw [decs_pos hM] at h1
 simp at h1
 omega
theorem bk_end {bk : List Nat} {n i : Nat} (h : bk ++ decs (val ((digs n).drop i)) = decs n) (hi : (digs n).length ≤ i) : bk = decs n := by
 rw [val_drop_all hi, decs_zero] at h; simpa using h
def sgnAt (a : ByteArray) : Nat := if byt a 0 = 45 then 1 else 0
def OkS (a : ByteArray) : Prop := sgnAt a < a.size ∧ a.size - sgnAt a ≤ 2000 ∧ ¬ (byt a (sgnAt a) = 48 ∧ 1 < a.size) ∧ ∀ i, sgnAt a ≤ i → i < a.size → 48 ≤ byt a i ∧ byt a i ≤ 57
open Classical in
noncomputable def okS (a : ByteArray) : Bool := decide (OkS a)
theorem okS_yes {a : ByteArray} (h : OkS a) : okS a = true := by unfold okS; simp [h]
theorem okS_no {a : ByteArray} (h : ¬ OkS a) : okS a = false := by unfold okS; simp [h]
theorem okS_iff {a : ByteArray} : okS a = true ↔ OkS a := by unfold okS; simp
attribute [irreducible] okS
theorem byt_nil {a : ByteArray} (h : a.size = 0) (i : Nat) : byt a i = 0 := by
 rw [byt_byts]; exact getD_ge (by rw [byts_len]; omega)
def dvk (a : ByteArray) (s : Nat) : Nat → Nat
 | 0 => 0
 | k + 1 => 10 * dvk a s k + (byt a (s + k) - 48)
theorem dvk_add (a : ByteArray) (s j : Nat) : ∀ k, dvk a s (j + k) = dvk a s j * 10 ^ k + dvk a (s + j) k
 | 0 => by simp [dvk]
 | k + 1 => by
  rw [← Nat.add_assoc, dvk, dvk_add a s j k, dvk, Nat.pow_succ, Nat.add_assoc s j k, Nat.mul_add]
  have e : 10 * (dvk a s j * 10 ^ k) = dvk a s j * (10 ^ k * 10) := by rw [Nat.mul_comm 10, Nat.mul_assoc]
  omega
theorem dvk_lt {a : ByteArray} {s : Nat} : ∀ {k : Nat}, (∀ i, s ≤ i → i < s + k → 48 ≤ byt a i ∧ byt a i ≤ 57) → dvk a s k < 10 ^ k
 | 0, _ => by simp [dvk]
 | k + 1, h => by
  have h1 := dvk_lt (a := a) (s := s) (k := k) fun i h1 h2 => h i h1 (by omega)
  have h2 := h (s + k) (by omega) (by omega)
  rw [dvk, Nat.pow_succ]; omega
def numS (a : ByteArray) : Int := sg (decide (byt a 0 = 45)) (dvk a (sgnAt a) (a.size - sgnAt a))
theorem parse_step {L : List Nat} {a : ByteArray} {e s n : Nat} (hse : s ≤ e) (hen : e ≤ n) (hl : L.length * 9 = n - e) (hv : val L = dvk a e (n - e)) : val (L ++ [dvk a s (e - s)]) = dvk a s (n - s) := by
 have h := dvk_add a s (e - s) (n - e)
 rw [show e - s + (n - e) = n - s by omega, show s + (e - s) = e by omega, ← hv, ← hl, Nat.mul_comm L.length 9, Nat.pow_mul] at h
 rw [val_snoc, h, Nat.mul_comm]
 simp only [Nat.reducePow]
 omega
theorem extract_size (a : ByteArray) {l h : Nat} (hl : l ≤ h) (hh : h ≤ a.size) : (a.extract l h).size = h - l := by
 rw [ByteArray.size_extract]; omega
theorem byt_extract (a : ByteArray) {l h i : Nat} (hi : l + i < h) (hh : h ≤ a.size) : byt (a.extract l h) i = byt a (l + i) := by
 have h1 : (a.extract l h).data.toList = (a.data.toList.drop l).take (h - l) := by
  simp [ByteArray.data_extract, Array.toList_extract, List.extract_eq_take_drop]
 unfold byt
 rw [h1]
 simp only [List.getD_eq_getElem?_getD]
 rw [List.getElem?_take_of_lt (by omega), List.getElem?_drop]
theorem dvk_congr {a b : ByteArray} {s t : Nat} : ∀ {k : Nat}, (∀ i, i < k → byt a (s + i) = byt b (t + i)) → dvk a s k = dvk b t k
 | 0, _ => rfl
 | k + 1, h => by rw [dvk, dvk, dvk_congr fun i hi => h i (by omega), h k (by omega)]
theorem txtL_all (z : Int) : AllB (txtL z) := by
 have hd : ∀ n, AllB (decs n) := fun n => by
  induction n using Nat.strongRecOn with
  | _ n ih =>
   by_cases h : n = 0
   ·subst h; rw [decs_zero]; intro x hx; cases hx
   ·rw [decs_pos (by omega)]
    intro x hx
    rcases List.mem_cons.1 hx with e | e
    ·omega
    ·exact ih (n / 10) (by omega) x e
 unfold txtL
 intro x hx
 split at hx
 ·simp at hx; omega
 ·rcases List.mem_append.1 hx with e | e
  ·split at e
   ·simp at e; omega
   ·cases e
  ·exact hd _ x (List.mem_reverse.1 e)
theorem byts_txt (z : Int) : byts (txt z) = txtL z := byts_strN (txtL_all z)
theorem txt_size (x : Nat) : (txt (x : Int)).size = ndig x := by
 rw [← byts_len, byts_txt]
 unfold txtL ndig
 by_cases h : x = 0
 ·subst h; rfl
 ·rw [if_neg (by omega), if_neg h, if_neg (by omega)]; simp
theorem get_byt {a : ByteArray} {i : Nat} (h : i < a.size) : (a.get! i).toNat = byt a i := by
 have h' : i < a.data.toList.length := by simpa using h
 unfold byt
 rw [List.getD_eq_getElem?_getD, List.getElem?_eq_getElem h']
 simp [ByteArray.get!, getElem!_pos a.data i (by simpa using h)]
theorem utf8_lo {a : ByteArray} {pos : Nat} (hp : pos < a.size) (h : byt a pos < 128) : Utf8.decode a pos = (byt a pos, 1) := by
 have e : (a.get! (pos + 0)).toNat = byt a pos := get_byt hp
 simp only [Utf8.decode, e, h, if_true]
theorem utf8_hi {a : ByteArray} {pos : Nat} (hp : pos < a.size) (h : 128 ≤ byt a pos) : 128 ≤ (Utf8.decode a pos).1 := by
 have e : (a.get! (pos + 0)).toNat = byt a pos := get_byt hp
 have h' : ¬ byt a pos < 128 := by omega
 simp only [Utf8.decode, e, h', if_false]
 split
 ·split
  ·assumption
  ·decide
 ·split
  ·split
   ·rename_i hh; simp only [Bool.and_eq_true, decide_eq_true_eq] at hh; omega
   ·decide
  ·split
   ·split
    ·rename_i hh; simp only [Bool.and_eq_true, decide_eq_true_eq] at hh; omega
    ·decide
   ·decide
theorem utf8_dig {a : ByteArray} {pos : Nat} (hp : pos < a.size) (h : (Utf8.decode a pos).1 < 128) : Utf8.decode a pos = (byt a pos, 1) := by
 rcases Nat.lt_or_ge (byt a pos) 128 with e | e
 ·exact utf8_lo hp e
 ·have := utf8_hi hp e; omega
end Go.Mth

namespace Go.Mth
open Go.Ab
structure MapM where
 mod : Int
 mul : List Int
 add : List Int
 deriving DecidableEq
def mapV (m : MapM) : AV := .agg [.lit (.int .i64 m.mod), .sl 1 (is .i64 m.mul), .sl 1 (is .i64 m.add)]
def OkM (m : MapM) : Prop := 2 ≤ m.mod ∧ m.mod ≤ 12 ∧ (m.mul.length : Int) = m.mod ∧ (m.add.length : Int) = m.mod ∧ ∀ r : Nat, (r : Int) < m.mod → 1 ≤ m.mul.getD r 0 ∧ m.mul.getD r 0 ≤ 999 ∧ -999999 ≤ m.add.getD r 0 ∧ m.add.getD r 0 ≤ 999999 ∧ Int.tmod (m.mul.getD r 0 * r + m.add.getD r 0) m.mod = 0
open Classical in
noncomputable def okM (m : MapM) : Bool := decide (OkM m)
theorem okM_iff {a : MapM} : okM a = true ↔ OkM a := by unfold okM; simp
attribute [irreducible] okM
theorem mulb {a r : Int} (h1 : 1 ≤ a) (h2 : a ≤ 999) (h3 : 0 ≤ r) (h4 : r ≤ 12) : 0 ≤ a * r ∧ a * r ≤ 11988 := by
 have e1 : a * r ≤ 999 * r := Int.mul_le_mul_of_nonneg_right h2 h3
 have e2 : 0 ≤ a * r := Int.mul_nonneg (by omega) h3
 omega
def stepZ (m : MapM) (z : Int) : Int := (m.mul.getD (z % m.mod).toNat 0 * z + m.add.getD (z % m.mod).toNat 0) / m.mod
def Fit (z : Int) : Prop := ndig z.natAbs ≤ 2000
instance (z : Int) : Decidable (Fit z) := inferInstanceAs (Decidable (ndig z.natAbs ≤ 2000))
def runZ (m : MapM) : Nat → Int → Int
 | 0, z => z
 | k + 1, z => if Fit z then runZ m k (stepZ m z) else z
def orbZ (m : MapM) : Nat → Int → List Int
 | 0, z => [z]
 | k + 1, z => if Fit z then z :: orbZ m k (stepZ m z) else [z]
def fallZ (m : MapM) (n : Int) : Nat → Int → Nat → Nat × Int × Nat
 | 0, _, _ => (0, 0, 4)
 | k + 1, x, i => if Fit (stepZ m x) then if stepZ m x < n then (i, stepZ m x, 0) else fallZ m n k (stepZ m x) (i + 1) else (0, 0, 3)
theorem digs_len_mul (a b : Nat) : (digs (a * b)).length ≤ (digs a).length + (digs b).length := by
 refine digs_len_of_lt ?_
 rw [Nat.pow_add]
 exact Nat.mul_lt_mul'' (digs_hi a) (digs_hi b)
theorem digs_len_add (a b : Nat) : (digs (a + b)).length ≤ max (digs a).length (digs b).length + 1 := by
 refine digs_len_of_lt ?_
 have h1 := digs_hi a
 have h2 := digs_hi b
 have h3 : 1000000000 ^ (digs a).length ≤ 1000000000 ^ max (digs a).length (digs b).length := Nat.pow_le_pow_right (by decide) (by omega)
 have h4 : 1000000000 ^ (digs b).length ≤ 1000000000 ^ max (digs a).length (digs b).length := Nat.pow_le_pow_right (by decide) (by omega)
 rw [Nat.pow_succ]; omega
theorem len_mulZ (a b : Int) : (digs (a * b).natAbs).length ≤ (digs a.natAbs).length + (digs b.natAbs).length := by
 rw [Int.natAbs_mul]; exact digs_len_mul _ _
theorem len_addZ (a b : Int) : (digs (a + b).natAbs).length ≤ max (digs a.natAbs).length (digs b.natAbs).length + 1 := by
 have h := digs_len_add a.natAbs b.natAbs
 have := digs_len_le (Int.natAbs_add_le a b)
 omega
theorem len_divZ (z : Int) {d : Int} (hd : 2 ≤ d) : (digs (z / d).natAbs).length ≤ (digs z.natAbs).length + 1 := by
 have h1 := Int.emod_nonneg z (show d ≠ 0 by omega)
 have h2 := Int.emod_lt_of_pos z (show 0 < d by omega)
 have h3 := Int.mul_ediv_add_emod z d
 have h4 : (z / d).natAbs ≤ z.natAbs + 1 := by
  by_cases hz : 0 ≤ z
  ·have := Int.ediv_nonneg hz (show 0 ≤ d by omega)
   have : z / d ≤ z := Int.ediv_le_self _ hz
   omega
  ·have e : z ≤ z / d := by
    have h5 : z / d < 0 := Int.ediv_neg_of_neg_of_pos (by omega) (by omega)
    have h6 : d * (z / d + 1) ≤ 2 * (z / d + 1) := Int.mul_le_mul_of_nonpos_right hd (by omega)
    rw [Int.mul_add, Int.mul_one] at h6
    omega
   have : z / d < 0 := Int.ediv_neg_of_neg_of_pos (by omega) (by omega)
   omega
 have h5 := digs_len_le h4
 have h6 := digs_len_add z.natAbs 1
 have h7 := digs_len_small (n := 1) (by decide)
 have h8 : (digs 1).length = 1 := by rw [digs_pos (by decide), show 1 / 1000000000 = 0 by rfl, digs_zero]; rfl
 rcases Nat.eq_zero_or_pos z.natAbs with h0 | h0
 ·rw [h0] at h5; rw [Nat.zero_add, h8] at h5; omega
 ·have : (digs z.natAbs).length ≠ 0 := fun e => by have := digs_len_zero.1 e; omega
  omega
theorem fit_len {z : Int} (h : Fit z) : (digs z.natAbs).length ≤ 300 := by
 unfold Fit ndig at h
 split at h
 ·rename_i h0; rw [h0, digs_zero]; simp
 ·rename_i h0
  rw [ndig_top (by omega)] at h
  omega
theorem small_len {z : Int} (h : z.natAbs ≤ 999999) : (digs z.natAbs).length ≤ 1 := digs_len_of_lt (by omega)
theorem step_len {m : MapM} (hm : OkM m) {z : Int} {k : Nat} (hz : (digs z.natAbs).length ≤ k) (hk : 1 ≤ k) : (digs (stepZ m z).natAbs).length ≤ k + 3 := by
 obtain ⟨o1, o2, o3, o4, o5⟩ := hm
 have hr0 := Int.emod_nonneg z (b := m.mod) (by omega)
 have hr1 := Int.emod_lt_of_pos z (b := m.mod) (by omega)
 have hr := o5 (z % m.mod).toNat (by omega)
 unfold stepZ
 have h1 := len_divZ (m.mul.getD (z % m.mod).toNat 0 * z + m.add.getD (z % m.mod).toNat 0) o1
 have h2 := len_addZ (m.mul.getD (z % m.mod).toNat 0 * z) (m.add.getD (z % m.mod).toNat 0)
 have h3 := len_mulZ (m.mul.getD (z % m.mod).toNat 0) z
 have h4 := small_len (z := m.mul.getD (z % m.mod).toNat 0) (by omega)
 have h5 := small_len (z := m.add.getD (z % m.mod).toNat 0) (by omega)
 omega
theorem cmpZ_lt {x y : Int} : cmpZ x y < 0 ↔ x < y := by unfold cmpZ; split <;> (try split) <;> omega
def toldS (z : Int) : ByteArray := if Fit z then txt z else { data := #[] }
def toldE (z : Int) : Nat := if Fit z then 0 else 3
def noM : MapM := ⟨0, [], []⟩
def kinM (q c : Int) : MapM := ⟨2, [1, q], [0, c]⟩
def kinOk (q c : Int) : Prop := 1 ≤ q ∧ q ≤ 999 ∧ -999999 ≤ c ∧ c ≤ 999999 ∧ Int.tmod q 2 ≠ 0 ∧ Int.tmod c 2 ≠ 0
instance (q c : Int) : Decidable (kinOk q c) := inferInstanceAs (Decidable (1 ≤ q ∧ q ≤ 999 ∧ -999999 ≤ c ∧ c ≤ 999999 ∧ Int.tmod q 2 ≠ 0 ∧ Int.tmod c 2 ≠ 0))
theorem fit_of_pow {n k : Nat} (h : n < 10 ^ k) (hk : k ≤ 2000) (h1 : 1 ≤ k) : ndig n ≤ 2000 := by
 unfold ndig
 split
 ·decide
 ·exact Nat.le_trans (decs_len_lt h) hk
theorem fit_numS {a : ByteArray} (h : OkS a) : Fit (numS a) := by
 obtain ⟨o1, o2, o3, o4⟩ := h
 have h1 := dvk_lt (a := a) (s := sgnAt a) (k := a.size - sgnAt a) fun i h1 h2 => o4 i h1 (by omega)
 have h3 : (numS a).natAbs = dvk a (sgnAt a) (a.size - sgnAt a) := by unfold numS sg; split <;> simp
 unfold Fit
 rw [h3]
 exact fit_of_pow h1 o2 (by omega)
theorem len_numS {a : ByteArray} (h : OkS a) : (digs (numS a).natAbs).length ≤ 300 := fit_len (fit_numS h)
end Go.Mth

namespace Go.Proofs
open Go.Shelf
def Try.lays134_ren : Go.Shelf.Ren := ⟨fun | 134 => 67 | 129 => 66 | n => n, fun | 53 => 73 | 3 => 3 | 4 => 4 | 46 => 93 | 5 => 5 | 9 => 9 | n => n, fun | n => n⟩
theorem Try.lays134 : Go.Proofs.Lays.n134 Try.prog Try.lays134_ren := {
 mixed := by kernel_rfl
 f129 := Try.func66.trans (congrArg some (by kernel_rfl))
 f134 := Try.func67.trans (congrArg some (by kernel_rfl))
 t3 := Try.underlying3
 a3 := Try.isAgg3
 z3 := Try.sizeOf3
 v3 := Try.zeroValue3
 t4 := Try.underlying4
 a4 := Try.isAgg4
 z4 := Try.sizeOf4
 v4 := Try.zeroValue4
 t5 := Try.underlying5
 a5 := Try.isAgg5
 z5 := Try.sizeOf5
 v5 := Try.zeroValue5
 t9 := Try.underlying9
 a9 := Try.isAgg9
 z9 := Try.sizeOf9
 v9 := Try.zeroValue9
 t46 := Try.underlying93
 a46 := Try.isAgg93
 z46 := Try.sizeOf93
 v46 := Try.zeroValue93
 t53 := Try.underlying73
 a53 := Try.isAgg73
 z53 := Try.sizeOf73
 v53 := Try.zeroValue73 }
theorem Try.bits_LeadingZeros64 (x : Int) (w : World) (h0 : 0 ≤ x) (h1 : x ≤ 18446744073709551615) :
  Calls Try.prog 67 #[.int .u64 x] w fun e w' => e = .returned (.int .i64 (64 - (Lib.bitLen x.toNat : Int))) ∧ w' = w := Any.bits_LeadingZeros64 Try.lays134 x w h0 h1
def Try.lays103_ren : Go.Shelf.Ren := ⟨fun | 103 => 51 | 210 => 65 | 206 => 69 | n => n, fun | 9 => 9 | 4 => 4 | 24 => 88 | 3 => 3 | n => n, fun | n => n⟩
theorem Try.lays103 : Go.Proofs.Lays.n103 Try.prog Try.lays103_ren := {
 mixed := by kernel_rfl
 f103 := Try.func51.trans (congrArg some (by kernel_rfl))
 f206 := Try.func69.trans (congrArg some (by kernel_rfl))
 f210 := Try.func65.trans (congrArg some (by kernel_rfl))
 t3 := Try.underlying3
 a3 := Try.isAgg3
 z3 := Try.sizeOf3
 v3 := Try.zeroValue3
 t4 := Try.underlying4
 a4 := Try.isAgg4
 z4 := Try.sizeOf4
 v4 := Try.zeroValue4
 t9 := Try.underlying9
 a9 := Try.isAgg9
 z9 := Try.sizeOf9
 v9 := Try.zeroValue9
 t24 := Try.underlying88
 a24 := Try.isAgg88
 z24 := Try.sizeOf88
 v24 := Try.zeroValue88 }
open Go.RowKit in
theorem Try.strings_CutPrefix (s p : ByteArray) (w : World) :
  Calls Try.prog 51 #[.string s, .string p] w fun e w' => e = .returned (.tuple #[.string ⟨(Lib.trimPrefix s.data.toList p.data.toList).toArray⟩, .bool (Lib.hasPrefix s.data.toList p.data.toList)]) ∧ w' = w := Any.strings_CutPrefix Try.lays103 s p w
def Try.lays129_ren : Go.Shelf.Ren := ⟨fun | 129 => 66 | n => n, fun | 53 => 73 | 3 => 3 | 4 => 4 | 46 => 93 | 5 => 5 | 9 => 9 | n => n, fun | n => n⟩
theorem Try.lays129 : Go.Proofs.Lays.n129 Try.prog Try.lays129_ren := {
 mixed := by kernel_rfl
 f129 := Try.func66.trans (congrArg some (by kernel_rfl))
 t3 := Try.underlying3
 a3 := Try.isAgg3
 z3 := Try.sizeOf3
 v3 := Try.zeroValue3
 t4 := Try.underlying4
 a4 := Try.isAgg4
 z4 := Try.sizeOf4
 v4 := Try.zeroValue4
 t5 := Try.underlying5
 a5 := Try.isAgg5
 z5 := Try.sizeOf5
 v5 := Try.zeroValue5
 t9 := Try.underlying9
 a9 := Try.isAgg9
 z9 := Try.sizeOf9
 v9 := Try.zeroValue9
 t46 := Try.underlying93
 a46 := Try.isAgg93
 z46 := Try.sizeOf93
 v46 := Try.zeroValue93
 t53 := Try.underlying73
 a53 := Try.isAgg73
 z53 := Try.sizeOf73
 v53 := Try.zeroValue73 }
theorem Try.bits_Len64 (x : Int) (w : World) (h0 : 0 ≤ x) (h1 : x ≤ 18446744073709551615) :
  Calls Try.prog 66 #[.int .u64 x] w fun e w' => e = .returned (.int .i64 (Lib.bitLen x.toNat)) ∧ w' = w := Any.bits_Len64 Try.lays129 x w h0 h1
def Try.lays264_ren : Go.Shelf.Ren := ⟨fun | 264 => 62 | n => n, fun | 53 => 73 | 46 => 93 | n => n, fun | n => n⟩
theorem Try.lays264 : Go.Proofs.Lays.n264 Try.prog Try.lays264_ren := {
 mixed := by kernel_rfl
 f264 := Try.func62.trans (congrArg some (by kernel_rfl))
 t46 := Try.underlying93
 a46 := Try.isAgg93
 z46 := Try.sizeOf93
 v46 := Try.zeroValue93
 t53 := Try.underlying73
 a53 := Try.isAgg73
 z53 := Try.sizeOf73
 v53 := Try.zeroValue73 }
open Go.RowKit Go.Lib in
theorem Try.bits_Mul64 (x y : Nat) (hx : x < 18446744073709551616) (hy : y < 18446744073709551616) (w : World) :
  Calls Try.prog 62 #[.int .u64 x, .int .u64 y] w fun e w' => e = .returned (.tuple #[.int .u64 ((x * y / 18446744073709551616 : Nat) : Int), .int .u64 ((x * y % 18446744073709551616 : Nat) : Int)]) ∧ w' = w := Any.bits_Mul64 Try.lays264 x y hx hy w
end Go.Proofs

namespace Go.Ab
open Go.RowKit
theorem row_ns {e sz : Nat} {k : IntKind} {a b : List Nat} (h : b = a) : some (AO.row e sz (ns k b)) = some (AO.row e sz (ns k a)) := by rw [h]
theorem ns_congr {k : IntKind} {a b : List Nat} (h : a = b) : AV.sl 1 (ns k a) = AV.sl 1 (ns k b) := by rw [h]
theorem bp_congr {p q : Prop} [Decidable p] [Decidable q] (h : p ↔ q) : bp p = bp q := by unfold bp; rw [dec_eq h]
theorem bl_bp {b : Bool} {q : Prop} [Decidable q] (h : b = true ↔ q) : AV.lit (.bool b) = bp q := by
 unfold bp; congr 2; cases b <;> simp_all
theorem awp_seqJ {C : Ctx} {n : Nat} {Q : Exit → St → Prop} {σ : St} {x y : Code} (J : St → Prop) (h1 : awp C n x (thenK (fun σ2 => ∃ σ3, J σ3 ∧ Wk C n σ2 σ3) Q) σ) (h2 : ∀ σ3, J σ3 → awp C n y Q σ3) : awp C n (.seq x y) Q σ := by
 refine awp_seq fun K hK => ?_
 refine awp_mono h1 fun e σ2 hq => ?_
 cases e with
 | normal =>
  obtain ⟨σ3, hj, hw⟩ := hq
  exact hK _ (awp_wk hw (h2 σ3 hj))
 | _ => exact hq
open Go.Mth
def intK (k : IntKind) (z : Int) : AV := .agg [bp (z < 0), .sl 1 (ns k (digs z.natAbs))]
def intR (z : Int) : AV := intK .i64 z
def intW (z : Int) : AV := intK .u32 z
abbrev oZ (t : TypeId) (k : IntKind) (z : Int) : AO := .var t [bp (z < 0), .sl 1 (ns k (digs z.natAbs))]
abbrev oM (t : TypeId) (m : MapM) : AO := .var t [.lit (.int .i64 m.mod), .sl 1 (is .i64 m.mul), .sl 1 (is .i64 m.add)]
theorem sg_abs (neg : Bool) (n : Nat) : (sg neg n).natAbs = n := by cases neg <;> simp [sg]
theorem sg_neg (neg : Bool) (n : Nat) : sg neg n < 0 ↔ neg = true ∧ 0 < n := by cases neg <;> simp [sg]
theorem intK_eq {k : IntKind} {b : AV} {l : List Nat} {z : Int} (hb : b = bp (z < 0)) (hl : l = digs z.natAbs) : AV.agg [b, .sl 1 (ns k l)] = intK k z := by subst hb; subst hl; rfl
theorem trim_fin {k : IntKind} {neg : Bool} {xs : List Nat} {n : Nat} (hx : Dig xs) (hn : n ≤ xs.length) (hv : val (xs.take n) = val xs) (h : n = 0 ∨ xs.getD (n - 1) 0 ≠ 0) :
  AV.agg [AV.lit (.bool (neg && decide (0 < n))), .sl 1 (ns k ((xs.drop 0).take (n - 0)))] = intK k (sg neg (val xs)) := by
 have e := trim_digs hx hn hv h
 have hlen : n = (digs (val xs)).length := by rw [← e]; simp; omega
 refine intK_eq (bl_bp ?_) (by rw [sg_abs, List.drop_zero, Nat.sub_zero]; exact e)
 rw [sg_neg]
 have h0 : n = 0 ↔ val xs = 0 := by rw [hlen]; exact digs_len_zero
 simp only [Bool.and_eq_true, decide_eq_true_eq]
 constructor
 ·rintro ⟨h1, h2⟩; exact ⟨h1, by omega⟩
 ·rintro ⟨h1, h2⟩; exact ⟨h1, by omega⟩
theorem minus_fin1 {k : IntKind} {z : Int} (h : ¬ z < 0) : AV.agg [bp (0 < (digs z.natAbs).length), .sl 1 (ns k (digs z.natAbs))] = intK k (-z) :=
 intK_eq (bp_congr (by have := digs_len_zero (n := z.natAbs); omega)) (by rw [Int.natAbs_neg])
theorem minus_fin2 {k : IntKind} {z : Int} (h : ¬ ¬ z < 0) : AV.agg [AV.lit (.bool false), .sl 1 (ns k (digs z.natAbs))] = intK k (-z) :=
 intK_eq (bl_bp (b := false) (by constructor <;> intro h' <;> first | cases h' | (exfalso; omega))) (by rw [Int.natAbs_neg])
theorem sg_add {x y : Int} (h : decide (x < 0) = decide (y < 0)) : x + y = sg (decide (x < 0)) (x.natAbs + y.natAbs) := by
 have h' : x < 0 ↔ y < 0 := by simpa using h
 unfold sg; split <;> rename_i h2 <;> simp at h2 <;> omega
theorem sg_sub1 {x y : Int} (h : ¬ decide (x < 0) = decide (y < 0)) (hc : y.natAbs ≤ x.natAbs) : x + y = sg (decide (x < 0)) (x.natAbs - y.natAbs) := by
 have h' : ¬ (x < 0 ↔ y < 0) := by simpa using h
 unfold sg; split <;> rename_i h2 <;> simp at h2 <;> omega
theorem sg_sub2 {x y : Int} (h : ¬ decide (x < 0) = decide (y < 0)) (hc : x.natAbs ≤ y.natAbs) : x + y = sg (decide (y < 0)) (y.natAbs - x.natAbs) := by
 have h' : ¬ (x < 0 ↔ y < 0) := by simpa using h
 unfold sg; split <;> rename_i h2 <;> simp at h2 <;> omega
theorem sg_mul (x y : Int) : x * y = sg (decide (decide (x < 0) ≠ decide (y < 0))) (x.natAbs * y.natAbs) := by
 unfold sg
 rw [Int.natCast_mul]
 by_cases hx : x < 0 <;> by_cases hy : y < 0 <;> simp [hx, hy]
 ·rw [show (x.natAbs : Int) = -x by omega, show (y.natAbs : Int) = -y by omega, Int.neg_mul_neg]
 ·rw [show (x.natAbs : Int) = -x by omega, show (y.natAbs : Int) = y by omega, Int.neg_mul, Int.neg_neg]
 ·rw [show (x.natAbs : Int) = x by omega, show (y.natAbs : Int) = -y by omega, Int.mul_neg, Int.neg_neg]
 ·rw [show (x.natAbs : Int) = x by omega, show (y.natAbs : Int) = y by omega]
theorem tup_eq2 {a b c d : AV} (h : a = b) (h2 : c = d) : AV.tup [a, c] = AV.tup [b, d] := by rw [h, h2]
theorem fdiv {z d Q R : Int} (hd : 0 < d) (h : R + d * Q = z) (h0 : 0 ≤ R) (h1 : R < d) : z / d = Q ∧ z % d = R := (Int.ediv_emod_unique hd).2 ⟨h, h0, h1⟩
theorem part1 {z : Int} {d q r : Nat} (hz : ¬ z < 0) (hd : 0 < d) (hq : q = z.natAbs / d) (hr : r = z.natAbs % d) : z / (d : Int) = sg false q ∧ z % (d : Int) = (r : Int) := by
 have h := Nat.div_add_mod z.natAbs d
 rw [← hq, ← hr] at h
 have h1 := Nat.mod_lt z.natAbs hd
 refine fdiv (by omega) ?_ (by omega) (by omega)
 have : ((d * q + r : Nat) : Int) = z := by omega
 simp only [sg, Bool.false_eq_true, if_false]
 rw [← this]; simp; omega
theorem part2 {z : Int} {d q r : Nat} (hz : z < 0) (hd : 0 < d) (hq : q = z.natAbs / d) (hr : r = z.natAbs % d) (h0 : r = 0) : z / (d : Int) = -(q : Int) ∧ z % (d : Int) = 0 := by
 have h := Nat.div_add_mod z.natAbs d
 rw [← hq, ← hr] at h
 refine fdiv (by omega) ?_ (by omega) (by omega)
 have : ((d * q + r : Nat) : Int) = -z := by omega
 rw [h0] at this
 rw [Int.mul_neg]; simp at this; omega
theorem part3 {z : Int} {d q r : Nat} (hz : z < 0) (hd : 0 < d) (hq : q = z.natAbs / d) (hr : r = z.natAbs % d) (h0 : r ≠ 0) : z / (d : Int) = -(q : Int) - 1 ∧ z % (d : Int) = (d : Int) - r := by
 have h := Nat.div_add_mod z.natAbs d
 have h1 := Nat.mod_lt z.natAbs hd
 rw [← hq, ← hr] at h
 refine fdiv (by omega) ?_ (by omega) (by omega)
 have : ((d * q + r : Nat) : Int) = -z := by omega
 rw [Int.mul_sub, Int.mul_neg]; simp at this; omega
theorem len_div {z : Int} {d q : Nat} (hq : q = z.natAbs / d) (hz : (digs z.natAbs).length ≤ 1000000000) (neg : Bool) : (digs (sg neg q).natAbs).length ≤ 1000000000 := by
 rw [sg_abs, hq]
 have := digs_len_le (Nat.div_le_self z.natAbs d)
 omega
theorem len_one : (digs (1 : Int).natAbs).length ≤ 1000000000 := by have := digs_len_small (n := (1 : Int).natAbs) (by decide); omega
theorem bl_eq {a b : Bool} (h : a = b) : AV.lit (.bool a) = AV.lit (.bool b) := by rw [h]
def rcells (zs : List Int) : List AV := zs.flatMap fun z => [bp (z < 0), .sl 1 (ns .i64 (digs z.natAbs))]
end Go.Ab
namespace Go.Proofs.Ytaeknciienkijaa
open Go Go.Ab
theorem mixedT : Try.prog.follows .mixedOrders = true := by kernel_rfl
noncomputable def cx : Ctx := ⟨Try.prog, fun _ => True, fun _ _ _ _ => trivial, mixedT, []⟩
end Go.Proofs.Ytaeknciienkijaa

namespace Go.Ab
open Go.RowKit

def postW (C : Ctx) (fn : Func) (f2 : FuncId) (t1 : TypeId) (cs1 : List AV) (t2 : TypeId) (cs2 : List AV) : Exit → St → Prop
 | .ret, σ => ∃ t id1 id2, fn.results = #[.tmp t] ∧ id1 ≠ id2 ∧ look σ.slots t = .clo f2 [.ref id1 0, .ref id2 0] ∧ lookO σ.objs id1 = some (.var t1 cs1) ∧ lookO σ.objs id2 = some (.var t2 cs2)
 | _, _ => False
theorem entry_rep {C : Ctx} {n : Nat} {w0 : World} {H : Heap} {L : Loc} {args : List AV} {vals : List Value} (hn : args.length ≤ n) (hr : RepL H args L vals) :
  (vals.toArray ++ Array.replicate (n - vals.toArray.size) undef).size = n ∧ ∀ i, RepV H (look (ent 0 args) i) L ((vals.toArray ++ Array.replicate (n - vals.toArray.size) undef).getD i undef) := by
 have hlen := hr.length
 refine ⟨by simp; omega, fun i => ?_⟩
 rw [look_ent]
 simp only [Nat.zero_le, if_true, Nat.sub_zero]
 cases hi : args[i]? with
 | none => simp [RepV]
 | some x =>
  obtain ⟨v, hv1, hv2⟩ := hr.get hi
  have hlt : i < vals.length := (List.getElem?_eq_some_iff.1 hv1).1
  simp only [Option.getD_some, Array.getD_eq_getD_getElem?]
  rw [Array.getElem?_append_left (by simpa using hlt)]
  simpa [hv1] using hv2
theorem entry_Rep {C : Ctx} (hmk : C.marks = []) {n : Nat} {H : Heap} {L : Loc} {w : World} {args : List AV} {vals : List Value} (hG : C.G H) (hH : ∀ b o, H b = some o → w.heap[b]? = some o) (hn : args.length ≤ n) (hr : RepL H args L vals) :
  Rep C n w H L (entry args).sem { tmps := vals.toArray ++ Array.replicate (n - vals.toArray.size) undef, defers := [] } w := by
 obtain ⟨h1, h2⟩ := entry_rep (C := C) (w0 := w) hn hr
 exact ⟨hG, hH, h1, h2, fun id o ho => by simp [entry, St.sem, lookO] at ho, fun id id' o o' g x x' _ ho => by simp [entry, St.sem, lookO] at ho, Bel.refl _ _, hmk.symm⟩
section
variable {C : Ctx} {n : Nat} {w0 : World} {H : Heap} {L : Loc} {S : SS} {a : Act} {w : World}
theorem Rep.pinned (h : Rep C n w0 H L S a w) {id : Nat} (hf : S.Fresh id) {cs : List AV} {us : List Value} (hr : RepL H cs L us) (hn : hasL id cs = false) :
  Rep C n w0 H (L.set id (some (.tuple #[]))) { ρ := S.ρ, μ := fun i => if i = id then some (.pin cs us) else S.μ i } a w :=
 h.new hf (Bel.refl _ _) (fun g hg => by simp [ownB] at hg) ⟨by simp [Loc.set], RepL.setL hn hr⟩ h.heap
theorem Rep.frame (h : Rep C n w0 H L S a w) (mk : List Deferred) {n' : Nat} {a' : Act} (hs : a'.tmps.size = n') (hd : a'.defers = mk) {ρ : Nat → AV} (hρ : ∀ i, RepV H (ρ i) L (a'.tmps.getD i undef)) : Rep { C with marks := mk } n' w0 H L ⟨ρ, S.μ⟩ a' w :=
 ⟨h.glob, h.heap, hs, hρ, h.objs, h.apart, h.below, hd⟩
end
def valsOf : List (Nat × AV) → List AV
 | [] => []
 | (_, v) :: r => v :: valsOf r
theorem valsOf_has {id : Nat} : ∀ {so : List (Nat × AV)}, so.all (fun p => !p.2.has id) = true → hasL id (valsOf so) = false
 | [], _ => rfl
 | (i, v) :: r, h => by
  simp only [List.all_cons, Bool.and_eq_true, Bool.not_eq_true'] at h
  simp only [valsOf, hasL, h.1, valsOf_has h.2, Bool.or_self]
def pinA (so : List (Nat × AV)) (tmps : Array Value) : AO := .pin (valsOf so) (so.map fun p => tmps.getD p.1 undef)
def parS : List Nat → List AV → List (Nat × AV) → List (Nat × AV)
 | p :: ps, v :: vs, s => parS ps vs ((p, v) :: s)
 | _, _, s => s
def lrec (fn : FuncId) (tmps : Array Value) (ps : Array Tmp) (assign body : Code) (D : Nat) (st : LoopState) (pe : Option Code) : Loop := { state := st, pending := pe, fn := fn, tmps := tmps, params := ps, assign := assign, body := body, defers := D }
def YldAt (C : Ctx) (nI : Nat) (l : Nat) (asx : List AV) (σ : St) (K : Bool → St → Prop) : Prop :=
 ∀ (w0 : World) (H : Heap) (L : Loc) (a : Act) (w : World) (vals : List Value), Rep C nI w0 H L σ.sem a w → RepL H asx L vals →
  ∃ fn tmps assign body, (Instr.yield l vals.toArray).run C.P w = .ok (.round l fn tmps assign body) w ∧
   RoundIn (fen none) 0 C.P l fn tmps assign body w fun e w' => ∃ b σ' H' L', e = .returned (.bool b) ∧ Ext w0.heap.size H H' ∧ Rep C nI w0 H' L' (St.sem σ') a w' ∧ K b σ'
theorem YldAt.wk {C : Ctx} {nI l : Nat} {asx : List AV} {σ σ1 : St} {K : Bool → St → Prop} (hw : Wk C nI σ σ1) (hc : closedL asx = true) (h : YldAt C nI l asx σ1 K) : YldAt C nI l asx σ K := fun w0 H L a w vals hr hv => by
 obtain ⟨H1, L1, hx, hr1⟩ := hw w0 H L a w hr
 obtain ⟨fn, tmps, assign, body, h1, h2⟩ := h w0 H1 L1 a w vals hr1 (RepL.closed hc (RepL.mono hx.1 (Loc.le_refl _) hv))
 exact ⟨fn, tmps, assign, body, h1, h2.mono fun e w' ⟨b, σ', H', L', a1, a2, a3, a4⟩ => ⟨b, σ', H', L', a1, hx.trans a2, a3, a4⟩⟩
theorem YldAt.mono {C : Ctx} {nI l : Nat} {asx : List AV} {σ : St} {K K' : Bool → St → Prop} (h : YldAt C nI l asx σ K) (hk : ∀ b σ, K b σ → K' b σ) : YldAt C nI l asx σ K' := fun w0 H L a w vals hr hv => by
 obtain ⟨fn, tmps, assign, body, h1, h2⟩ := h w0 H L a w vals hr hv
 exact ⟨fn, tmps, assign, body, h1, h2.mono fun e w' ⟨b, σ', H', L', a1, a2, a3, a4⟩ => ⟨b, σ', H', L', a1, a2, a3, hk _ _ a4⟩⟩

def awpRound (C : Ctx) (n : Nat) (assign body : Code) (o o' : Obj) (pl : AO) (Q : Exit → St → Prop) (σ : St) : Prop :=
 awp C n assign (thenK (fun σ1 => ∃ s1 m1, Wk C n σ1 ⟨s1, (9001, .blk o) :: m1⟩ ∧ lookO m1 9004 = some pl ∧ awp C n body Q ⟨s1, (9001, .blk o') :: m1⟩) (fun _ _ => False)) σ
def pinL (l : Nat) (D : Nat) : AO := .pin [.ref 9001 0, .ref 9002 0] [.pointer (some ⟨l, 0, none⟩), .pointer (some ⟨D, 0, none⟩)]
def roundQ (C : Ctx) (n : Nat) (o' : Obj) (pI : AO) (l D : Nat) (KN : List (Nat × AO) → Prop) (KX : Code → List (Nat × AO) → Prop) : Exit → St → Prop
 | .normal, σ => ∃ m', Wk C n σ ⟨[], (9005, pI) :: (9001, .blk o') :: m'⟩ ∧ lookO m' 9004 = some (pinL l D) ∧ lookO m' 9005 = none ∧ KN m'
 | .ret, σ => ∃ m', Wk C n σ ⟨[], (9005, pI) :: (9001, .blk o') :: m'⟩ ∧ lookO m' 9004 = some (pinL l D) ∧ lookO m' 9005 = none ∧ KX .ret m'
 | .exit id, σ => ∃ m', Wk C n σ ⟨[], (9005, pI) :: (9001, .blk o') :: m'⟩ ∧ lookO m' 9004 = some (pinL l D) ∧ lookO m' 9005 = none ∧ KX (.exit id) m'
 | _, _ => False

theorem lex_prefix {C : Ctx} {n : Nat} {w0 : World} {ops : Array Oper} {Q : Exit → Act → World → Prop} (r : Option Nat) (rest : List Nat) : ∀ (os : List Oper) (i : Nat) (S S' : SS) (es : List Eff) (H : Heap) (L : Loc) (a : Act) (w : World), (ops.toList.drop i).take os.length = os → Trace C ops S os es S' → Rep C n w0 H L S a w → (∀ o ∈ os, ∀ d, o.dst = some d → d < n) →
  (∀ a' w' H' L', Ext w0.heap.size H H' → Rep C n w0 H' L' S' a' w' → wpOpsIn (fen r) 0 C.P ops Q rest a' w') → wpOpsIn (fen r) 0 C.P ops Q (List.range' i os.length ++ rest) a w
 | [], i, S, S', es, H, L, a, w, hos, ht, hr, hd, hQ => by
  cases ht
  simp only [List.length_nil, List.range'_zero, List.nil_append]
  exact hQ a w H L (Ext.refl _ _) hr
 | o :: os, i, S, S', es, H, L, a, w, hos, ht, hr, hd, hQ => by
  cases ht with
  | cons h hf t =>
   simp only [List.length_cons, List.range'_succ, List.cons_append]
   rw [wpOpsIn_cons]
   have hi : ops[i]? = some o := by
    have := congrArg (·[0]?) hos
    simp only [List.length_cons, List.getElem?_take, List.getElem?_drop, Nat.add_zero, List.getElem?_cons_zero, Array.getElem?_toList] at this
    simpa using this
   have hos' : (ops.toList.drop (i + 1)).take os.length = os := by
    have := congrArg (List.drop 1) hos
    simpa [List.drop_take] using this
   refine h.sound hi hr (hd o (by simp)) hf (fun a' w' H' L' hx hr' => ?_) r
   exact lex_prefix r rest os (i + 1) _ S' _ H' L' a' w' hos' t hr' (fun o' ho' => hd o' (by simp [ho'])) fun a2 w2 H2 L2 hx2 hr2 => hQ a2 w2 H2 L2 (hx.trans hx2) hr2

def mark (D : Nat) : Deferred := { target := .collected D, args := #[] }
def awpT (C : Ctx) (n : Nat) (mk : List Deferred) (c : Code) (Q : List Deferred → Exit → St → Prop) (σ : St) : Prop :=
 ∀ w0 H L a w, Rep { C with marks := mk } n w0 H L σ.sem a w → c.wpIn (fen none) 0 C.P (fun e a w => ∃ mk', Post { C with marks := mk' } n w0 H (Q mk') e a w) a w
def thenKT (K : List Deferred → St → Prop) (Q : List Deferred → Exit → St → Prop) : List Deferred → Exit → St → Prop
 | mk, .normal, σ => K mk σ
 | mk, e, σ => Q mk e σ
def inBlkT (id : Nat) (Q : List Deferred → Exit → St → Prop) : List Deferred → Exit → St → Prop
 | mk, .exit i, σ => bif Nat.beq i id then Q mk .normal σ else Q mk (.exit i) σ
 | mk, e, σ => Q mk e σ
section
variable {C : Ctx} {n : Nat} {mk : List Deferred} {Q : List Deferred → Exit → St → Prop} {σ : St}
end

def jumpQ (Q : Exit → St → Prop) (σ : St) : Option Code → Prop
 | none => Q .normal σ
 | some .ret => Q .ret σ
 | some (.exit id) => Q (.exit id) σ
 | _ => False

theorem RepL.cons {H : Heap} {L : Loc} {x : AV} {v : Value} {xs : List AV} {vs : List Value} (h : RepV H x L v) (k : RepL H xs L vs) : RepL H (x :: xs) L (v :: vs) := by
 simp only [RepL]
 exact ⟨_, _, rfl, h, k⟩
def postT (C : Ctx) (fn : Func) (res : AV) : List Deferred → Exit → St → Prop
 | [], e, σ => postF C fn res e σ
 | [d], .ret, σ => ∃ vs D l, d = mark D ∧ ResOk C σ fn.results.toList vs ∧ closedL vs = true ∧ res = packR vs ∧ lookO σ.objs 9002 = some (.blk (.deferred (some []))) ∧ lookO σ.objs 9004 = some (pinL l D)
 | [d], .normal, σ => ∃ vs D l, d = mark D ∧ ResOk C σ fn.results.toList vs ∧ closedL vs = true ∧ res = packR vs ∧ lookO σ.objs 9002 = some (.blk (.deferred (some []))) ∧ lookO σ.objs 9004 = some (pinL l D)
 | _, _, _ => False
end Go.Ab

namespace Go.Ab
open Go.ChangeShapes Go.WideShapes Go.ChangeAt Go.RowKit
open Go.ChangeMaps (open_string shut_string)

section
variable {H : Type} {enc : TypeId × Value → H} {P : Program}
theorem witness_laid {C : Checked} {os : Os} {f : FuncId} {fn : Func} {s : OpenSpec} {conds : List PathCond} {apart : Bool} {laid : List (String × DataW Unit)} (args : Array Value)
  (hv : ((World.laidAll C.prog os laid).forCall (fun _ _ => 0) ⟨#[], args, []⟩).variablesZipB C.prog = true)
  (hr : (((World.laidAll C.prog os laid).forCall (fun _ _ => 0) ⟨#[], args, []⟩).heap.toList.drop C.prog.globals.size).take ((begin C.prog (fun _ _ => 0) default).world.heap.size - C.prog.globals.size) =
   (begin C.prog (fun _ _ => 0) default).world.heap.toList.drop C.prog.globals.size)
  (hok : Input.okWideB C.prog ((World.laidAll C.prog os laid).forCall (fun _ _ => 0) ⟨#[], args, []⟩) f ⟨#[], args, []⟩ = true)
  (hrow : s.preRow enc C.prog fn conds apart laid ((World.laidAll C.prog os laid).forCall (fun _ _ => 0) ⟨#[], args, []⟩).memory args) :
  ∃ (w : World) (tape : Tape) (i : Input), w.os = os ∧ (w.forCall tape i).Shaped C.prog ∧ i.vars = [] ∧ Input.okWide C.prog (w.forCall tape i) .any w.heap.size f i ∧
   s.preRow enc C.prog fn conds apart laid (w.forCall tape i).memory i.args ∧ ({} : Assume).holds C.prog (lone (Frame.enter C.prog f i.args .normal) [] (w.forCall tape i)) :=
 ⟨World.laidAll C.prog os laid, fun _ _ => 0, ⟨#[], args, []⟩, World.laidAll_os _ _ _, World.shaped_of_ZipB hv hr, (Input.okWide_of_okWideB (base := 0) hok).1, (Input.okWide_of_okWideB hok).2, hrow, by
  exact ⟨fun h => absurd h Bool.false_ne_true, fun h => absurd h Bool.false_ne_true, fun h => absurd h Bool.false_ne_true, fun d h => absurd h (by simp), fun d h => absurd h (by simp), fun h => absurd h Bool.false_ne_true⟩⟩

theorem trodAll_back (hl : laidOutB P = true) {W W' : World} (hb : Below W.heap.size W W') : ∀ (ts : List TypeId) (vs : List Value) (ds : List (DataW H)) (ps : List MemPlace), (ts.all fun t => P.readableRec t && decide (t < P.types.size)) = true →
  DataW.TrodAll enc P W 0 (fun _ => true) true ts vs ds ps → (∀ x ∈ ps, x.block < W.heap.size) → DataW.TrodAll enc P W' 0 (fun b => decide (b < W.heap.size)) true ts vs ds ps
 | [], [], [], ps, _, h, _ => h
 | t :: ts, v :: vs, d :: ds, ps, hr, h, hlt => by
  obtain ⟨p, q, h1, h2, rfl⟩ := h
  simp only [List.all_cons, Bool.and_eq_true, decide_eq_true_eq] at hr
  exact ⟨p, q, Below.trod hl hr.1.1 hr.1.2 h1 hb (fun x hx => hlt x (by simp [hx])), trodAll_back hl hb ts vs ds q (by simpa using hr.2) h2 (fun x hx => hlt x (by simp [hx])), rfl⟩
 | [], [], _ :: _, _, _, h, _ => h.elim
 | [], _ :: _, _, _, _, h, _ => by cases ‹List (DataW H)› <;> exact h.elim
 | _ :: _, [], _, _, _, h, _ => by cases ‹List (DataW H)› <;> exact h.elim
 | _ :: _, _ :: _, [], _, _, h, _ => h.elim

def memOf (W : World) : Heap := fun b => W.heap[b]?

theorem post_true {f : Func} {s : ChangeSpec} {W W' : World} {args : Array Value} {ds gs : List (DataW H)} {before : List MemPlace} {tb : TypeId} (hW : DataW.Whole enc P f.params.toList s.vars false W args.toList ds gs before)
  (hl : laidOutB P = true) (hp : (f.params.toList.all fun t => P.readableRec t && decide (t < P.types.size)) = true) (hr : f.resultTypes = #[tb]) (htb : P.underlying tb = some .bool) (hvs : s.vars = [])
  (hs : (s.fn H (ds ++ gs)).results = [.lit (.bool true)] ∧ (s.fn H (ds ++ gs)).args = ds ∧ (s.fn H (ds ++ gs)).vars = []) (bel : Below W.heap.size W W') : s.post enc P f false true false false W args (.bool true) W' := by
 have hW' := hW
 obtain ⟨p, q, hA, hV, rfl, hfz, hnd⟩ := hW
 rw [hvs] at hV
 obtain ⟨rfl, rfl⟩ := trodVars_none hV
 refine ⟨ds, [], _, [], p, [], hW', ?_, ?_, ?_, bel.frame _, fun h => by cases h⟩
 ·rw [hs.1, hr]
  exact trodAll_mk1 (shut_bool htb _)
 ·rw [hs.2.1]
  exact trodAll_back hl bel _ _ _ _ hp hA fun x hx => hW'.lt x (by simp [hx])
 ·rw [hs.2.2, hvs]
  rfl

theorem lifted_of {C : Checked} {os : Os} (started : os.Started) {f : FuncId} {fn : Func} {s : ChangeSpec} {conds : List PathCond} {laid : List (String × DataW Unit)} {F : Stop.Interp} (Cx : Ctx) (hP : Cx.P = C.prog) (own : ownKnob C.prog.godebug = none) (noInit : C.prog.inits.idxOf? f = none)
  (hfn : C.prog.funcs[f]? = some fn) (witness : ∃ (w : World) (tape : Tape) (i : Input), w.os = os ∧ (w.forCall tape i).Shaped C.prog ∧ i.vars = [] ∧ Input.okWide C.prog (w.forCall tape i) .any w.heap.size f i ∧
   (OpenSpec.ofChange s).preRow enc C.prog fn conds false laid (w.forCall tape i).memory i.args ∧ ({} : Assume).holds C.prog (lone (Frame.enter C.prog f i.args .normal) [] (w.forCall tape i)))
  {tb : TypeId} (hl : laidOutB C.prog = true) (hp : (fn.params.toList.all fun t => C.prog.readableRec t && decide (t < C.prog.types.size)) = true) (hr : fn.resultTypes = #[tb]) (htb : C.prog.underlying tb = some .bool) (hvs : s.vars = [])
  (hs : ∀ ds : List (DataW H), ds.length = fn.params.size → (s.fn H ds).results = [.lit (.bool true)] ∧ (s.fn H ds).args = ds ∧ (s.fn H ds).vars = [])
  (hG : ∀ W : World, laidMetH C.prog laid W → Cx.G (memOf W))
  (hlaw : ∀ (W : World) (base : Nat) (args : Array Value) (ds : List (DataW H)) (ps : List MemPlace), (∀ (j : Nat) t v, fn.params[j]? = some t → args[j]? = some v → Value.okWide C.prog W .any base t v) → DataW.TrodAll enc C.prog W 0 (fun _ => true) true fn.params.toList args.toList ds ps →
   (DataW.weightsEach C.prog fn.params.toList ds).all (· ≤ reachBytes) = true → ∃ xs, RepL (memOf W) xs noLoc args.toList ∧ ECalls Cx f xs (.lit (.bool true))) :
  ReturnsInHanded {} C os f .any ((OpenSpec.ofChange s).preRow enc C.prog fn conds false laid) (((OpenSpec.ofChange s).at F).post enc C.prog fn false true false false) := by
 refine returnsInHanded_of_row (C := C) (s := OpenSpec.ofChange s) own started noInit hfn witness ?_
 intro W base args ds gs before hval hW _ _ hsz hL _ _
 have hW2 : DataW.Whole enc C.prog fn.params.toList s.vars false W args.toList ds gs before := hW
 have hsz2 : (DataW.weightsEach C.prog (fn.params.toList ++ s.plain.varTypes C.prog) (ds ++ gs)).all (· ≤ reachBytes) = true := hsz
 have hW3 := hW2
 obtain ⟨p, q, hA, hV, rfl, _, _⟩ := hW2
 rw [hvs] at hV
 obtain ⟨rfl, rfl⟩ := trodVars_none hV
 have hvt : s.plain.varTypes C.prog = [] := by
  unfold ChangeSpec.plain DataSpec.varTypes
  rw [hvs]
  rfl
 rw [hvt, List.append_nil, List.append_nil] at hsz2
 obtain ⟨xs, hrep, hcall⟩ := hlaw W base args ds p hval hA hsz2
 have hc := hcall (memOf W) noLoc args.toList W (hG W hL) (fun b o h => h) hrep
 rw [hP] at hc
 refine Calls.mono hc ?_
 rintro e W' ⟨H', v, rfl, hv, _, _, bel⟩
 simp only [RepV] at hv
 subst hv
 refine ⟨.bool true, rfl, ?_⟩
 have hlen : ds.length = fn.params.size := by
  have : ∀ (ts : List TypeId) (vs : List Value) (ds : List (DataW H)) (ps : List MemPlace), DataW.TrodAll enc C.prog W 0 (fun _ => true) true ts vs ds ps → ds.length = ts.length := by
   intro ts
   induction ts with
   | nil => intro vs ds ps h; cases vs <;> cases ds <;> first | rfl | exact h.elim
   | cons t ts ih =>
    intro vs ds ps h
    cases vs with
    | nil => cases ds <;> exact h.elim
    | cons v vs =>
     cases ds with
     | nil => exact h.elim
     | cons d ds =>
      obtain ⟨p, q, _, h2, _⟩ := h
      simp [ih vs ds q h2]
  simpa using this _ _ _ _ hA
 exact post_true hW3 hl hp hr htb hvs (by rw [List.append_nil]; exact hs ds hlen) bel.low
end
end Go.Ab

namespace Go.Proofs.Ytaeknciienkijaa
open Go Go.Ab Go.Mth Go.ChangeShapes Go.WideShapes Go.ChangeAt Go.RowKit
open Go.ChangeMaps (open_string shut_string)
theorem ownT : ownKnob Try.prog.godebug = none := by kernel_rfl
theorem laidOutT : laidOutB Try.prog = true := by kernel_rfl
theorem u3T : Try.prog.underlying 3 = some (.int .i64) := by kernel_rfl
theorem u9T : Try.prog.underlying 9 = some .string := by kernel_rfl
theorem u4T : Try.prog.underlying 4 = some .bool := by kernel_rfl
set_option maxRecDepth 100000 in
theorem rep_str {H : Type} {enc : TypeId × Value → H} {W : World} {base : Nat} {v : Value} {d : DataW H} {p : List MemPlace} (hv : Value.okWide Try.prog W .any base 9 v) (h : DataW.Trod enc Try.prog W 0 (fun _ => true) true 9 v d p) :
  ∃ a : ByteArray, RepV (memOf W) (.lit (.string a)) noLoc v ∧ a.size ≤ 9223372036854775807 := by
 obtain ⟨a, rfl, _, _, ha⟩ := open_string u9T hv h
 refine ⟨a, by simp only [RepV], Nat.le_trans ha ?_⟩
 simp [maxLen]
set_option maxRecDepth 100000 in
theorem rep_int {H : Type} {enc : TypeId × Value → H} {W : World} {base : Nat} {v : Value} {d : DataW H} {p : List MemPlace} (hv : Value.okWide Try.prog W .any base 3 v) (h : DataW.Trod enc Try.prog W 0 (fun _ => true) true 3 v d p) :
  ∃ z : Int, RepV (memOf W) (.lit (.int .i64 z)) noLoc v ∧ -9223372036854775808 ≤ z ∧ z ≤ 9223372036854775807 := by
 obtain ⟨z, rfl, _, _, hz⟩ := open_int u3T hv h
 refine ⟨z, by simp only [RepV], ?_⟩
 simp only [Lit.wf, Bool.and_eq_true, decide_eq_true_eq] at hz
 exact hz
theorem uArr2 : Try.prog.underlying 22 = some (.array 2 3) := by kernel_rfl
theorem cArr2 : Try.prog.cellsOf 22 = 2 := by kernel_rfl
theorem cInt1 : Try.prog.cellsOf 3 = 1 := by kernel_rfl
set_option maxRecDepth 100000 in
theorem rep_pair {H : Type} {enc : TypeId × Value → H} {W : World} {base : Nat} {v : Value} {d : DataW H} {p : List MemPlace} (hv : Value.okWide Try.prog W .any base 22 v) (h : DataW.Trod enc Try.prog W 0 (fun _ => true) true 22 v d p) :
  ∃ a b : Int, RepV (memOf W) (.agg [.lit (.int .i64 a), .lit (.int .i64 b)]) noLoc v := by
 simp only [Value.okWide, uArr2] at hv
 obtain ⟨cs, rfl, hc, _⟩ := hv
 obtain ⟨fuel, hf⟩ := h
 obtain ⟨xs, m, _, _, hl, hn, hi⟩ := DataW.trod_array uArr2 hf
 rw [cArr2] at hc
 obtain ⟨l⟩ := cs
 match l, hc with
 | [c0, c1], _ =>
  match xs, hn with
  | [x0, x1], _ =>
   have h0 := hi 0 (by decide)
   have h1 := hi 1 (by decide)
   simp only [cInt1, Value.cells, Nat.zero_mul, Nat.one_mul, List.drop_zero, List.drop_succ_cons, List.take_succ_cons, List.take_zero, List.getElem?_cons_zero, List.getElem?_cons_succ] at h0 h1
   obtain ⟨s0, e0, _, z0⟩ := DataW.trod_int u3T h0
   obtain ⟨s1, e1, _, z1⟩ := DataW.trod_int u3T h1
   simp only [List.cons.injEq, and_true] at e0 e1
   subst e0 e1
   refine ⟨s0, s1, ?_⟩
   simp only [RepV]
   refine ⟨[.int .i64 s0, .int .i64 s1], rfl, RepL.cons (by simp only [RepV]) (RepL.cons (by simp only [RepV]) (by simp only [RepL])), ?_⟩
   intro u hu
   simp only [List.mem_cons, List.not_mem_nil, or_false] at hu
   rcases hu with rfl | rfl <;> rfl
end Go.Proofs.Ytaeknciienkijaa

namespace Go.Mw
def val : List Nat → Nat
 | [] => 0
 | x :: xs => x + 18446744073709551616 * val xs
def Dig (xs : List Nat) : Prop := ∀ x ∈ xs, x < 18446744073709551616
def digs (n : Nat) : List Nat := if h : n = 0 then [] else n % 18446744073709551616 :: digs (n / 18446744073709551616)
termination_by n
decreasing_by omega
def dgn : Nat → Nat → List Nat
 | 0, _ => []
 | k + 1, n => n % 18446744073709551616 :: dgn k (n / 18446744073709551616)
def sgn (z : Int) : Int := if z = 0 then 0 else if z < 0 then -1 else 1
def cmpN (a b : Nat) : Int := if a < b then -1 else if b < a then 1 else 0

theorem Dig.nil : Dig [] := fun x h => by cases h
theorem Dig.cons {x : Nat} {xs : List Nat} (h : x < 18446744073709551616) (t : Dig xs) : Dig (x :: xs) := fun y hy => by
 rcases List.mem_cons.1 hy with e | e
 ·omega
 ·exact t y e
theorem Dig.head {x : Nat} {xs : List Nat} (h : Dig (x :: xs)) : x < 18446744073709551616 := h x (by simp)
theorem Dig.tail {x : Nat} {xs : List Nat} (h : Dig (x :: xs)) : Dig xs := fun y hy => h y (by simp [hy])
theorem Dig.getD {xs : List Nat} (h : Dig xs) (i : Nat) : xs.getD i 0 < 18446744073709551616 := by
 by_cases hi : i < xs.length
 ·rw [List.getD_eq_getElem?_getD, List.getElem?_eq_getElem hi]; exact h _ (List.getElem_mem hi)
 ·rw [List.getD_eq_getElem?_getD, List.getElem?_eq_none (by omega)]; decide
theorem Dig.app {xs ys : List Nat} (h : Dig xs) (k : Dig ys) : Dig (xs ++ ys) := fun x hx => by
 rcases List.mem_append.1 hx with e | e
 ·exact h x e
 ·exact k x e
theorem Dig.snoc {xs : List Nat} {x : Nat} (h : Dig xs) (k : x < 18446744073709551616) : Dig (xs ++ [x]) := h.app (Dig.nil.cons k)
theorem Dig.take {xs : List Nat} (h : Dig xs) (n : Nat) : Dig (xs.take n) := fun x hx => h x (List.mem_of_mem_take hx)
theorem Dig.set {xs : List Nat} (h : Dig xs) {i x : Nat} (k : x < 18446744073709551616) : Dig (xs.set i x) := fun y hy => by
 rcases List.mem_or_eq_of_mem_set hy with e | e
 ·exact h y e
 ·omega
theorem dgn_dig : ∀ (k n : Nat), Dig (dgn k n)
 | 0, _ => Dig.nil
 | k + 1, n => (dgn_dig k _).cons (Nat.mod_lt _ (by decide))
theorem val_dgn : ∀ (k n : Nat), val (dgn k n) = n % 18446744073709551616 ^ k
 | 0, n => by simp [dgn, val, Nat.mod_one]
 | k + 1, n => by
  rw [dgn, val, val_dgn k, Nat.pow_succ, Nat.mul_comm (18446744073709551616 ^ k), Nat.mod_mul]
theorem val_lt : ∀ {xs : List Nat}, Dig xs → val xs < 18446744073709551616 ^ xs.length
 | [], _ => by simp [val]
 | x :: xs, h => by
  have := val_lt h.tail
  have h1 := h.head
  simp only [val, List.length_cons, Nat.pow_succ]
  omega
theorem eq_dgn : ∀ {xs : List Nat}, Dig xs → xs = dgn xs.length (val xs)
 | [], _ => rfl
 | x :: xs, h => by
  have h1 := h.head
  simp only [List.length_cons, dgn, val]
  rw [show (x + 18446744073709551616 * val xs) % 18446744073709551616 = x by omega, show (x + 18446744073709551616 * val xs) / 18446744073709551616 = val xs by omega, ← eq_dgn h.tail]
theorem val_app : ∀ (xs ys : List Nat), val (xs ++ ys) = val xs + 18446744073709551616 ^ xs.length * val ys
 | [], ys => by simp [val]
 | x :: xs, ys => by
  simp only [List.cons_append, val, val_app xs ys, List.length_cons, Nat.pow_succ, Nat.mul_add]
  rw [Nat.mul_comm (18446744073709551616 ^ xs.length) 18446744073709551616, Nat.mul_assoc]
  omega
theorem val_snoc (xs : List Nat) (x : Nat) : val (xs ++ [x]) = val xs + 18446744073709551616 ^ xs.length * x := by rw [val_app]; simp [val]
theorem digs_zero : digs 0 = [] := by rw [digs]; simp
theorem digs_pos {n : Nat} (h : 0 < n) : digs n = n % 18446744073709551616 :: digs (n / 18446744073709551616) := by rw [digs]; simp [Nat.ne_of_gt h]
theorem digs_dig (n : Nat) : Dig (digs n) := by
 induction n using Nat.strongRecOn with
 | _ n ih =>
  by_cases h : n = 0
  ·subst h; rw [digs_zero]; exact Dig.nil
  ·rw [digs_pos (by omega)]; exact (ih (n / 18446744073709551616) (by omega)).cons (Nat.mod_lt _ (by decide))
theorem val_digs (n : Nat) : val (digs n) = n := by
 induction n using Nat.strongRecOn with
 | _ n ih =>
  by_cases h : n = 0
  ·subst h; rw [digs_zero]; rfl
  ·rw [digs_pos (by omega), val, ih (n / 18446744073709551616) (by omega)]; omega
theorem digs_len_zero {n : Nat} : (digs n).length = 0 ↔ n = 0 := by
 constructor
 ·intro h
  have := List.eq_nil_of_length_eq_zero h
  have h2 := val_digs n
  rw [this] at h2
  exact h2.symm
 ·intro h; subst h; rw [digs_zero]; rfl
def Trim (xs : List Nat) : Prop := ∀ h : xs ≠ [], xs.getLast h ≠ 0
theorem val_pos_of_trim : ∀ {xs : List Nat}, xs ≠ [] → Trim xs → 0 < val xs
 | [], h, _ => absurd rfl h
 | [x], _, t => by have := t (by simp); simp at this; simp [val]; omega
 | x :: y :: xs, _, t => by
  have := val_pos_of_trim (xs := y :: xs) (by simp) (fun h => by have := t (by simp); simpa using this)
  simp only [val] at this ⊢
  omega
theorem eq_digs : ∀ {xs : List Nat}, Dig xs → Trim xs → xs = digs (val xs)
 | [], _, _ => by simp [val, digs_zero]
 | x :: xs, h, t => by
  have h1 := h.head
  have tt : Trim xs := fun hx => by have := t (by simp); simpa [List.getLast_cons hx] using this
  have hp := val_pos_of_trim (xs := x :: xs) (by simp) t
  rw [digs_pos hp]
  simp only [val]
  rw [show (x + 18446744073709551616 * val xs) % 18446744073709551616 = x by omega, show (x + 18446744073709551616 * val xs) / 18446744073709551616 = val xs by omega, ← eq_digs h.tail tt]
theorem digs_trim (n : Nat) : Trim (digs n) := by
 induction n using Nat.strongRecOn with
 | _ n ih =>
  intro h
  by_cases hn : n = 0
  ·subst hn; rw [digs_zero] at h; exact absurd rfl h
  ·have hd := digs_pos (n := n) (by omega)
   have hlt := ih (n / 18446744073709551616) (by omega)
   by_cases h2 : digs (n / 18446744073709551616) = []
   ·have h3 : n / 18446744073709551616 = 0 := digs_len_zero.1 (by rw [h2]; rfl)
    simp only [hd, h2, List.getLast_singleton]
    omega
   ·simp only [hd, List.getLast_cons h2]
    exact hlt h2
theorem take_getD_zero {xs : List Nat} {n : Nat} (hn : 0 < n) (hl : n ≤ xs.length) (h : xs.getD (n - 1) 0 = 0) : val (xs.take n) = val (xs.take (n - 1)) := by
 have e : xs.take n = xs.take (n - 1) ++ [xs.getD (n - 1) 0] := by
  rw [show n = (n - 1) + 1 by omega, List.take_add_one]
  rw [List.getD_eq_getElem?_getD, Nat.add_sub_cancel, List.getElem?_eq_getElem (by omega)]
  rfl
 rw [e, val_snoc, h]; simp
theorem trim_digs {xs : List Nat} (hd : Dig xs) {n : Nat} (hl : n ≤ xs.length) (hv : val (xs.take n) = val xs) (h : n = 0 ∨ xs.getD (n - 1) 0 ≠ 0) : xs.take n = digs (val xs) := by
 rw [← hv]
 refine eq_digs (hd.take n) fun hne => ?_
 rcases h with h | h
 ·subst h; simp at hne
 ·have hlen : (xs.take n).length = n := by simp; omega
  have hn : 0 < n := by
   cases n with
   | zero => simp at hne
   | succ n => omega
  rw [List.getLast_eq_getElem]
  simp only [List.getElem_take, hlen]
  rw [List.getD_eq_getElem?_getD, List.getElem?_eq_getElem (by omega)] at h
  simpa using h

theorem val_take_succ (xs : List Nat) (j : Nat) : val (xs.take (j + 1)) = val (xs.take j) + 18446744073709551616 ^ j * xs.getD j 0 := by
 by_cases h : j < xs.length
 ·have e : xs.take (j + 1) = xs.take j ++ [xs.getD j 0] := by
   rw [List.take_add_one, List.getD_eq_getElem?_getD, List.getElem?_eq_getElem h]; rfl
  rw [e, val_snoc, List.length_take, Nat.min_eq_left (by omega)]
 ·rw [List.take_of_length_le (by omega), List.take_of_length_le (by omega), List.getD_eq_getElem?_getD, List.getElem?_eq_none (by omega)]; simp
theorem val_split (xs : List Nat) {j : Nat} (h : j ≤ xs.length) : val xs = val (xs.take j) + 18446744073709551616 ^ j * val (xs.drop j) := by
 have := val_app (xs.take j) (xs.drop j)
 rw [List.take_append_drop, List.length_take, Nat.min_eq_left h] at this
 exact this
theorem val_take_all {xs : List Nat} {j : Nat} (h : xs.length ≤ j) : val (xs.take j) = val xs := by rw [List.take_of_length_le h]
theorem val_drop_succ {xs : List Nat} {j : Nat} (h : j < xs.length) : val (xs.drop j) = xs.getD j 0 + 18446744073709551616 * val (xs.drop (j + 1)) := by
 rw [List.drop_eq_getElem_cons h, val, List.getD_eq_getElem?_getD, List.getElem?_eq_getElem h]; rfl
theorem val_drop_all {xs : List Nat} {j : Nat} (h : xs.length ≤ j) : val (xs.drop j) = 0 := by rw [List.drop_of_length_le h]; rfl
theorem cmp_lt {a b : List Nat} (ha : Dig a) {j : Nat} (hja : j < a.length) (hjb : j < b.length) (hd : val (a.drop (j + 1)) = val (b.drop (j + 1))) (h : a.getD j 0 < b.getD j 0) : val a < val b := by
 rw [val_split a (j := j) (by omega), val_split b (j := j) (by omega), val_drop_succ hja, val_drop_succ hjb, hd]
 have h1 := val_lt (ha.take j)
 rw [List.length_take, Nat.min_eq_left (by omega)] at h1
 have h2 : 18446744073709551616 ^ j * (a.getD j 0 + 1 + 18446744073709551616 * val (b.drop (j + 1))) ≤ 18446744073709551616 ^ j * (b.getD j 0 + 18446744073709551616 * val (b.drop (j + 1))) := Nat.mul_le_mul_left _ (by omega)
 have h3 : 18446744073709551616 ^ j * (a.getD j 0 + 1 + 18446744073709551616 * val (b.drop (j + 1))) = 18446744073709551616 ^ j * (a.getD j 0 + 18446744073709551616 * val (b.drop (j + 1))) + 18446744073709551616 ^ j := by
  rw [show a.getD j 0 + 1 + 18446744073709551616 * val (b.drop (j + 1)) = (a.getD j 0 + 18446744073709551616 * val (b.drop (j + 1))) + 1 by omega, Nat.mul_add, Nat.mul_one]
 omega
theorem digs_lo (n : Nat) (h : 0 < n) : 18446744073709551616 ^ ((digs n).length - 1) ≤ n := by
 induction n using Nat.strongRecOn with
 | _ n ih =>
  rw [digs_pos h]
  simp only [List.length_cons, Nat.add_sub_cancel]
  by_cases h2 : n / 18446744073709551616 = 0
  ·rw [h2, digs_zero]; simp; omega
  ·have h3 := ih (n / 18446744073709551616) (by omega) (by omega)
   have hl : 0 < (digs (n / 18446744073709551616)).length := by
    rcases Nat.eq_zero_or_pos (digs (n / 18446744073709551616)).length with e | e
    ·exact absurd (digs_len_zero.1 e) h2
    ·exact e
   have e : 18446744073709551616 ^ (digs (n / 18446744073709551616)).length = 18446744073709551616 ^ ((digs (n / 18446744073709551616)).length - 1) * 18446744073709551616 := by
    rw [← Nat.pow_succ]; congr 1; omega
   rw [e]
   omega
theorem digs_hi (n : Nat) : n < 18446744073709551616 ^ (digs n).length := by
 have := val_lt (digs_dig n)
 rwa [val_digs] at this
theorem digs_len_lt {m n : Nat} (h : (digs m).length < (digs n).length) : m < n := by
 have h1 := digs_hi m
 have hn : 0 < n := by
  rcases Nat.eq_zero_or_pos n with e | e
  ·subst e; rw [digs_zero] at h; simp at h
  ·exact e
 have h2 := digs_lo n hn
 have h3 : 18446744073709551616 ^ (digs m).length ≤ 18446744073709551616 ^ ((digs n).length - 1) := Nat.pow_le_pow_right (by decide) (by omega)
 omega
theorem digs_len_le {m n : Nat} (h : m ≤ n) : (digs m).length ≤ (digs n).length := by
 rcases Nat.lt_or_ge (digs n).length (digs m).length with e | e
 ·have := digs_len_lt e; omega
 ·exact e
theorem digs_len_of_lt {n k : Nat} (h : n < 18446744073709551616 ^ k) : (digs n).length ≤ k := by
 by_cases hn : n = 0
 ·subst hn; rw [digs_zero]; simp
 ·have h1 := digs_lo n (by omega)
  rcases Nat.lt_or_ge k (digs n).length with e | e
  ·have : 18446744073709551616 ^ k ≤ 18446744073709551616 ^ ((digs n).length - 1) := Nat.pow_le_pow_right (by decide) (by omega)
   omega
  ·exact e
theorem cmpN_len {m n : Nat} (h : (digs m).length ≠ (digs n).length) : cmpN m n = if (digs m).length < (digs n).length then -1 else 1 := by
 unfold cmpN
 by_cases h1 : (digs m).length < (digs n).length
 ·rw [if_pos h1, if_pos (digs_len_lt h1)]
 ·have := digs_len_lt (m := n) (n := m) (by omega)
  rw [if_neg h1, if_neg (by omega), if_pos this]
theorem cmpN_lt {m n j : Nat} (h1 : j < (digs m).length) (h2 : (digs m).length = (digs n).length) (hd : val ((digs m).drop (j + 1)) = val ((digs n).drop (j + 1))) (h : (digs m).getD j 0 < (digs n).getD j 0) : cmpN m n = -1 := by
 have := cmp_lt (digs_dig m) h1 (by omega) hd h
 rw [val_digs, val_digs] at this
 unfold cmpN
 rw [if_pos this]
theorem cmpN_gt {m n j : Nat} (h1 : j < (digs m).length) (h2 : (digs m).length = (digs n).length) (hd : val ((digs m).drop (j + 1)) = val ((digs n).drop (j + 1))) (h : (digs n).getD j 0 < (digs m).getD j 0) : cmpN m n = 1 := by
 have := cmp_lt (digs_dig n) (by omega) h1 hd.symm h
 rw [val_digs, val_digs] at this
 unfold cmpN
 rw [if_neg (by omega), if_pos this]
theorem cmpN_eq {m n : Nat} (h : val ((digs m).drop 0) = val ((digs n).drop 0)) : cmpN m n = 0 := by
 simp only [List.drop_zero, val_digs] at h
 subst h
 simp [cmpN]
theorem carry (i s : Nat) : 18446744073709551616 ^ i * (s % 18446744073709551616) + 18446744073709551616 ^ (i + 1) * (s / 18446744073709551616) = 18446744073709551616 ^ i * s := by
 rw [Nat.pow_succ, Nat.mul_assoc, ← Nat.mul_add, Nat.mod_add_div]
theorem add_step {r a b : List Nat} {i c s : Nat} (hl : r.length = i) (hv : val r + 18446744073709551616 ^ i * c = val (a.take i) + val (b.take i)) (hs : s = a.getD i 0 + b.getD i 0 + c) :
  val (r ++ [s % 18446744073709551616]) + 18446744073709551616 ^ (i + 1) * (s / 18446744073709551616) = val (a.take (i + 1)) + val (b.take (i + 1)) := by
 rw [val_snoc, hl, Nat.add_assoc, carry, val_take_succ, val_take_succ, hs, Nat.mul_add, Nat.mul_add]
 omega
def moreN (m n : Nat) : Nat := if m + n < 18446744073709551616 ^ max (digs m).length (digs n).length then max (digs m).length (digs n).length else max (digs m).length (digs n).length + 1
theorem val_more (m n : Nat) : val (dgn (moreN m n) (m + n)) = m + n := by
 rw [val_dgn, Nat.mod_eq_of_lt]
 have h1 := digs_hi m
 have h2 := digs_hi n
 have h3 : 18446744073709551616 ^ (digs m).length ≤ 18446744073709551616 ^ max (digs m).length (digs n).length := Nat.pow_le_pow_right (by decide) (by omega)
 have h4 : 18446744073709551616 ^ (digs n).length ≤ 18446744073709551616 ^ max (digs m).length (digs n).length := Nat.pow_le_pow_right (by decide) (by omega)
 unfold moreN
 split
 ·assumption
 ·rw [Nat.pow_succ]; omega
theorem val_minus (m n : Nat) : val (dgn (digs m).length (m - n)) = m - n := by
 rw [val_dgn, Nat.mod_eq_of_lt]
 have := digs_hi m
 omega
theorem more_fin {r : List Nat} {m n i : Nat} (hl : r.length = i) (hd : Dig r) (h1 : (digs m).length ≤ i) (h2 : (digs n).length ≤ i) (hv : val r + 18446744073709551616 ^ i * 0 = val ((digs m).take i) + val ((digs n).take i)) (hi : i ≤ max (digs m).length (digs n).length ∨ (i = max (digs m).length (digs n).length + 1 ∧ 18446744073709551616 ^ max (digs m).length (digs n).length ≤ m + n)) : r = dgn (moreN m n) (m + n) := by
 rw [val_take_all h1, val_take_all h2, val_digs, val_digs, Nat.mul_zero, Nat.add_zero] at hv
 have e := eq_dgn hd
 rw [hl, hv] at e
 have hlt := val_lt hd
 rw [hl, hv] at hlt
 rw [e]
 congr 1
 unfold moreN
 rcases hi with h | ⟨h, h'⟩
 ·have : i = max (digs m).length (digs n).length := by omega
  rw [← this, if_pos hlt]
 ·rw [if_neg (by omega), h]
theorem sub_step {r a b : List Nat} {i c x c' : Nat} (hl : r.length = i) (hv : val r + val (b.take i) = val (a.take i) + 18446744073709551616 ^ i * c) (hs : x + b.getD i 0 + c = a.getD i 0 + 18446744073709551616 * c') :
  val (r ++ [x]) + val (b.take (i + 1)) = val (a.take (i + 1)) + 18446744073709551616 ^ (i + 1) * c' := by
 have h := congrArg (fun t => 18446744073709551616 ^ i * t) hs
 simp only [Nat.mul_add] at h
 rw [val_snoc, hl, val_take_succ, val_take_succ, Nat.pow_succ, Nat.mul_assoc]
 omega
theorem less_fin {r : List Nat} {m n c : Nat} (hl : r.length = (digs m).length) (hd : Dig r) (hnm : n ≤ m) (hv : val r + val ((digs n).take (digs m).length) = val ((digs m).take (digs m).length) + 18446744073709551616 ^ (digs m).length * c) : r = dgn (digs m).length (m - n) := by
 have hle := digs_len_le hnm
 rw [val_take_all hle, val_take_all (Nat.le_refl _), val_digs, val_digs] at hv
 have e := eq_dgn hd
 have hlt := val_lt hd
 rw [hl] at e hlt
 have hm := digs_hi m
 have hc : c = 0 := by
  rcases Nat.eq_zero_or_pos c with h | h
  ·exact h
  ·have : 18446744073709551616 ^ (digs m).length * 1 ≤ 18446744073709551616 ^ (digs m).length * c := Nat.mul_le_mul_left _ h
   omega
 subst hc
 rw [e]
 congr 1
 omega
theorem getD_ge {xs : List Nat} {i : Nat} (h : xs.length ≤ i) : xs.getD i 0 = 0 := by rw [List.getD_eq_getElem?_getD, List.getElem?_eq_none h]; rfl
def cmpZ (x y : Int) : Int := if x < y then -1 else if y < x then 1 else 0
theorem cmpN_ge {m n : Nat} (h : (0 : Int) ≤ cmpN m n) : n ≤ m := by unfold cmpN at h; split at h <;> omega
theorem cmpN_ng {m n : Nat} (h : ¬ (0 : Int) ≤ cmpN m n) : m ≤ n := by unfold cmpN at h; split at h <;> omega
theorem cmpZ_neg {x y : Int} (hx : x < 0) (h : sgn x = sgn y) : cmpZ x y = cmpN y.natAbs x.natAbs := by
 unfold sgn at h; unfold cmpZ cmpN
 repeat' split at h
 all_goals (repeat' split)
 all_goals omega
theorem cmpZ_pos {x y : Int} (hx : ¬ x < 0) (h : sgn x = sgn y) : cmpZ x y = cmpN x.natAbs y.natAbs := by
 unfold sgn at h; unfold cmpZ cmpN
 repeat' split at h
 all_goals (repeat' split)
 all_goals omega
theorem cmpZ_sgn_lt {x y : Int} (h : sgn x < sgn y) : cmpZ x y = -1 := by
 unfold sgn at h; unfold cmpZ
 repeat' split at h
 all_goals (repeat' split)
 all_goals omega
theorem cmpZ_sgn_gt {x y : Int} (h : sgn x ≠ sgn y) (h2 : ¬ sgn x < sgn y) : cmpZ x y = 1 := by
 unfold sgn at h h2; unfold cmpZ
 repeat' split at h
 all_goals (repeat' split)
 all_goals (repeat' split at h2)
 all_goals omega
theorem more_hi {m n i c : Nat} {r : List Nat} (hc : c ≤ 1) (hv : val r + 18446744073709551616 ^ i * c = val ((digs m).take i) + val ((digs n).take i)) (hi : i ≤ max (digs m).length (digs n).length ∨ (i = max (digs m).length (digs n).length + 1 ∧ c = 0 ∧ 18446744073709551616 ^ (max (digs m).length (digs n).length) ≤ m + n)) (hg : i < (digs m).length ∨ i < (digs n).length ∨ 0 < c) :
  i + 1 ≤ max (digs m).length (digs n).length ∨ (i + 1 = max (digs m).length (digs n).length + 1 ∧ ((digs m).getD i 0 + (digs n).getD i 0 + c) / 18446744073709551616 = 0 ∧ 18446744073709551616 ^ (max (digs m).length (digs n).length) ≤ m + n) := by
 by_cases hk : i + 1 ≤ max (digs m).length (digs n).length
 ·exact Or.inl hk
 ·refine Or.inr ⟨by omega, ?_, ?_⟩
  ·rw [getD_ge (xs := digs m) (by omega), getD_ge (xs := digs n) (by omega)]; omega
  ·have hik : i = max (digs m).length (digs n).length := by omega
   have hc1 : c = 1 := by omega
   rw [val_take_all (xs := digs m) (by omega), val_take_all (xs := digs n) (by omega), val_digs, val_digs, hc1] at hv
   rw [← hik]; omega
theorem val_set : ∀ {xs : List Nat} {i : Nat} (v : Nat), i < xs.length → val (xs.set i v) + 18446744073709551616 ^ i * xs.getD i 0 = val xs + 18446744073709551616 ^ i * v
 | [], i, v, h => by simp at h
 | x :: xs, 0, v, h => by simp [val]; omega
 | x :: xs, i + 1, v, h => by
  have ih := val_set (xs := xs) (i := i) v (by simpa using h)
  have e : (x :: xs).getD (i + 1) 0 = xs.getD i 0 := by simp [List.getD]
  rw [List.set_cons_succ, val, val, e, Nat.pow_succ, Nat.mul_comm (18446744073709551616 ^ i) 18446744073709551616, Nat.mul_assoc, Nat.mul_assoc]
  omega
theorem Dig.mulb {a b : List Nat} (ha : Dig a) (hb : Dig b) (i k : Nat) : a.getD i 0 * b.getD k 0 ≤ 340282366920938463426481119284349108225 := by
 have h1 := ha.getD i
 have h2 := hb.getD k
 have := Nat.mul_le_mul (show a.getD i 0 ≤ 18446744073709551615 by omega) (show b.getD k 0 ≤ 18446744073709551615 by omega)
 omega
theorem mul_step {o b : List Nat} {i k c x ai P : Nat} (hk : i + k < o.length) (hv : val o + 18446744073709551616 ^ (i + k) * c = P + 18446744073709551616 ^ i * (ai * val (b.take k))) (hx : x = o.getD (i + k) 0 + ai * b.getD k 0 + c) :
  val (o.set (i + k) (x % 18446744073709551616)) + 18446744073709551616 ^ (i + (k + 1)) * (x / 18446744073709551616) = P + 18446744073709551616 ^ i * (ai * val (b.take (k + 1))) := by
 have h1 := val_set (x % 18446744073709551616) hk
 have h2 := carry (i + k) x
 have e : 18446744073709551616 ^ (i + k) * x = 18446744073709551616 ^ (i + k) * o.getD (i + k) 0 + 18446744073709551616 ^ (i + k) * (ai * b.getD k 0) + 18446744073709551616 ^ (i + k) * c := by rw [hx, Nat.mul_add, Nat.mul_add]
 rw [val_take_succ, Nat.mul_add, Nat.mul_add]
 have e2 : 18446744073709551616 ^ i * (ai * (18446744073709551616 ^ k * b.getD k 0)) = 18446744073709551616 ^ (i + k) * (ai * b.getD k 0) := by
  rw [Nat.pow_add, Nat.mul_left_comm ai, Nat.mul_assoc]
 rw [e2, show i + (k + 1) = i + k + 1 by omega]
 omega
theorem val_take_le (xs : List Nat) (k : Nat) : val (xs.take k) ≤ val xs := by
 by_cases h : k ≤ xs.length
 ·rw [val_split xs h]; omega
 ·rw [val_take_all (by omega)]; omega
theorem mul_k {o : List Nat} {m n i k c : Nat} (hv : val o + 18446744073709551616 ^ (i + k) * c = val ((digs m).take i) * n + 18446744073709551616 ^ i * ((digs m).getD i 0 * val ((digs n).take k))) (hc : 0 < c) : k ≤ (digs n).length := by
 have h1 : val ((digs m).take (i + 1)) < 18446744073709551616 ^ (i + 1) := by
  have h := val_lt ((digs_dig m).take (i + 1))
  have h2 : 18446744073709551616 ^ ((digs m).take (i + 1)).length ≤ 18446744073709551616 ^ (i + 1) := Nat.pow_le_pow_right (by decide) (by simp; omega)
  omega
 have h2 := digs_hi n
 have h3 : val ((digs n).take k) ≤ n := by have := val_take_le (digs n) k; rwa [val_digs] at this
 have h4 : 18446744073709551616 ^ i * ((digs m).getD i 0 * val ((digs n).take k)) ≤ 18446744073709551616 ^ i * ((digs m).getD i 0 * n) := Nat.mul_le_mul_left _ (Nat.mul_le_mul_left _ h3)
 have h5 : val ((digs m).take i) * n + 18446744073709551616 ^ i * ((digs m).getD i 0 * n) = val ((digs m).take (i + 1)) * n := by rw [val_take_succ, Nat.add_mul, Nat.mul_assoc]
 have h6 : 18446744073709551616 ^ (i + k) * 1 ≤ 18446744073709551616 ^ (i + k) * c := Nat.mul_le_mul_left _ hc
 have h7 : val ((digs m).take (i + 1)) * n < 18446744073709551616 ^ (i + 1) * 18446744073709551616 ^ (digs n).length := Nat.mul_lt_mul'' h1 h2
 rw [← Nat.pow_add] at h7
 rcases Nat.lt_or_ge (digs n).length k with h | h
 ·have : 18446744073709551616 ^ (i + 1 + (digs n).length) ≤ 18446744073709551616 ^ (i + k) := Nat.pow_le_pow_right (by decide) (by omega)
  omega
 ·exact h
theorem mul_end {o : List Nat} {m n i k : Nat} (hk : (digs n).length ≤ k) (hv : val o + 18446744073709551616 ^ (i + k) * 0 = val ((digs m).take i) * n + 18446744073709551616 ^ i * ((digs m).getD i 0 * val ((digs n).take k))) : val o = val ((digs m).take (i + 1)) * n := by
 rw [val_take_all hk, val_digs] at hv
 rw [val_take_succ, Nat.add_mul, Nat.mul_assoc]
 omega
theorem val_repl (k : Nat) : val (List.replicate k 0) = 0 := by
 induction k with
 | zero => rfl
 | succ k ih => rw [List.replicate_succ, val, ih]
theorem Dig.repl (k : Nat) : Dig (List.replicate k 0) := fun x hx => by rw [List.eq_of_mem_replicate hx]; decide
theorem of_step {r : List Nat} {x n : Nat} (h : r ++ digs x = digs n) (hx : 0 < x) : (r ++ [x % 18446744073709551616]) ++ digs (x / 18446744073709551616) = digs n := by
 rw [← h, digs_pos hx]; simp
theorem of_end {r : List Nat} {x n : Nat} (h : r ++ digs x = digs n) (hx : ¬ 0 < x) : r = digs n := by
 rw [← h, show x = 0 by omega, digs_zero]; simp
theorem digs_len_small {n : Nat} (h : n < 6277101735386680763835789423207666416102355444464034512896) : (digs n).length ≤ 3 := digs_len_of_lt (by simpa using h)
theorem of_len {r : List Nat} {x n : Nat} (h : r ++ digs x = digs n) (hx : 0 < x) (hn : n < 6277101735386680763835789423207666416102355444464034512896) : r.length + 1 ≤ 3 := by
 have h1 := congrArg List.length h
 have h2 := digs_len_small hn
 have h3 : (digs x).length ≠ 0 := fun e => by have := digs_len_zero.1 e; omega
 simp at h1; omega
theorem drop_set_succ {xs : List Nat} {j v : Nat} : (xs.set j v).drop (j + 1) = xs.drop (j + 1) := by
 rw [List.drop_set]; simp
theorem drop_set_at {xs : List Nat} {j v : Nat} (h : j < xs.length) : val ((xs.set j v).drop j) = v + 18446744073709551616 * val (xs.drop (j + 1)) := by
 rw [val_drop_succ (by simpa using h), drop_set_succ]
 congr 1
 rw [List.getD_eq_getElem?_getD, List.getElem?_set]; simp [h]
theorem div_step {a o : List Nat} {j d r x : Nat} (hj : j < a.length) (hl : o.length = a.length) (hd : 0 < d) (hv : val (a.drop (j + 1)) = d * val (o.drop (j + 1)) + r) (hx : x = r * 18446744073709551616 + a.getD j 0) :
  val (a.drop j) = d * val ((o.set j (x / d)).drop j) + x % d := by
 rw [val_drop_succ hj, drop_set_at (by omega), hv, Nat.mul_add d]
 have := Nat.div_add_mod x d
 have e : 18446744073709551616 * (d * val (o.drop (j + 1)) + r) = d * (18446744073709551616 * val (o.drop (j + 1))) + r * 18446744073709551616 := by rw [Nat.mul_add, Nat.mul_left_comm, Nat.mul_comm r]
 omega
theorem div_dig {r d x a : Nat} (hr : r < d) (ha : a < 18446744073709551616) (hx : x = r * 18446744073709551616 + a) : x / d < 18446744073709551616 := by
 rw [Nat.div_lt_iff_lt_mul (by omega)]
 have : (r + 1) * 18446744073709551616 ≤ d * 18446744073709551616 := Nat.mul_le_mul_right _ hr
 omega
theorem div_end {m d r : Nat} {o : List Nat} (hr : r < d) (hv : val ((digs m).drop 0) = d * val (o.drop 0) + r) : val o = m / d ∧ r = m % d := by
 simp only [List.drop_zero, val_digs] at hv
 constructor
 ·rw [hv, Nat.mul_add_div (by omega), Nat.div_eq_of_lt hr]; rfl
 ·rw [hv, Nat.mul_add_mod, Nat.mod_eq_of_lt hr]
theorem val_drop_pos {n j : Nat} (h : j < (digs n).length) : 0 < val ((digs n).drop j) := by
 have hne : (digs n).drop j ≠ [] := by simp; omega
 refine val_pos_of_trim hne fun hx => ?_
 rw [List.getLast_drop]
 exact digs_trim n _
def sg (neg : Bool) (n : Nat) : Int := if neg = true then -(n : Int) else n
end Go.Mw

namespace Go.Mw
theorem set_take {o : List Nat} {i v : Nat} (h : i < o.length) : (o.set i v).take (i + 1) = o.take i ++ [v] := by
 rw [List.take_set, List.take_succ_eq_append_getElem h, List.set_append_right _ _ (by rw [List.length_take]; omega), List.length_take, Nat.min_eq_left (by omega), Nat.sub_self]
 rfl
theorem cut_val {ys : List Nat} (h : 0 < ys.length) (hz : ys.getD (ys.length - 1) 0 = 0) : val ((ys.drop 0).take (ys.length - 1 - 0)) = val ys := by
 rw [List.drop_zero, Nat.sub_zero, ← take_getD_zero h (Nat.le_refl _) hz, List.take_length]
theorem cut_end {ys : List Nat} (hd : Dig ys) (h : ys.length = 0 ∨ ys.getD (ys.length - 1) 0 ≠ 0) : digs (val ys) = ys := by
 have := trim_digs hd (Nat.le_refl ys.length) (by rw [List.take_length]) h
 rw [List.take_length] at this
 exact this.symm
theorem val_at (xs : List Nat) (j : Nat) : val xs = val (xs.take j) + 18446744073709551616 ^ j * xs.getD j 0 + 18446744073709551616 ^ (j + 1) * val (xs.drop (j + 1)) := by
 by_cases h : j < xs.length
 ·have h1 := val_split xs (j := j) (by omega)
  have e : 18446744073709551616 ^ j * 18446744073709551616 = 18446744073709551616 ^ (j + 1) := (Nat.pow_succ _ _).symm
  rw [val_drop_succ h, Nat.mul_add, ← Nat.mul_assoc, e] at h1
  omega
 ·rw [val_take_all (by omega), val_drop_all (by omega), getD_ge (by omega)]
  omega
theorem add_set {o a b : List Nat} {i c s : Nat} (hi : i < o.length) (hv : val (o.take i) + 18446744073709551616 ^ i * c = val (a.take i) + val (b.take i)) (hs : s = a.getD i 0 + b.getD i 0 + c) :
  val ((o.set i (s % 18446744073709551616)).take (i + 1)) + 18446744073709551616 ^ (i + 1) * (s / 18446744073709551616) = val (a.take (i + 1)) + val (b.take (i + 1)) := by
 rw [set_take hi]
 exact add_step (by rw [List.length_take]; omega) hv hs
theorem add_done {o : List Nat} {m n c : Nat} (hl : o.length = max (digs m).length (digs n).length + 1) (hv : val (o.take o.length) + 18446744073709551616 ^ o.length * c = val ((digs m).take o.length) + val ((digs n).take o.length)) : val o = m + n := by
 rw [List.take_length, val_take_all (xs := digs m) (by omega), val_take_all (xs := digs n) (by omega), val_digs, val_digs] at hv
 have h1 := digs_hi m
 have h2 := digs_hi n
 have h3 := Nat.pow_le_pow_right (show 0 < 18446744073709551616 by decide) (show (digs m).length ≤ max (digs m).length (digs n).length by omega)
 have h4 := Nat.pow_le_pow_right (show 0 < 18446744073709551616 by decide) (show (digs n).length ≤ max (digs m).length (digs n).length by omega)
 have h5 : 18446744073709551616 ^ o.length = 18446744073709551616 ^ max (digs m).length (digs n).length * 18446744073709551616 := by rw [hl, Nat.pow_succ]
 have h6 : c = 0 := by
  refine Decidable.byContradiction fun hc => ?_
  have := Nat.mul_le_mul_left (18446744073709551616 ^ o.length) (show 1 ≤ c by omega)
  omega
 rw [h6] at hv
 omega
theorem lt_at {a b : List Nat} (ha : Dig a) {j : Nat} (hd : val (a.drop (j + 1)) = val (b.drop (j + 1))) (h : a.getD j 0 < b.getD j 0) : val a < val b := by
 have h1 := val_at a j
 have h2 := val_at b j
 have h3 := val_lt (ha.take j)
 have h4 : (a.take j).length ≤ j := by rw [List.length_take]; omega
 have h5 := Nat.pow_le_pow_right (show 0 < 18446744073709551616 by decide) h4
 have h6 := Nat.mul_le_mul_left (18446744073709551616 ^ j) (show a.getD j 0 + 1 ≤ b.getD j 0 by omega)
 rw [hd] at h1
 rw [Nat.mul_add, Nat.mul_one] at h6
 omega
theorem drop_at {a b : List Nat} {j : Nat} (hd : val (a.drop (j + 1)) = val (b.drop (j + 1))) (h : a.getD j 0 = b.getD j 0) : val (a.drop j) = val (b.drop j) := by
 have key : ∀ xs : List Nat, val (xs.drop j) = xs.getD j 0 + 18446744073709551616 * val (xs.drop (j + 1)) := fun xs => by
  by_cases q : j < xs.length
  ·exact val_drop_succ q
  ·rw [val_drop_all (by omega), val_drop_all (xs := xs) (j := j + 1) (by omega), getD_ge (by omega)]
 rw [key a, key b, h, hd]
theorem cmp_1 {m n j : Nat} (hd : val ((digs m).drop (j + 1)) = val ((digs n).drop (j + 1))) (h : (digs m).getD j 0 < (digs n).getD j 0) : Mth.cmpN m n = -1 := by
 have := lt_at (digs_dig m) hd h
 rw [val_digs, val_digs] at this
 unfold Mth.cmpN
 rw [if_pos this]
theorem cmp_2 {m n j : Nat} (hd : val ((digs m).drop (j + 1)) = val ((digs n).drop (j + 1))) (h : (digs n).getD j 0 < (digs m).getD j 0) : Mth.cmpN m n = 1 := by
 have := lt_at (digs_dig n) hd.symm h
 rw [val_digs, val_digs] at this
 unfold Mth.cmpN
 rw [if_neg (by omega), if_pos this]
theorem cmp_0 {m n : Nat} (hd : val ((digs m).drop 0) = val ((digs n).drop 0)) : Mth.cmpN m n = 0 := by
 rw [List.drop_zero, List.drop_zero, val_digs, val_digs] at hd
 unfold Mth.cmpN
 rw [if_neg (by omega), if_neg (by omega)]
/- products -/
theorem mul_word (o p c : Nat) : (o + (p % 18446744073709551616 + c + 0) % 18446744073709551616 + 0) % 18446744073709551616 = (o + p + c) % 18446744073709551616 ∧ p / 18446744073709551616 + (p % 18446744073709551616 + c + 0) / 18446744073709551616 + (o + (p % 18446744073709551616 + c + 0) % 18446744073709551616 + 0) / 18446744073709551616 = (o + p + c) / 18446744073709551616 := by omega
theorem take_getD {o : List Nat} {L j : Nat} (h : j < L) : (o.take L).getD j 0 = o.getD j 0 := by
 rw [List.getD_eq_getElem?_getD, List.getD_eq_getElem?_getD, List.getElem?_take_of_lt h]
theorem mul_set {o b : List Nat} {L i k c x ai P : Nat} (hL : L ≤ o.length) (hk : i + k < L) (hv : val (o.take L) + 18446744073709551616 ^ (i + k) * c = P + 18446744073709551616 ^ i * (ai * val (b.take k))) (hx : x = o.getD (i + k) 0 + ai * b.getD k 0 + c) :
  val ((o.set (i + k) (x % 18446744073709551616)).take L) + 18446744073709551616 ^ (i + (k + 1)) * (x / 18446744073709551616) = P + 18446744073709551616 ^ i * (ai * val (b.take (k + 1))) := by
 rw [List.take_set]
 exact mul_step (by rw [List.length_take]; omega) hv (by rw [take_getD hk]; exact hx)
theorem mul_row {o : List Nat} {m n i c : Nat} (hl : i + (digs n).length < o.length) (hv : val (o.take (i + (digs n).length)) + 18446744073709551616 ^ (i + (digs n).length) * c = val ((digs m).take i) * n + 18446744073709551616 ^ i * ((digs m).getD i 0 * val ((digs n).take (digs n).length))) :
  val ((o.set (i + (digs n).length) c).take (i + 1 + (digs n).length)) = val ((digs m).take (i + 1)) * n := by
 rw [show i + 1 + (digs n).length = i + (digs n).length + 1 by omega, set_take hl, val_snoc, List.length_take, Nat.min_eq_left (by omega), hv, List.take_length, val_digs, val_take_succ, Nat.add_mul, Nat.mul_assoc]
theorem mul_done {o : List Nat} {m n : Nat} (hl : o.length = (digs m).length + (digs n).length) (hv : val (o.take ((digs m).length + (digs n).length)) = val ((digs m).take (digs m).length) * n) : val o = m * n := by
 rw [← hl, List.take_length, List.take_length, val_digs] at hv
 exact hv
/- binary digits -/
def bits (n : Nat) : Nat := if n = 0 then 0 else Nat.log2 n + 1
theorem bits_le {n k : Nat} : bits n ≤ k ↔ n < 2 ^ k := by
 unfold bits
 by_cases h : n = 0
 ·rw [if_pos h, h]
  exact ⟨fun _ => Nat.two_pow_pos k, fun _ => Nat.zero_le _⟩
 ·rw [if_neg h, ← Nat.log2_lt h]
  omega
theorem bits_eq {n k : Nat} (h : ∀ j, n < 2 ^ j ↔ k ≤ j) : bits n = k := by
 have h1 := bits_le (n := n) (k := k)
 have h2 := bits_le (n := n) (k := bits n)
 rw [h k] at h1
 rw [h (bits n)] at h2
 omega
theorem bitLen_aux : ∀ f x, x < 2 ^ f → Lib.bitLenAux f x = bits x
 | 0, x, h => by
  have : x = 0 := by simpa using h
  subst this
  rfl
 | f + 1, x, h => by
  rw [Lib.bitLenAux]
  by_cases e : x = 0
  ·rw [if_pos e, e]; rfl
  ·rw [if_neg e, bitLen_aux f (x / 2) (by rw [Nat.pow_succ] at h; omega)]
   refine (bits_eq fun j => ?_).symm
   have hb := bits_le (n := x / 2) (k := j - 1)
   cases j with
   | zero => simp; omega
   | succ j =>
    rw [Nat.pow_succ]
    simp only [Nat.add_sub_cancel] at hb
    omega
theorem bitLen_is {x : Nat} (h : x < 18446744073709551616) : Lib.bitLen x = bits x := bitLen_aux 64 x h
theorem bits_top {m : Nat} (h : 0 < (digs m).length) : 64 * ((digs m).length - 1) + bits ((digs m).getD ((digs m).length - 1) 0) = bits m := by
 refine (bits_eq fun j => ?_).symm
 have h1 := val_at (digs m) ((digs m).length - 1)
 rw [val_digs, val_drop_all (by omega), Nat.mul_zero, Nat.add_zero] at h1
 have h2 := val_lt ((digs_dig m).take ((digs m).length - 1))
 rw [List.length_take, Nat.min_eq_left (by omega)] at h2
 generalize hL : (digs m).length - 1 = L at *
 generalize hT : (digs m).getD L 0 = T at *
 generalize hR : val ((digs m).take L) = R at *
 have hB : 18446744073709551616 ^ L = 2 ^ (64 * L) := by rw [Nat.pow_mul]
 rw [hB] at h1 h2
 have hT0 : T ≠ 0 := by
  have := digs_trim m (fun e => by rw [e] at h; simp at h)
  rw [List.getLast_eq_getElem] at this
  rw [← hT, ← hL, List.getD_eq_getElem?_getD, List.getElem?_eq_getElem (by omega)]
  exact this
 by_cases hj : 64 * L ≤ j
 ·obtain ⟨d, rfl⟩ : ∃ d, j = 64 * L + d := ⟨j - 64 * L, by omega⟩
  have hb := bits_le (n := T) (k := d)
  have hp : 2 ^ (64 * L + d) = 2 ^ (64 * L) * 2 ^ d := Nat.pow_add _ _ _
  have e : m < 2 ^ (64 * L + d) ↔ T < 2 ^ d := by
   rw [hp, h1]
   constructor
   ·intro q
    refine Decidable.byContradiction fun g => ?_
    have := Nat.mul_le_mul_left (2 ^ (64 * L)) (show 2 ^ d ≤ T by omega)
    omega
   ·intro q
    have := Nat.mul_le_mul_left (2 ^ (64 * L)) (show T + 1 ≤ 2 ^ d by omega)
    rw [Nat.mul_add, Nat.mul_one] at this
    omega
  rw [e, ← hb]
  omega
 ·have hp := Nat.pow_le_pow_right (show 0 < 2 by decide) (show j ≤ 64 * L by omega)
  have := Nat.mul_le_mul_left (2 ^ (64 * L)) (show 1 ≤ T by omega)
  have hne : 0 < bits T := by unfold bits; rw [if_neg hT0]; omega
  omega
/- differences -/
theorem sub_set {o a b : List Nat} {i c x c' : Nat} (hi : i < o.length) (hv : val (o.take i) + val (b.take i) = val (a.take i) + 18446744073709551616 ^ i * c) (hs : x + b.getD i 0 + c = a.getD i 0 + 18446744073709551616 * c') :
  val ((o.set i x).take (i + 1)) + val (b.take (i + 1)) = val (a.take (i + 1)) + 18446744073709551616 ^ (i + 1) * c' := by
 rw [set_take hi]
 exact sub_step (by rw [List.length_take]; omega) hv hs
theorem sub_done {o : List Nat} {m n c : Nat} (hd : Dig o) (hl : o.length = (digs m).length) (hnm : n ≤ m) (hv : val (o.take o.length) + val ((digs n).take o.length) = val ((digs m).take o.length) + 18446744073709551616 ^ o.length * c) : val o = m - n := by
 have h1 := digs_len_le hnm
 rw [List.take_length, val_take_all (xs := digs m) (by omega), val_take_all (xs := digs n) (by omega), val_digs, val_digs] at hv
 have h2 := val_lt hd
 have h3 : c = 0 := by
  refine Decidable.byContradiction fun hc => ?_
  have := Nat.mul_le_mul_left (18446744073709551616 ^ o.length) (show 1 ≤ c by omega)
  omega
 rw [h3] at hv
 omega
/- shifts -/
theorem or_add {a x s : Nat} (ha : a < 2 ^ s) (hs : s ≤ 64) : a ||| (x * 2 ^ s % 18446744073709551616) = a + x * 2 ^ s % 18446744073709551616 := by
 have e : x * 2 ^ s % 18446744073709551616 = (x % 2 ^ (64 - s)) * 2 ^ s := by
  have h : (18446744073709551616 : Nat) = 2 ^ (64 - s) * 2 ^ s := by rw [← Nat.pow_add, show 64 - s + s = 64 by omega]
  rw [h, Nat.mul_mod_mul_right]
 rw [e, Nat.or_comm, Nat.add_comm, ← Nat.shiftLeft_eq, Nat.shiftLeft_add_eq_or_of_lt ha]
theorem up_set {o a : List Nat} {i q s k x : Nat} (hk : k = 64 * q + s) (hl : i + q + 1 < o.length) (hx : x = a.getD i 0) (hi : i < a.length) (hv : val (o.take (i + q + 1)) = val (a.take i) * 2 ^ k) :
  val (((o.set (i + q) (o.getD (i + q) 0 + x * 2 ^ s % 18446744073709551616)).set (i + q + 1) (x * 2 ^ s / 18446744073709551616)).take (i + 1 + q + 1)) = val (a.take (i + 1)) * 2 ^ k := by
 rw [show i + 1 + q + 1 = i + q + 1 + 1 by omega, set_take (by rw [List.length_set]; omega), val_snoc, List.length_take, List.length_set, Nat.min_eq_left (by omega), List.take_set]
 have h1 := val_set (xs := o.take (i + q + 1)) (i := i + q) (o.getD (i + q) 0 + x * 2 ^ s % 18446744073709551616) (by rw [List.length_take]; omega)
 rw [take_getD (by omega), hv, Nat.mul_add] at h1
 have h2 : 18446744073709551616 ^ (i + q + 1) = 18446744073709551616 ^ (i + q) * 18446744073709551616 := Nat.pow_succ _ _
 have h3 := Nat.div_add_mod (x * 2 ^ s) 18446744073709551616
 have h4 : 18446744073709551616 ^ (i + q) * (x * 2 ^ s) = 18446744073709551616 ^ i * x * 2 ^ k := by
  rw [Nat.pow_add, hk, Nat.pow_add, Nat.pow_mul 2 64 q, show (2 : Nat) ^ 64 = 18446744073709551616 by decide]
  simp only [Nat.mul_assoc, Nat.mul_left_comm, Nat.mul_comm]
 have h5 : 18446744073709551616 ^ (i + q) * (x * 2 ^ s) = 18446744073709551616 ^ (i + q) * (x * 2 ^ s % 18446744073709551616) + 18446744073709551616 ^ (i + q) * (18446744073709551616 * (x * 2 ^ s / 18446744073709551616)) := by rw [← Nat.mul_add]; congr 1; omega
 rw [val_take_succ, Nat.add_mul, ← hx, ← h4, h5, h2, Nat.mul_assoc]
 omega
theorem up_hi (x s : Nat) (hs : s ≤ 63) : x / 2 ^ (63 - s) / 2 = x * 2 ^ s / 18446744073709551616 := by
 rw [Nat.div_div_eq_div_mul, ← Nat.pow_succ, show (63 - s).succ = 64 - s by omega]
 have h : (18446744073709551616 : Nat) = 2 ^ (64 - s) * 2 ^ s := by rw [← Nat.pow_add, show 64 - s + s = 64 by omega]
 rw [h, Nat.mul_div_mul_right _ _ (Nat.two_pow_pos s)]
theorem up_lt {x s : Nat} (hx : x < 18446744073709551616) : x * 2 ^ s / 18446744073709551616 < 2 ^ s := by
 rw [Nat.div_lt_iff_lt_mul (by decide), Nat.mul_comm (2 ^ s)]
 exact Nat.mul_lt_mul_of_pos_right hx (Nat.two_pow_pos s)
theorem up_sum {a x s : Nat} (ha : a < 2 ^ s) (hs : s ≤ 64) : a + x * 2 ^ s % 18446744073709551616 < 18446744073709551616 := by
 have e : x * 2 ^ s % 18446744073709551616 = (x % 2 ^ (64 - s)) * 2 ^ s := by
  have h : (18446744073709551616 : Nat) = 2 ^ (64 - s) * 2 ^ s := by rw [← Nat.pow_add, show 64 - s + s = 64 by omega]
  rw [h, Nat.mul_mod_mul_right]
 have h1 := Nat.mod_lt x (Nat.two_pow_pos (64 - s))
 have h2 := Nat.mul_le_mul_right (2 ^ s) (show x % 2 ^ (64 - s) + 1 ≤ 2 ^ (64 - s) by omega)
 rw [← Nat.pow_add, show 64 - s + s = 64 by omega, Nat.add_mul, Nat.one_mul] at h2
 have h3 : (2 : Nat) ^ 64 = 18446744073709551616 := by decide
 omega
theorem repl_lt (n i s : Nat) : (List.replicate n 0).getD i 0 < 2 ^ s := by
 have h : (List.replicate n 0).getD i 0 = 0 := by
  rw [List.getD_eq_getElem?_getD, List.getElem?_replicate]
  split <;> rfl
 rw [h]
 exact Nat.two_pow_pos s
theorem getD_set {o : List Nat} {i v : Nat} (h : i < o.length) : (o.set i v).getD i 0 = v := by
 rw [List.getD_eq_getElem?_getD, List.getElem?_set_self h]
 rfl
/- powers -/
theorem pw_e {o b j P : Nat} (h : o * b ^ j = P) (hj : ¬ j % 2 = 1) : o * (b * b) ^ (j / 2) = P := by
 rw [← h, ← Nat.pow_two, ← Nat.pow_mul, show 2 * (j / 2) = j by omega]
theorem pw_o {o b j P : Nat} (h : o * b ^ j = P) (hj : j % 2 = 1) : o * b * (b * b) ^ (j / 2) = P := by
 rw [← h, ← Nat.pow_two, ← Nat.pow_mul, Nat.mul_assoc, Nat.mul_comm b, ← Nat.pow_succ, show (2 * (j / 2)).succ = j by omega]
theorem pw_l {o b j P : Nat} (h : o * b ^ j = P) (hj : j % 2 = 1) (h1 : ¬ 1 < j) : o * b * b ^ (j / 2) = P := by
 have : j = 1 := by omega
 subst this
 rw [← h]
 simp
theorem pw_le {o b j P : Nat} (h : o * b ^ j = P) (ho : 1 ≤ o) (hb : 1 ≤ b) : o ≤ P ∧ (0 < j → b ≤ P) ∧ (1 < j → b * b ≤ P) ∧ (0 < j → o * b ≤ P) := by
 have h0 : 1 ≤ b ^ j := Nat.pow_pos hb
 have key : ∀ i, i ≤ j → b ^ i ≤ P := fun i hi => by
  have h1 := Nat.pow_le_pow_right hb hi
  have h2 := Nat.mul_le_mul_right (b ^ j) ho
  omega
 refine ⟨?_, fun q => ?_, fun q => ?_, fun q => ?_⟩
 ·have := Nat.mul_le_mul_left o h0
  omega
 ·have := key 1 q
  rwa [Nat.pow_one] at this
 ·have := key 2 q
  rwa [Nat.pow_two] at this
 ·have h1 := Nat.pow_le_pow_right hb (show 1 ≤ j from q)
  have h2 := Nat.mul_le_mul_left o h1
  rw [Nat.pow_one] at h2
  omega
end Go.Mw

namespace Go.Ab
open Go.RowKit
mutual
/-- Does a value name no own object but one row? -/
def AV.only (id : Nat) : AV → Bool
 | .ref .. => false
 | .vw .. => false
 | .row i => Nat.beq i id
 | .agg fs => onlyL id fs
 | .tup fs => onlyL id fs
 | .clo _ fs => onlyL id fs
 | _ => true
def onlyL (id : Nat) : List AV → Bool
 | [] => true
 | x :: xs => x.only id && onlyL id xs
end
mutual
theorem RepV.only {H : Heap} {id : Nat} {rv : Value} : ∀ {x : AV} {L : Loc} {v : Value}, L id = some rv → x.only id = true → RepV H x L v → RepV H x (noLoc.set id (some rv)) v
 | .any, _, _, _, _, _ => by simp [RepV]
 | .lit _, _, _, _, _, h => by simpa [RepV] using h
 | .sl sz cs, _, _, _, _, h => by simpa [RepV] using h
 | .slc sz cs _, _, _, _, _, h => by simpa [RepV] using h
 | .agg fs, _, _, hl, hn, h => by
  simp only [RepV, AV.only] at h hn ⊢
  obtain ⟨vs, rfl, hr, h1⟩ := h
  exact ⟨vs, rfl, RepL.only hl hn hr, h1⟩
 | .tup fs, _, _, hl, hn, h => by
  simp only [RepV, AV.only] at h hn ⊢
  obtain ⟨vs, rfl, hr⟩ := h
  exact ⟨vs, rfl, RepL.only hl hn hr⟩
 | .ref i off, _, _, _, hn, h => by simp [AV.only] at hn
 | .vw .., _, _, _, hn, h => by simp [AV.only] at hn
 | .row i, _, _, hl, hn, h => by
  simp only [AV.only] at hn
  have := Nat.eq_of_beq_eq_true hn
  subst this
  simp only [RepV] at h ⊢
  rw [hl] at h
  exact ⟨by simp [Loc.set, h.1], h.2⟩
 | .ip cs, _, _, _, _, h => by simpa [RepV] using h
 | .clo f cs, _, _, hl, hn, h => by
  simp only [RepV, AV.only] at h hn ⊢
  obtain ⟨vs, rfl, hr⟩ := h
  exact ⟨vs, rfl, RepL.only hl hn hr⟩
theorem RepL.only {H : Heap} {id : Nat} {rv : Value} : ∀ {xs : List AV} {L : Loc} {vs : List Value}, L id = some rv → onlyL id xs = true → RepL H xs L vs → RepL H xs (noLoc.set id (some rv)) vs
 | [], _, _, _, _, h => by simpa [RepL] using h
 | x :: xs, _, _, hl, hn, h => by
  simp only [RepL, onlyL, Bool.and_eq_true] at h hn ⊢
  obtain ⟨v, r, rfl, h1, h2⟩ := h
  exact ⟨v, r, rfl, RepV.only hl hn.1 h1, RepL.only hl hn.2 h2⟩
end
def postM (C : Ctx) (fn : Func) (res : AV) (id : Nat) (e : TypeId) (sz : Nat) (cs : List AV) : Exit → St → Prop
 | .normal, σ => ∃ vs, ResOk C σ fn.results.toList vs ∧ onlyL id vs = true ∧ lookO σ.objs id = some (.row e sz cs) ∧ res = packR vs
 | .ret, σ => ∃ vs, ResOk C σ fn.results.toList vs ∧ onlyL id vs = true ∧ lookO σ.objs id = some (.row e sz cs) ∧ res = packR vs
 | _, _ => False
end Go.Ab

namespace Go.Ab
open Go.RowKit
def postS (C : Ctx) (fn : Func) (res : AV) (m' : List (Nat × AO)) (pid : Nat) (cs : List AV) (us : List Value) : Exit → St → Prop
 | .normal, σ => ∃ vs, ResOk C σ fn.results.toList vs ∧ res = packR vs ∧ (∀ id ob, lookO m' id = some ob → lookO σ.objs id = some ob) ∧ lookO σ.objs pid = some (.pin cs us)
 | .ret, σ => ∃ vs, ResOk C σ fn.results.toList vs ∧ res = packR vs ∧ (∀ id ob, lookO m' id = some ob → lookO σ.objs id = some ob) ∧ lookO σ.objs pid = some (.pin cs us)
 | _, _ => False
def SCalls (C : Ctx) (n : Nat) (f : FuncId) (args : List AV) (so : List (Nat × AV)) (m : List (Nat × AO)) (res : AV) (m' : List (Nat × AO)) : Prop :=
 ∀ (w0 : World) (H : Heap) (L : Loc) (a : Act) (w : World) (vals : List Value), Rep C n w0 H L (St.sem ⟨so, m⟩) a w → RepL H args L vals →
  Calls C.P f vals.toArray w fun e w' => ∃ v H' L', e = .returned v ∧ Ext w0.heap.size H H' ∧ RepV H' res L' v ∧ Rep C n w0 H' L' (St.sem ⟨so, m'⟩) a w'
theorem pin_slots {H : Heap} {L : Loc} : ∀ {so : List (Nat × AV)} {t : Nat → Value}, RepL H (valsOf so) L (so.map fun p => t p.1) → ∀ i, RepV H (look so i) L (t i)
 | [], t, _, i => by simp [look, RepV]
 | (j, v) :: r, t, h, i => by
  simp only [valsOf, List.map_cons, RepL] at h
  obtain ⟨x, xs, e, h1, h2⟩ := h
  cases e
  simp only [look]
  cases hb : Nat.beq j i with
  | true =>
   have := Nat.eq_of_beq_eq_true hb
   subst this
   exact h1
  | false => exact pin_slots h2 i
theorem slots_pin {H : Heap} {L : Loc} {t : Nat → Value} : ∀ {so : List (Nat × AV)}, (so.map (·.1)).Nodup → (∀ i, RepV H (look so i) L (t i)) → RepL H (valsOf so) L (so.map fun p => t p.1)
 | [], _, _ => by simp [valsOf, RepL]
 | (j, v) :: r, hnd, h => by
  simp only [List.map_cons, List.nodup_cons] at hnd
  simp only [valsOf, List.map_cons, RepL]
  refine ⟨_, _, rfl, by simpa [look] using h j, slots_pin hnd.2 fun i => ?_⟩
  have hi := h i
  simp only [look] at hi
  cases hb : Nat.beq j i with
  | true =>
   have := Nat.eq_of_beq_eq_true hb
   subst this
   have hno : ∀ (l : List (Nat × AV)), j ∉ l.map (·.1) → look l j = .any := by
    intro l
    induction l with
    | nil => intro _; rfl
    | cons p l ih =>
     intro hl
     simp only [List.map_cons, List.mem_cons, not_or] at hl
     obtain ⟨p1, p2⟩ := p
     simp only [look]
     rw [beq_ne (fun e => hl.1 e.symm)]
     exact ih hl.2
   rw [hno r hnd.1]
   simp [RepV]
  | false => rw [hb] at hi; exact hi
theorem scalls_of_awp {C : Ctx} {n : Nat} {f : FuncId} {fn : Func} {c : Code} {args : List AV} {so : List (Nat × AV)} {m m' : List (Nat × AO)} {res : AV} (pid : Nat) (hf : C.P.funcs[f]? = some fn) (hb : fn.body = some c) (hn : args.length ≤ fn.ntmps) (hnd : (so.map (·.1)).Nodup)
  (hfr : (St.sem ⟨so, m⟩).Fresh pid) (hpn : hasL pid (valsOf so) = false) (hpa : hasL pid args = false) (h : ∀ us, awp C fn.ntmps c (postS C fn res m' pid (valsOf so) us) ⟨(entry args).slots, (pid, .pin (valsOf so) us) :: m⟩) (hmk : C.marks = [] := by rfl) : SCalls C n f args so m res m' := by
 intro w0 H L a w vals hr hra
 refine calls_of_wp hf hb ((wpIn_wide (n := 0)).1 ?_)
 have hlen := hra.length
 have hp := slots_pin (t := fun i => a.tmps.getD i undef) hnd hr.slot
 have h1 := hr.pinned hfr hp hpn
 have hen := entry_rep (C := C) (w0 := w) hn (RepL.setL (y := some (.tuple #[])) hpa hra)
 have h2 := h1.frame [] (n' := fn.ntmps) (a' := { tmps := vals.toArray ++ Array.replicate (fn.ntmps - vals.toArray.size) undef, defers := [] }) hen.1 rfl (ρ := (entry args).sem.ρ) hen.2
 have e0 : St.sem ⟨(entry args).slots, (pid, .pin (valsOf so) (so.map fun p => a.tmps.getD p.1 undef)) :: m⟩ = { ρ := (entry args).sem.ρ, μ := fun i => if i = pid then some (AO.pin (valsOf so) (so.map fun p => a.tmps.getD p.1 undef)) else (St.sem ⟨so, m⟩).μ i } := by
  unfold St.sem
  congr 1
  funext i
  simp only [lookO]
  by_cases hi : i = pid
  ·subst hi; simp
  ·rw [beq_ne (fun e => hi e.symm)]; simp [hi]
 have hC : { C with marks := [] } = C := by cases C; simp_all
 rw [← e0, hC] at h2
 refine wpIn_mono (h _ w0 H _ _ w h2 none) fun e a' w' hq => ?_
 obtain ⟨σ', H', L', hx, hr', hq⟩ := hq
 have fin : (∃ vs, ResOk C σ' fn.results.toList vs ∧ res = packR vs ∧ (∀ id ob, lookO m' id = some ob → lookO σ'.objs id = some ob) ∧ lookO σ'.objs pid = some (.pin (valsOf so) (so.map fun p => a.tmps.getD p.1 undef))) → a'.defers = [] ∧ ∃ v, (results fn a'.tmps).run C.P w' = .ok v w' ∧
   ∃ v' H' L', Ending.returned v = .returned v' ∧ Ext w0.heap.size H H' ∧ RepV H' res L' v' ∧ Rep C n w0 H' L' (St.sem ⟨so, m'⟩) a w' := by
  rintro ⟨vs, hres, rfl, hm, hpin⟩
  obtain ⟨us, hrun, hrl⟩ := res_run hr' _ _ hres
  have hlu := hrl.length
  obtain ⟨_, hps⟩ := hr'.objs pid _ hpin
  refine ⟨hr'.defers.trans hmk, if h : us.toArray.size = 1 then us.toArray[0] else .tuple us.toArray, ?_, _, H', L', rfl, hx, ?_,
   ⟨hr'.glob, hr'.heap, hr.size, pin_slots hps, fun id o ho => hr'.objs id o (hm id o ho), fun id id' o o' g x x' hne ho ho' => hr'.apart id id' o o' g x x' hne (hm id o ho) (hm id' o' ho'), hr'.below, hr.defers⟩⟩
  ·show (do let vs ← fn.results.mapM (resOne a'.tmps); pure (if h : vs.size = 1 then vs[0] else .tuple vs) : Sem Value).run C.P w' = _
   have hm : (fn.results.mapM (resOne a'.tmps)).run C.P w' = .ok us.toArray w' := by
    rw [Array.mapM_eq_mapM_toList]
    simp [hrun]
   simp only [Sem.run_bind, hm, Result.andThen_ok, Sem.run_pure]
  ·match vs, us, hrl, hlu with
   | [v], [u], hrc, _ =>
    simp only [packR]
    simp only [RepL] at hrc
    obtain ⟨x, r, e, hx, _⟩ := hrc
    cases e
    simpa using hx
   | [], us, hrc, hlu =>
    have : us = [] := List.eq_nil_of_length_eq_zero (by simpa using hlu)
    subst this
    simp only [packR, RepV]
    exact ⟨[], by simp, hrc⟩
   | v1 :: v2 :: vs, us, hrc, hlu =>
    simp only [packR, RepV]
    refine ⟨us, ?_, hrc⟩
    rw [dif_neg (by simp at hlu ⊢; omega)]
 cases e with
 | normal => exact fin hq
 | ret => exact fin hq
 | _ => exact hq.elim
theorem awp_regionS {C : Ctx} {n : Nat} {Q : Exit → St → Prop} {σ : St} {id : Nat} {ops : Array Oper} (os os2 : List Oper) (d : Nat) {y : Operand} {f : FuncId} {caps : List AV} {args : Array Operand} {tys : Array TypeId} {t : TypeId} {p : String} {af : Array Edge} (asx : List AV) (res : AV) (m' : List (Nat × AO))
  (hops : ops.toList = os ++ ⟨some d, .call { callee := .value y, args := args, argTypes := tys }, t, p, af, none⟩ :: os2) (hd : dstsB n ops.toList = true) (hb : callable C.P f = true)
  (h : aops C ops σ os fun _ σ1 => σ1.ev y = .clo f caps ∧ args.toList.map σ1.sem.ev ++ caps = asx ∧ SCalls C n f asx σ1.slots σ1.objs res m' ∧ aops C ops ⟨(d, res) :: σ1.slots, m'⟩ os2 fun _ σ2 => Q .normal σ2) :
  awp C n (.region id ops false) Q σ := fun w0 H L a w hr r => by
 obtain ⟨es, σ1, ht, hy, has, hS, es2, σ2, ht2, hq⟩ := h
 have hdst := dsts_spec hd
 refine wpIn_region ?_
 rw [List.range_eq_range']
 have hsz : ops.size = os.length + (os2.length + 1) := by
  have := congrArg List.length hops
  simpa using this
 rw [hsz, ← List.range'_append_1, List.range'_succ]
 refine lex_prefix (C := C) (n := n) (w0 := w0) r _ os 0 σ.sem σ1.sem es H L a w (by rw [hops]; simp) ht hr (fun o ho => hdst o (by rw [hops]; simp [ho])) fun a' w' H' L' hx hr' => ?_
 simp only [Nat.zero_add]
 rw [wpOpsIn_cons]
 have hi : ops[os.length]? = some ⟨some d, .call { callee := .value y, args := args, argTypes := tys }, t, p, af, none⟩ := by
  rw [← Array.getElem?_toList, hops]
  simp
 unfold wpOpIn
 simp only [hi]
 rw [if_pos (by simp [Region.wanted])]
 have hyv := hr'.ev y
 rw [ev_sem, hy] at hyv
 simp only [RepV] at hyv
 obtain ⟨cv, hev, hcr⟩ := hyv
 have hargs : ∀ (xs : List Operand), RepL H' (xs.map σ1.sem.ev) L' (xs.map a'.eval) := by
  intro xs
  induction xs with
  | nil => simp only [List.map_nil, RepL]
  | cons x xs ih => simp only [List.map_cons, RepL]; exact ⟨_, _, rfl, hr'.ev x, ih⟩
 have hal := (hargs args.toList).app hcr
 rw [has] at hal
 have hc := hS w0 H' L' a' w' _ hr' hal
 have e1 : (List.map a'.eval args.toList ++ cv).toArray = args.map a'.eval ++ cv.toArray := by apply Array.ext'; simp
 rw [e1] at hc
 refine wp_enter (run_call_val rfl hev (callable_spec hb).1 (callable_spec hb).2) (hc.mono ?_) r
 rintro e w2 ⟨v, H2, L2, rfl, hx2, hv2, hr2⟩
 refine ⟨v, rfl, ?_⟩
 have hdn : d < n := hdst ⟨some d, .call { callee := .value y, args := args, argTypes := tys }, t, p, af, none⟩ (by rw [hops]; simp) d rfl
 have hv := hr2.val (dst := some d) (fun d' hd' => by cases hd'; exact hdn) (x := res) (v := v) hv2 [] []
 rw [← sem_app] at hv
 have := lex_prefix (C := C) (n := n) (w0 := w0) (ops := ops) (Q := fun e a w => Post C n w0 H Q e a w) r [] os2 (os.length + 1) _ σ2.sem es2 H2 L2 _ w2 (by rw [hops]; simp) ht2 hv (fun o ho => hdst o (by rw [hops]; simp [ho])) fun a3 w3 H3 L3 hx3 hr3 => ⟨σ2, H3, L3, (hx.trans hx2).trans hx3, hr3, hq⟩
 rw [List.append_nil] at this
 exact this
theorem awp_regionSK {C : Ctx} {n : Nat} {Q : Exit → St → Prop} {σ : St} {id : Nat} {ops : Array Oper} (k d : Nat) (y : Operand) (f : FuncId) (caps : List AV) (args : Array Operand) (tys : Array TypeId) (t : TypeId) (p : String) (af : Array Edge) (asx : List AV) (res : AV) (m' : List (Nat × AO))
  (hk : ops.toList[k]? = some ⟨some d, .call { callee := .value y, args := args, argTypes := tys }, t, p, af, none⟩) (hd : dstsB n ops.toList = true) (hb : callable C.P f = true)
  (h : aops C ops σ (ops.toList.take k) fun _ σ1 => σ1.ev y = .clo f caps ∧ args.toList.map σ1.sem.ev ++ caps = asx ∧ SCalls C n f asx σ1.slots σ1.objs res m' ∧ aops C ops ⟨(d, res) :: σ1.slots, m'⟩ (ops.toList.drop (k + 1)) fun _ σ2 => Q .normal σ2) :
  awp C n (.region id ops false) Q σ := by
 obtain ⟨hl, hx⟩ := List.getElem?_eq_some_iff.1 hk
 refine awp_regionS (y := y) (tys := tys) (t := t) (p := p) (af := af) (ops.toList.take k) (ops.toList.drop (k + 1)) d asx res m' ?_ hd hb h
 have h1 := List.take_append_drop k ops.toList
 rw [List.drop_eq_getElem_cons hl, hx] at h1
 exact h1.symm
end Go.Ab

namespace Go.Ab
open Go.RowKit
section
variable {C : Ctx} {ops : Array Oper} {s : List (Nat × AV)} {m : List (Nat × AO)} {d : Nat} {t : TypeId} {p : String} {af : Array Edge} {g : Option (Nat × Bool)} {os : List Oper} {K : List Eff → St → Prop}
def AggEq (P : Program) (ty : TypeId) (xs ys : List Value) (q : Bool) : Prop := P.eqGuardType P.depth ty = false ∧ ∀ w, (Op.equalIn 10000 ty (.agg xs.toArray) (.agg ys.toArray)).run P w = .ok q w
end
def freshK : List (Nat × AV) → Bool
 | [] => true
 | (j, _) :: r => r.all (fun p => !Nat.beq p.1 j) && freshK r
theorem freshK_nodup : ∀ {so : List (Nat × AV)}, freshK so = true → (so.map (·.1)).Nodup
 | [], _ => by simp
 | (j, v) :: r, h => by
  simp only [freshK, Bool.and_eq_true] at h
  simp only [List.map_cons, List.nodup_cons]
  refine ⟨fun hm => ?_, freshK_nodup h.2⟩
  obtain ⟨p, hp, he⟩ := List.mem_map.1 hm
  have := List.all_eq_true.1 h.1 p hp
  rw [he] at this
  simp at this
theorem scalls_of_awpB {C : Ctx} {n : Nat} {f : FuncId} {fn : Func} {c : Code} {args : List AV} {so : List (Nat × AV)} {m m' : List (Nat × AO)} {res : AV} (pid : Nat) (hf : C.P.funcs[f]? = some fn) (hb : fn.body = some c) (hn : args.length ≤ fn.ntmps) (hnd : freshK so = true)
  (hfr : St.freshB ⟨so, m⟩ pid = true) (hpa : hasL pid args = false) (h : ∀ us, awp C fn.ntmps c (postS C fn res m' pid (valsOf so) us) ⟨(entry args).slots, (pid, .pin (valsOf so) us) :: m⟩) (hmk : C.marks = [] := by rfl) : SCalls C n f args so m res m' :=
 scalls_of_awp pid hf hb hn (freshK_nodup hnd) (fresh_sem hfr) (valsOf_has (by simp only [St.freshB, Bool.and_eq_true] at hfr; exact hfr.1)) hpa h hmk
theorem lookO_appS : ∀ {m e : List (Nat × AO)} {id : Nat} {ob : AO}, lookO m id = some ob → lookO (m ++ e) id = some ob
 | [], _, _, _, h => by simp [lookO] at h
 | (j, v) :: r, e, id, ob, h => by
  simp only [List.cons_append, lookO] at h ⊢
  cases hb : Nat.beq j id with
  | true => rw [hb] at h; exact h
  | false => rw [hb] at h; exact lookO_appS h
theorem postS_fin {C : Ctx} {fn : Func} {res : AV} {m' extra : List (Nat × AO)} {pid : Nat} {cs : List AV} {us : List Value} {s : List (Nat × AV)} (h : ∃ vs, ResOk C ⟨s, (pid, .pin cs us) :: (m' ++ extra)⟩ fn.results.toList vs ∧ res = packR vs) (hn : lookO m' pid = none) :
  ∃ vs, ResOk C ⟨s, (pid, .pin cs us) :: (m' ++ extra)⟩ fn.results.toList vs ∧ res = packR vs ∧ (∀ id ob, lookO m' id = some ob → lookO ((pid, .pin cs us) :: (m' ++ extra)) id = some ob) ∧ lookO ((pid, AO.pin cs us) :: (m' ++ extra)) pid = some (.pin cs us) := by
 obtain ⟨vs, h1, h2⟩ := h
 refine ⟨vs, h1, h2, fun id ob ho => ?_, by simp [lookO]⟩
 simp only [lookO]
 cases hb : Nat.beq pid id with
 | true =>
  have := Nat.eq_of_beq_eq_true hb
  subst this
  rw [hn] at ho
  cases ho
 | false => exact lookO_appS ho
theorem postS_ret {C : Ctx} {fn : Func} {res : AV} {m' extra : List (Nat × AO)} {pid : Nat} {cs : List AV} {us : List Value} {s : List (Nat × AV)} (h : ∃ vs, ResOk C ⟨s, (pid, .pin cs us) :: (m' ++ extra)⟩ fn.results.toList vs ∧ res = packR vs) (hn : lookO m' pid = none) :
  postS C fn res m' pid cs us .ret ⟨s, (pid, .pin cs us) :: (m' ++ extra)⟩ := postS_fin h hn
theorem postS_nrm {C : Ctx} {fn : Func} {res : AV} {m' extra : List (Nat × AO)} {pid : Nat} {cs : List AV} {us : List Value} {s : List (Nat × AV)} (h : ∃ vs, ResOk C ⟨s, (pid, .pin cs us) :: (m' ++ extra)⟩ fn.results.toList vs ∧ res = packR vs) (hn : lookO m' pid = none) :
  postS C fn res m' pid cs us .normal ⟨s, (pid, .pin cs us) :: (m' ++ extra)⟩ := postS_fin h hn
end Go.Ab

namespace Go.Ab
open Go.RowKit
mutual
theorem RepV.agree {H : Heap} {L L' : Loc} : ∀ {x : AV} {v : Value}, (∀ id, x.has id = true → L' id = L id) → RepV H x L v → RepV H x L' v
 | .any, _, _, _ => by simp [RepV]
 | .lit _, _, _, h => by simpa [RepV] using h
 | .sl _ _, _, _, h => by simpa [RepV] using h
 | .slc _ _ _, _, _, h => by simpa [RepV] using h
 | .agg fs, _, hn, h => by
  simp only [RepV] at h ⊢
  obtain ⟨vs, rfl, hr, h1⟩ := h
  exact ⟨vs, rfl, RepL.agree (fun id hid => hn id (by simpa [AV.has] using hid)) hr, h1⟩
 | .tup fs, _, hn, h => by
  simp only [RepV] at h ⊢
  obtain ⟨vs, rfl, hr⟩ := h
  exact ⟨vs, rfl, RepL.agree (fun id hid => hn id (by simpa [AV.has] using hid)) hr⟩
 | .ref i off, _, hn, h => by
  simp only [RepV] at h ⊢
  obtain ⟨x, g, h1, h2, h3⟩ := h
  exact ⟨x, g, by rw [hn i (by simp [AV.has])]; exact h1, h2, h3⟩
 | .row i, _, hn, h => by
  simp only [RepV] at h ⊢
  exact ⟨by rw [hn i (by simp [AV.has])]; exact h.1, h.2⟩
 | .vw i off sz n, _, hn, h => by
  simp only [RepV] at h ⊢
  obtain ⟨x, g, A, cap, h1, h2⟩ := h
  exact ⟨x, g, A, cap, by rw [hn i (by simp [AV.has])]; exact h1, h2⟩
 | .ip _, _, _, h => by simpa [RepV] using h
 | .clo f fs, _, hn, h => by
  simp only [RepV] at h ⊢
  obtain ⟨vs, rfl, hr⟩ := h
  exact ⟨vs, rfl, RepL.agree (fun id hid => hn id (by simpa [AV.has] using hid)) hr⟩
theorem RepL.agree {H : Heap} {L L' : Loc} : ∀ {xs : List AV} {vs : List Value}, (∀ id, hasL id xs = true → L' id = L id) → RepL H xs L vs → RepL H xs L' vs
 | [], _, _, h => by simpa [RepL] using h
 | x :: xs, _, hn, h => by
  simp only [RepL] at h ⊢
  obtain ⟨v, r, rfl, h1, h2⟩ := h
  exact ⟨v, r, rfl, RepV.agree (fun id hid => hn id (by simp [hasL, hid])) h1, RepL.agree (fun id hid => hn id (by simp [hasL, hid])) h2⟩
end
mutual
/-- The own objects that a value names. -/
def AV.ids : AV → List Nat
 | .ref i _ => [i]
 | .row i => [i]
 | .vw i _ _ _ => [i]
 | .agg fs => idsL fs
 | .tup fs => idsL fs
 | .clo _ fs => idsL fs
 | _ => []
def idsL : List AV → List Nat
 | [] => []
 | x :: xs => x.ids ++ idsL xs
end
mutual
theorem has_ids {id : Nat} : ∀ {x : AV}, x.has id = true → id ∈ x.ids
 | .any, h => by simp [AV.has] at h
 | .lit _, h => by simp [AV.has] at h
 | .sl _ _, h => by simp [AV.has] at h
 | .slc _ _ _, h => by simp [AV.has] at h
 | .ip _, h => by simp [AV.has] at h
 | .ref i _, h => by simp only [AV.has] at h; simp [AV.ids, Nat.eq_of_beq_eq_true h]
 | .row i, h => by simp only [AV.has] at h; simp [AV.ids, Nat.eq_of_beq_eq_true h]
 | .vw i _ _ _, h => by simp only [AV.has] at h; simp [AV.ids, Nat.eq_of_beq_eq_true h]
 | .agg fs, h => by simp only [AV.has, AV.ids] at h ⊢; exact hasL_ids h
 | .tup fs, h => by simp only [AV.has, AV.ids] at h ⊢; exact hasL_ids h
 | .clo _ fs, h => by simp only [AV.has, AV.ids] at h ⊢; exact hasL_ids h
theorem hasL_ids {id : Nat} : ∀ {xs : List AV}, hasL id xs = true → id ∈ idsL xs
 | [], h => by simp [hasL] at h
 | x :: xs, h => by
  simp only [hasL, Bool.or_eq_true] at h
  simp only [idsL, List.mem_append]
  exact h.elim (fun e => .inl (has_ids e)) (fun e => .inr (hasL_ids e))
end
def AO.ids : AO → List Nat
 | .var _ cs => idsL cs
 | .pin cs _ => idsL cs
 | _ => []
def memB (K : List Nat) (i : Nat) : Bool := K.any fun j => Nat.beq j i
theorem memB_iff {K : List Nat} {i : Nat} : memB K i = true ↔ i ∈ K := by
 unfold memB
 rw [List.any_eq_true]
 constructor
 ·rintro ⟨j, hj, e⟩; rw [← Nat.eq_of_beq_eq_true e]; exact hj
 ·intro h; exact ⟨i, h, Nat.beq_refl i⟩
def RCalls (C : Ctx) (f : FuncId) (args : List AV) (K : List Nat) (m : List (Nat × AO)) (res : AV) (m' : List (Nat × AO)) : Prop :=
 ∀ (w0 : World) (H : Heap) (L : Loc) (a : Act) (w : World) (vals : List Value), Rep C 0 w0 H L (St.sem ⟨[], m⟩) a w → RepL H args L vals →
  Calls C.P f vals.toArray w fun e w' => ∃ v H' L', e = .returned v ∧ Ext w0.heap.size H H' ∧ RepV H' res L' v ∧ Rep C 0 w0 H' L' (St.sem ⟨[], m'⟩) a w' ∧ ∀ id ∈ K, L' id = L id
def idxK : Nat → List Nat → List (Nat × AV)
 | _, [] => []
 | j, i :: r => (j, .ref i 0) :: idxK (j + 1) r
theorem idxK_look : ∀ (K : List Nat) (j i : Nat), look (idxK j K) i = if h : j ≤ i ∧ i - j < K.length then .ref (K[i - j]'h.2) 0 else .any
 | [], j, i => by simp [idxK, look]
 | k :: r, j, i => by
  simp only [idxK, look]
  cases hb : Nat.beq j i with
  | true =>
   have := Nat.eq_of_beq_eq_true hb
   subst this
   simp
  | false =>
   have hne := Nat.ne_of_beq_eq_false hb
   rw [cond_false, idxK_look r (j + 1) i]
   by_cases h : j + 1 ≤ i ∧ i - (j + 1) < r.length
   ·rw [dif_pos h, dif_pos ⟨by omega, by simp; omega⟩]
    congr 1
    have e : i - j = (i - (j + 1)) + 1 := by omega
    simp only [e, List.getElem_cons_succ]
   ·rw [dif_neg h, dif_neg]
    rintro ⟨h1, h2⟩
    exact h ⟨by omega, by simp at h2; omega⟩
def varAt (m : List (Nat × AO)) (i : Nat) : Bool := match lookO m i with
 | some o => o.isVar
 | none => false
theorem varAt_spec {m : List (Nat × AO)} {i : Nat} (h : varAt m i = true) : ∃ t cs, lookO m i = some (.var t cs) := by
 unfold varAt at h
 cases ho : lookO m i with
 | none => rw [ho] at h; cases h
 | some o =>
  rw [ho] at h
  cases o with
  | var t cs => exact ⟨t, cs, rfl⟩
  | row _ _ _ => cases h
  | blk _ => cases h
  | pin _ _ => cases h
theorem rcalls_of_s {C : Ctx} {f : FuncId} {args : List AV} {K : List Nat} {m m' : List (Nat × AO)} {res : AV} (hS : SCalls C K.length f args (idxK 0 K) m res m') (hv : K.all (fun i => varAt m i && varAt m' i) = true) : RCalls C f args K m res m' := by
 intro w0 H L a w vals hr hra
 have hK : ∀ i (h : i < K.length), (∃ g, L K[i] = some (.pointer (some ⟨g, 0, none⟩))) ∧ varAt m' K[i] = true := fun i h => by
  have := List.all_eq_true.1 hv K[i] (List.getElem_mem h)
  simp only [Bool.and_eq_true] at this
  obtain ⟨t, cs, e⟩ := varAt_spec this.1
  obtain ⟨g, vs, hl, _⟩ := hr.objs K[i] _ e
  exact ⟨⟨g, hl⟩, this.2⟩
 have hget : ∀ i (h : i < K.length), (K.map fun id => (L id).getD undef).toArray.getD i undef = (L K[i]).getD undef := fun i h => by simp [Array.getD_eq_getD_getElem?, h]
 have hr1 : Rep C K.length w0 H L (St.sem ⟨idxK 0 K, m⟩) { tmps := (K.map fun id => (L id).getD undef).toArray, defers := a.defers } w := by
  refine ⟨hr.glob, hr.heap, by simp, fun i => ?_, hr.objs, hr.apart, hr.below, hr.defers⟩
  show RepV H (look (idxK 0 K) i) L _
  rw [idxK_look]
  by_cases h : 0 ≤ i ∧ i - 0 < K.length
  ·rw [dif_pos h]
   obtain ⟨⟨g, hg⟩, _⟩ := hK i h.2
   simp only [RepV]
   refine ⟨_, g, hg, rfl, ?_⟩
   have := hget i h.2
   rw [hg] at this
   exact this
  ·rw [dif_neg h]; simp [RepV]
 refine (hS w0 H L _ w vals hr1 hra).mono ?_
 rintro e w' ⟨v, H', L', rfl, hx, hvv, hr2⟩
 refine ⟨v, H', L', rfl, hx, hvv, ⟨hr2.glob, hr2.heap, hr.size, fun i => by simp [St.sem, look, RepV], hr2.objs, hr2.apart, hr2.below, hr.defers⟩, fun id hid => ?_⟩
 obtain ⟨i, hi, rfl⟩ := List.getElem_of_mem hid
 obtain ⟨⟨g, hg⟩, hv'⟩ := hK i hi
 have hs := hr2.slot i
 have e1 : (St.sem ⟨idxK 0 K, m'⟩).ρ i = .ref K[i] 0 := by
  show look (idxK 0 K) i = _
  rw [idxK_look, dif_pos ⟨Nat.zero_le _, hi⟩]
  rfl
 rw [e1] at hs
 simp only [RepV] at hs
 obtain ⟨x, g', hl, ho, hp⟩ := hs
 have hp2 := (hget i hi).symm.trans hp
 rw [hg] at hp2
 obtain ⟨t, cs, e2⟩ := varAt_spec hv'
 obtain ⟨g2, vs, hl2, _⟩ := hr2.objs K[i] _ e2
 rw [hl] at hl2
 cases hl2
 simp only [ownB, Option.some.injEq] at ho
 subst ho
 simp only [Option.getD_some, Value.pointer.injEq, Option.some.injEq] at hp2
 rw [hl, hg, hp2]
def keysO (m : List (Nat × AO)) : List Nat := m.map (·.1)
theorem lookO_key {m : List (Nat × AO)} {i : Nat} {o : AO} (h : lookO m i = some o) : i ∈ keysO m := List.mem_map.2 ⟨_, lookO_mem h, rfl⟩
theorem lookO_or : ∀ {m e : List (Nat × AO)} {i : Nat} {o : AO}, lookO (m ++ e) i = some o → lookO m i = some o ∨ (lookO m i = none ∧ lookO e i = some o)
 | [], e, i, o, h => .inr ⟨rfl, h⟩
 | (j, v) :: r, e, i, o, h => by
  simp only [List.cons_append, lookO] at h ⊢
  cases hb : Nat.beq j i with
  | true => rw [hb] at h; exact .inl h
  | false => rw [hb] at h; exact lookO_or h
theorem lookO_none_app : ∀ {m e : List (Nat × AO)} {i : Nat}, i ∉ keysO m → lookO (m ++ e) i = lookO e i
 | [], e, i, _ => rfl
 | (j, v) :: r, e, i, h => by
  simp only [keysO, List.map_cons, List.mem_cons, not_or] at h
  simp only [List.cons_append, lookO]
  rw [beq_ne (fun e => h.1 e.symm), cond_false]
  exact lookO_none_app h.2
def pinK (K : List Nat) : AO → Bool
 | .pin cs _ => (idsL cs).all (memB K)
 | _ => false
def restB (K : List Nat) (m m' : List (Nat × AO)) (res : AV) (e : List (Nat × AO)) : Bool :=
 e.all fun p => pinK K p.2 && !memB (keysO m) p.1 && !memB (keysO m') p.1 && !memB res.ids p.1 && !memB K p.1 && m'.all fun q => !memB q.2.ids p.1
theorem scalls_of_r {C : Ctx} {n : Nat} {f : FuncId} {args : List AV} {K : List Nat} {m m' : List (Nat × AO)} {res : AV} {so : List (Nat × AV)} {e : List (Nat × AO)} (hR : RCalls C f args K m res m') (hso : so.all (fun p => p.2.ids.all (memB K)) = true) (he : restB K m m' res e = true) : SCalls C n f args so (m ++ e) res (m' ++ e) := by
 intro w0 H L a w vals hr hra
 have hE : ∀ p ∈ e, ∃ cs us, p.2 = .pin cs us ∧ (∀ i, hasL i cs = true → i ∈ K) ∧ p.1 ∉ keysO m ∧ p.1 ∉ keysO m' ∧ p.1 ∉ res.ids ∧ p.1 ∉ K ∧ ∀ q ∈ m', p.1 ∉ q.2.ids := fun p hp => by
  have h := List.all_eq_true.1 he p hp
  simp only [Bool.and_eq_true, Bool.not_eq_true', List.all_eq_true] at h
  obtain ⟨⟨⟨⟨⟨h1, h2⟩, h3⟩, h4⟩, h5⟩, h6⟩ := h
  have nb : ∀ {K : List Nat} {i : Nat}, memB K i = false → i ∉ K := fun hf hm => by rw [memB_iff.2 hm] at hf; cases hf
  cases ho : p.2 with
  | pin cs us =>
   rw [ho] at h1
   exact ⟨cs, us, rfl, fun i hi => memB_iff.1 (List.all_eq_true.1 h1 i (hasL_ids hi)), nb h2, nb h3, nb h4, nb h5, fun q hq => nb (h6 q hq)⟩
  | var _ _ => rw [ho] at h1; cases h1
  | row _ _ _ => rw [ho] at h1; cases h1
  | blk _ => rw [ho] at h1; cases h1
 have hr0 : Rep C 0 w0 H L (St.sem ⟨[], m⟩) { tmps := #[], defers := a.defers } w :=
  ⟨hr.glob, hr.heap, rfl, fun i => by simp [St.sem, look, RepV], fun i o ho => hr.objs i o (lookO_appS ho), fun i j o o' g x x' hne ho ho' => hr.apart i j o o' g x x' hne (lookO_appS ho) (lookO_appS ho'), hr.below, hr.defers⟩
 refine (hR w0 H L _ w vals hr0 hra).mono ?_
 rintro ee w' ⟨v, H', L', rfl, hx, hv, hr', hK⟩
 have memE : ∀ {i : Nat}, i ∈ keysO e → ∃ p ∈ e, p.1 = i := fun hi => by obtain ⟨p, hp, e⟩ := List.mem_map.1 hi; exact ⟨p, hp, e⟩
 let L2 : Loc := fun i => if i ∈ keysO e then L i else L' i
 have L2e : ∀ {i}, i ∈ keysO e → L2 i = L i := fun h => if_pos h
 have L2n : ∀ {i}, i ∉ keysO e → L2 i = L' i := fun h => if_neg h
 have L2K : ∀ {i}, i ∈ K → L2 i = L i := fun {i} h => by
  by_cases h2 : i ∈ keysO e
  ·exact L2e h2
  ·rw [L2n h2]; exact hK i h
 have m'n : ∀ {i o}, lookO m' i = some o → i ∉ keysO e := fun {i o} ho hi => by
  obtain ⟨p, hp, rfl⟩ := memE hi
  obtain ⟨_, _, _, _, _, h3, _⟩ := hE p hp
  exact h3 (lookO_key ho)
 have eo : ∀ {i o}, lookO e i = some o → ∃ cs us, o = .pin cs us ∧ (∀ j, hasL j cs = true → j ∈ K) ∧ lookO (m ++ e) i = some o ∧ i ∈ keysO e := fun {i o} ho => by
  obtain ⟨cs, us, h1, h2, h3, _⟩ := hE _ (lookO_mem ho)
  exact ⟨cs, us, h1, h2, by rw [lookO_none_app h3]; exact ho, lookO_key ho⟩
 refine ⟨v, H', L2, rfl, hx, RepV.agree (fun i hi => L2n fun hk => ?_) hv, ⟨hr'.glob, hr'.heap, hr.size, fun i => ?_, fun i o ho => ?_, fun i j o o' g x x' hne ho ho' hl hl' hg => ?_, hr'.below, hr.defers⟩⟩
 ·obtain ⟨p, hp, rfl⟩ := memE hk
  obtain ⟨_, _, _, _, _, _, h4, _⟩ := hE p hp
  exact h4 (has_ids hi)
 ·have hs := hr.slot i
  refine RepV.agree (fun j hj => L2K ?_) (RepV.mono hx.1 (Loc.le_refl _) hs)
  have : ∀ (s : List (Nat × AV)), s.all (fun p => p.2.ids.all (memB K)) = true → ∀ i j, (look s i).has j = true → j ∈ K := by
   intro s
   induction s with
   | nil => intro _ i j h; simp [look, AV.has] at h
   | cons p s ih =>
    intro hs i j h
    obtain ⟨k, y⟩ := p
    simp only [List.all_cons, Bool.and_eq_true] at hs
    simp only [look] at h
    cases hb : Nat.beq k i with
    | true => rw [hb] at h; exact memB_iff.1 (List.all_eq_true.1 hs.1 j (has_ids h))
    | false => rw [hb] at h; exact ih hs.2 i j h
  exact this so hso i j hj
 ·rcases lookO_or ho with ho | ⟨_, ho⟩
  ·refine (hr'.objs i o ho).kept (Heap.le_refl _) (fun _ _ _ h => h) (L2n (m'n ho)) (fun cs hcs vs h => RepL.agree (fun j hj => L2n fun hk => ?_) h) (fun _ _ _ _ => rfl)
   obtain ⟨p, hp, rfl⟩ := memE hk
   obtain ⟨_, _, _, _, _, _, _, _, h6⟩ := hE p hp
   refine h6 _ (lookO_mem ho) ?_
   rcases hcs with ⟨t, rfl⟩ | ⟨us, rfl⟩ <;> exact hasL_ids hj
  ·obtain ⟨cs, us, rfl, h2, h3, h4⟩ := eo ho
   have := hr.objs i _ h3
   exact ⟨by rw [L2e h4]; exact this.1, RepL.agree (fun j hj => L2K (h2 j hj)) (RepL.mono hx.1 (Loc.le_refl _) this.2)⟩
 ·have pinN : ∀ {i o x}, lookO e i = some o → L2 i = some x → ownB x = none := fun {i o x} ho hl => by
   obtain ⟨cs, us, rfl, _, h3, h4⟩ := eo ho
   have := (hr.objs i _ h3).1
   rw [L2e h4, this] at hl
   cases hl
   rfl
  rcases lookO_or ho with ho | ⟨_, ho⟩
  ·rcases lookO_or ho' with ho' | ⟨_, ho'⟩
   ·exact hr'.apart i j o o' g x x' hne ho ho' (by rw [← L2n (m'n ho)]; exact hl) (by rw [← L2n (m'n ho')]; exact hl') hg
   ·rw [pinN ho' hl']; exact fun h => by cases h
  ·rw [pinN ho hl] at hg; cases hg
section
variable {C : Ctx} {n : Nat} {w0 : World} {ops : Array Oper} {Q : Exit → Act → World → Prop}
end
end Go.Ab

namespace Go.Ab
open Go.RowKit
def succB (N : Nat) (ops : Array Oper) : Bool := (List.range N).all fun j => (List.range (N + 1)).any fun k => Nat.blt j k && (match ops[k]? with
 | some o => edgeB j o
 | none => false)
theorem awp_regionSW {C : Ctx} {n : Nat} {Q : Exit → St → Prop} {σ : St} {id : Nat} {ops : Array Oper} (k d : Nat) (y : Operand) (f : FuncId) (caps : List AV) (args : Array Operand) (tys : Array TypeId) (t : TypeId) (p : String) (af : Array Edge) (asx : List AV) (res : AV) (m' : List (Nat × AO))
  (hk : ops[k]? = some ⟨some d, .call { callee := .value y, args := args, argTypes := tys }, t, p, af, none⟩) (hkl : ops.size = k + 1) (hd : dstsB n ops.toList = true) (hb : callable C.P f = true)
  (h : aops C ops σ (ops.toList.take k) fun es σ0 => ∃ σ1, Wk C n σ0 σ1 ∧ σ1.ev y = .clo f caps ∧ args.toList.map σ1.sem.ev ++ caps = asx ∧ SCalls C n f asx σ1.slots σ1.objs res m' ∧ Q .normal ⟨(d, res) :: σ1.slots, m'⟩) :
  awp C n (.region id ops false) Q σ := fun w0 H L a w hr r => by
 obtain ⟨es, σ0, ht, σ1, hwk, hy, has, hS, hq⟩ := h
 have hdst := dsts_spec hd
 have hk' : ops.toList[k]? = some ⟨some d, .call { callee := .value y, args := args, argTypes := tys }, t, p, af, none⟩ := by simpa using hk
 have hops : ops.toList = ops.toList.take k ++ [⟨some d, .call { callee := .value y, args := args, argTypes := tys }, t, p, af, none⟩] := by
  obtain ⟨hl, hx⟩ := List.getElem?_eq_some_iff.1 hk'
  have h1 := List.take_append_drop k ops.toList
  rw [List.drop_eq_getElem_cons hl, hx, List.drop_of_length_le (by simp [hkl])] at h1
  exact h1.symm
 refine wpIn_region ?_
 rw [List.range_eq_range']
 have htl : (ops.toList.take k).length = k := by rw [List.length_take]; simp [hkl]
 have hsz : ops.size = (ops.toList.take k).length + (0 + 1) := by rw [htl, hkl]
 rw [hsz, ← List.range'_append_1, List.range'_succ]
 refine lex_prefix (C := C) (n := n) (w0 := w0) r _ (ops.toList.take k) 0 σ.sem σ0.sem es H L a w (by rw [List.drop_zero, htl]) ht hr (fun o ho => hdst o (List.mem_of_mem_take ho)) fun a2 w2 Hq Lq hxq hrq => ?_
 obtain ⟨H2, L2, hxw, hr2⟩ := hwk w0 Hq Lq a2 w2 hrq
 have hx2 := hxq.trans hxw
 simp only [Nat.zero_add]
 rw [wpOpsIn_cons, htl]
 unfold wpOpIn
 simp only [hk]
 rw [if_pos (by simp [Region.wanted])]
 have hyv := hr2.ev y
 rw [ev_sem, hy] at hyv
 simp only [RepV] at hyv
 obtain ⟨cv, hev, hcr⟩ := hyv
 have hargs : ∀ (xs : List Operand), RepL H2 (xs.map σ1.sem.ev) L2 (xs.map a2.eval) := by
  intro xs
  induction xs with
  | nil => simp only [List.map_nil, RepL]
  | cons x xs ih => simp only [List.map_cons, RepL]; exact ⟨_, _, rfl, hr2.ev x, ih⟩
 have hal := (hargs args.toList).app hcr
 rw [has] at hal
 have hc := hS w0 H2 L2 a2 w2 _ hr2 hal
 have e1 : (List.map a2.eval args.toList ++ cv).toArray = args.map a2.eval ++ cv.toArray := by apply Array.ext'; simp
 rw [e1] at hc
 refine wp_enter (run_call_val rfl hev (callable_spec hb).1 (callable_spec hb).2) (hc.mono ?_) r
 rintro e w3 ⟨v, H3, L3, rfl, hx3, hv3, hr3⟩
 refine ⟨v, rfl, ?_⟩
 have hdn : d < n := hdst ⟨some d, .call { callee := .value y, args := args, argTypes := tys }, t, p, af, none⟩ (List.mem_of_getElem? hk') d rfl
 have hv := hr3.val (dst := some d) (fun d' hd' => by cases hd'; exact hdn) (x := res) (v := v) hv3 [] []
 rw [← sem_app] at hv
 simp only [List.range'_zero]
 rw [wpOpsIn]
 exact ⟨_, H3, L3, hx2.trans hx3, hv, hq⟩
theorem SCalls.le {C : Ctx} {n : Nat} {f : FuncId} {asx as' : List AV} {so : List (Nat × AV)} {m m' : List (Nat × AO)} {res : AV} (h : ∀ H L vs, RepL H asx L vs → RepL H as' L vs) (hS : SCalls C n f as' so m res m') : SCalls C n f asx so m res m' := fun w0 H L a w vals hr hra => hS w0 H L a w vals hr (h H L vals hra)
section
variable {C : Ctx} {ops : Array Oper} {s : List (Nat × AV)} {m : List (Nat × AO)} {K : List Eff → St → Prop} {os : List Oper} {d : Nat} {t : TypeId} {p : String} {af : Array Edge} {g : Option (Nat × Bool)}
end
def lateQ (C : Ctx) (n : Nat) (Q : Exit → St → Prop) : Exit → St → Prop := fun e σ => ∃ σ', Wk C n σ σ' ∧ Q e σ'
theorem awp_late {C : Ctx} {n : Nat} {c : Code} {Q : Exit → St → Prop} {σ : St} (h : awp C n c (lateQ C n Q) σ) : awp C n c Q σ := fun w0 H L a w hr r =>
 wpIn_mono (h w0 H L a w hr r) fun e a' w' hp => by
  obtain ⟨σ1, H1, L1, hx, hr1, σ2, hw, hq⟩ := hp
  obtain ⟨H2, L2, hx2, hr2⟩ := hw w0 H1 L1 a' w' hr1
  exact ⟨σ2, H2, L2, hx.trans hx2, hr2, hq⟩
theorem keep_pin {m : List (Nat × AO)} {pid id : Nat} {o ob : AO} (h : lookO m id = some ob) (hn : lookO m pid = none) : lookO ((pid, o) :: m) id = some ob := by
 simp only [lookO]
 cases hb : Nat.beq pid id with
 | true => have := Nat.eq_of_beq_eq_true hb; subst this; rw [hn] at h; cases h
 | false => exact h
def AO.frzVO (id : Nat) (ob : AO) : AO → AO
 | .var t c => .var t (frzVL id ob c)
 | .row e s c => .row e s c
 | .blk o => .blk o
 | .pin c us => .pin (frzVL id ob c) us
def St.seeV (σ : St) (id : Nat) (ob : AO) : St := ⟨σ.slots.map fun p => (p.1, p.2.frzV id ob), (delO σ.objs id).map fun p => (p.1, AO.frzVO id ob p.2)⟩
theorem Wk.see {C : Ctx} {n : Nat} {σ : St} {id : Nat} {t : TypeId} {cs : List AV} (h : lookO σ.objs id = some (.var t cs)) (hk : closedL cs = true) : Wk C n σ (σ.seeV id (.var t cs)) := fun w0 H L a w hr => by
 obtain ⟨g, vs, hl, hh, hrl, h1, hB, hH⟩ := hr.objs id _ h
 have hle : H.le (fun b => if b = g then some (.cells vs.toArray t (0, 0)) else H b) := fun b o hb => by
  have : b ≠ g := fun e => by subst e; rw [hH] at hb; cases hb
  simp [this, hb]
 have hheap : ∀ b o, (if b = g then some (.cells vs.toArray t (0, 0)) else H b) = some o → w.heap[b]? = some o := fun b o hb => by
  by_cases hbg : b = g
  ·subst hbg; simp at hb; subst hb; exact hh
  ·simp [hbg] at hb; exact hr.heap b o hb
 have hseen : Seen (fun b => if b = g then some (.cells vs.toArray t (0, 0)) else H b) (.var t cs) (.pointer (some ⟨g, 0, none⟩)) := ⟨fun e' sz' cs' he => (by cases he), fun g' hg => by
  simp only [ownB, Option.some.injEq] at hg
  subst hg
  exact ⟨vs.toArray, t, (0, 0), vs, by simp, fun j u hu => by simpa using hu, RepL.mono hle (Loc.le_refl _) (RepL.closed hk hrl), h1⟩⟩
 have r2 := hr.hide h hl hle hheap fun g' hg' => by
  have : g' ≠ g := fun e => hg' (by rw [e]; rfl)
  simp [this]
 have old : ∀ {i : Nat} {o : AO}, lookO ((delO σ.objs id).map fun p => (p.1, AO.frzVO id (.var t cs) p.2)) i = some o → ∃ o0, o = AO.frzVO id (.var t cs) o0 ∧ i ≠ id ∧ lookO σ.objs i = some o0 := fun {i o} hi => by
  rw [lookO_map (fun x => AO.frzVO id (.var t cs) x), lookO_del] at hi
  by_cases hid : i = id
  ·rw [if_pos hid] at hi; cases hi
  ·rw [if_neg hid] at hi
   cases ho : lookO σ.objs i with
   | none => rw [ho] at hi; cases hi
   | some o0 => rw [ho] at hi; cases hi; exact ⟨o0, rfl, hid, rfl⟩
 have mu : ∀ {i : Nat} {o0 : AO}, i ≠ id → lookO σ.objs i = some o0 → (fun j => if j = id then none else (St.sem σ).μ j) i = some o0 := fun hne ho => by simp [hne]; exact ho
 refine ⟨_, L, ⟨hle, fun b hb => ?_⟩, ⟨r2.glob, r2.heap, r2.size, fun i => ?_, fun i o ho => ?_, fun i j o o' gg x x' hne ho ho' hx hx' hg => ?_, r2.below, r2.defers⟩⟩
 ·have : b ≠ g := fun e => by omega
  simp [this]
 ·show RepV _ (look (σ.slots.map fun p => (p.1, p.2.frzV id (.var t cs))) i) L _
  rw [look_map (fun x => x.frzV id (.var t cs)) rfl]
  exact RepV.frzV (Heap.le_refl _) hseen hl (r2.slot i)
 ·obtain ⟨o0, rfl, hne, ho0⟩ := old ho
  have h2 := r2.objs i o0 (mu hne ho0)
  cases o0 with
  | var t' c =>
   obtain ⟨g2, us, a1, a2, a3, a4, a5, a6⟩ := h2
   exact ⟨g2, us, a1, a2, RepL.frzV (Heap.le_refl _) hseen hl a3, a4, a5, a6⟩
  | row e s c => exact h2
  | blk o => exact h2
  | pin c us => exact ⟨h2.1, RepL.frzV (Heap.le_refl _) hseen hl h2.2⟩
 ·obtain ⟨o0, rfl, hne0, ho0⟩ := old ho
  obtain ⟨o1, rfl, hne1, ho1⟩ := old ho'
  exact r2.apart i j o0 o1 gg x x' hne (mu hne0 ho0) (mu hne1 ho1) hx hx' hg
end Go.Ab

namespace Go.Ab
open Go.RowKit
def seesOk (m : List (Nat × AO)) : List (Nat × AO) → Prop
 | [] => True
 | (id, ob) :: r => lookO m id = some ob ∧ ob.seeB = true ∧ seesOk m r
section
variable {C : Ctx} {ops : Array Oper} {s : List (Nat × AV)} {m : List (Nat × AO)} {d : Nat} {t : TypeId} {p : String} {af : Array Edge} {g : Option (Nat × Bool)} {os : List Oper} {K : List Eff → St → Prop}
theorem n_indexArr {ty : TypeId} {x y : Operand} {c e sz id off : Nat} {kk : IntKind} (i r : Nat) (hg : Gd ops s g) (ht : tyArr C.P ty = some (c, e, sz)) (hx : ev s x = .ref id off) (hy : ev s y = nm kk i) (h1 : i < c) (hr : off + i * sz = r)
  (k : aops C ops ⟨(d, .ref id r) :: s, m⟩ os fun es σ' => K ({ val := .ref id r } :: es) σ') : aops C ops ⟨s, m⟩ (⟨some d, .indexAddr ty x y, t, p, af, g⟩ :: os) K := by
 subst hr
 have := Step.indexArr (C := C) (S := St.sem ⟨s, m⟩) (o := ⟨some d, .indexAddr ty x y, t, p, af, g⟩) ty x y c e sz id off kk (i : Int) rfl ht (by rw [ev_st]; exact hx) (by rw [ev_st]; exact hy) (by omega) (by omega)
 rw [Int.toNat_natCast] at this
 exact o_val hg this k
end
end Go.Ab

namespace Go.Ab
open Go.RowKit
def gcells {α : Type} (c : α → List AV) (l : List α) : List AV := l.flatMap c
section
variable {C : Ctx} {ops : Array Oper} {s : List (Nat × AV)} {m : List (Nat × AO)} {d : Nat} {t : TypeId} {p : String} {af : Array Edge} {g : Option (Nat × Bool)} {os : List Oper} {K : List Eff → St → Prop}
end
end Go.Ab

namespace Go.Ab
open Go.RowKit
section
variable {C : Ctx} {ops : Array Oper} {s : List (Nat × AV)} {m : List (Nat × AO)} {K : List Eff → St → Prop} {os : List Oper} {d : Nat} {t : TypeId} {p : String} {af : Array Edge} {g : Option (Nat × Bool)}
end
def idxX : Nat → List (Nat × Bool) → List (Nat × AV)
 | _, [] => []
 | j, (i, b) :: r => (j, bif b then .row i else .ref i 0) :: idxX (j + 1) r
def rowAt (m : List (Nat × AO)) (i : Nat) : Bool := match lookO m i with
 | some (.row ..) => true
 | _ => false
def okX (m m' : List (Nat × AO)) (p : Nat × Bool) : Bool := bif p.2 then rowAt m p.1 else varAt m p.1 && varAt m' p.1
end Go.Ab

namespace Go.Ab
open Go.RowKit
def reachB : Nat → Array Oper → Nat → Nat → Bool
 | 0, _, _, _ => false
 | f + 1, ops, i, j => match ops[j]? with
  | some o => o.after.any fun e => Region.binds .any e && (Nat.beq e.on i || reachB f ops i e.on)
  | none => false
theorem reach_listed {ops : Array Oper} {listed : Array Bool} (hdown : ∀ (j : Nat) (o : Oper), ops[j]? = some o → listed.getD j true = true → ∀ e ∈ o.after, Region.binds .any e = true → listed.getD e.on true = true) (hedge2 : ∀ (j : Nat) (o : Oper), ops[j]? = some o → ∀ e ∈ o.after, Region.binds .any e = true → ∃ o2, ops[e.on]? = some o2) :
  ∀ (f i j : Nat), reachB f ops i j = true → ∀ o, ops[j]? = some o → (∀ e ∈ o.after, Region.binds .any e = true → listed.getD e.on true = true) → listed.getD i true = true
 | 0, i, j, h, _, _, _ => by simp [reachB] at h
 | f + 1, i, j, h, o, ho, hall => by
  unfold reachB at h
  rw [ho] at h
  simp only [Array.any_eq_true'] at h
  obtain ⟨e, he, hb⟩ := h
  simp only [Bool.and_eq_true, Bool.or_eq_true] at hb
  have h1 := hall e he hb.1
  rcases hb.2 with h2 | h2
  ·rw [← Nat.eq_of_beq_eq_true h2]; exact h1
  ·obtain ⟨o2, ho2⟩ := hedge2 j o ho e he hb.1
   exact reach_listed hdown hedge2 f i e.on h2 o2 ho2 (hdown e.on o2 ho2 h1)
def pairsT (ops : Array Oper) : List It → Bool
 | [] => true
 | p :: r => r.all (fun q => lateB p q && (reachB 6 ops p.i q.i || indepB ops p q)) && pairsT ops r
def drawT (ops : Array Oper) (es : List Eff) : Bool := edgesB 0 ops.toList && pairsT ops (items 0 ops.toList es)
theorem pairsT_spec {ops : Array Oper} : ∀ (R : List It), pairsT ops R = true → R.Pairwise (fun p q => lateB p q = true ∧ (reachB 6 ops p.i q.i = true ∨ indepB ops p q = true))
 | [], _ => .nil
 | p :: r, h => by
  simp only [pairsT, Bool.and_eq_true, List.all_eq_true, Bool.or_eq_true] at h
  exact .cons (fun q hq => h.1 q hq) (pairsT_spec r h.2)
section
variable {C : Ctx} {n : Nat} {w0 : World} {ops : Array Oper} {Q : Exit → Act → World → Prop}

theorem any_soundT (r : Option Nat) {S' : SS} (hedge : ∀ j o, ops[j]? = some o → ∀ e ∈ o.after, Region.binds .any e = true → e.on < j) : ∀ (fuel : Nat) (listed : Array Bool) (R : List It) (S : SS) (H : Heap) (L : Loc) (a : Act) (w : World),
  R.length ≤ fuel → listed.size = ops.size → (∀ p ∈ R, ops[p.i]? = some p.o) → (∀ j, listed.getD j true = false → ∃ p ∈ R, p.i = j) → (∀ p ∈ R, listed.getD p.i true = false) →
  R.Pairwise (fun p q => p.i < q.i) → R.Pairwise (fun p q => lateB p q = true ∧ (reachB 6 ops p.i q.i = true ∨ indepB ops p q = true)) →
  (∀ j o, ops[j]? = some o → listed.getD j true = true → ∀ e ∈ o.after, Region.binds .any e = true → listed.getD e.on true = true) →
  (∀ p ∈ R, ∀ id ∈ p.e.fresh, S.Fresh id) → (∀ p ∈ R, ∀ d, p.o.dst = some d → d < n) → Tr C ops S R S' → Rep C n w0 H L S a w →
  (∀ a' w' H' L', Ext w0.heap.size H H' → Rep C n w0 H' L' S' a' w' → Q .normal a' w') → wpAnyIn (fen r) 0 C.P .any ops Q fuel listed a w := by
 intro fuel
 have empty : ∀ (listed : Array Bool) (R : List It), listed.size = ops.size → (∀ p ∈ R, ops[p.i]? = some p.o) → (∀ j, listed.getD j true = false → ∃ p ∈ R, p.i = j) → (∀ p ∈ R, listed.getD p.i true = false) → R.Pairwise (fun p q => p.i < q.i) →
   Region.ready .any ops listed = [] → R = [] := by
  intro listed R hsz hops hun hR hasc hre
  cases R with
  | nil => rfl
  | cons p R =>
   exfalso
   have hp := hops p (by simp)
   have : p.i ∈ Region.ready .any ops listed := by
    rw [mem_ready]
    refine ⟨hR p (by simp), p.o, hp, fun e he hb => ?_⟩
    have hlt := hedge p.i p.o hp e he hb
    have hsize : e.on < listed.size := by rw [hsz]; have := (Array.getElem?_eq_some_iff.1 hp).1; omega
    cases hl : listed[e.on] with
    | true => simp [Array.getD_eq_getD_getElem?, hsize, hl]
    | false =>
     exfalso
     obtain ⟨q, hq, hqe⟩ := hun e.on (by simp [Array.getD_eq_getD_getElem?, hsize, hl])
     rcases List.mem_cons.1 hq with rfl | hq
     ·omega
     ·have := List.rel_of_pairwise_cons hasc hq
      omega
   rw [hre] at this
   cases this
 have stop : ∀ (R : List It) (S : SS) (H : Heap) (L : Loc) (a : Act) (w : World), R = [] → Tr C ops S R S' → Rep C n w0 H L S a w → (∀ a' w' H' L', Ext w0.heap.size H H' → Rep C n w0 H' L' S' a' w' → Q .normal a' w') → Q .normal a w := by
  intro R S H L a w hR ht hr hQ
  subst hR
  cases ht
  exact hQ a w H L (Ext.refl _ _) hr
 induction fuel with
 | zero =>
  intro listed R S H L a w hlen hsz hops hun hR hasc hpw hdown hfr hd ht hr hQ
  have hR0 : R = [] := List.eq_nil_of_length_eq_zero (by omega)
  refine ⟨?_, stop R S H L a w hR0 ht hr hQ⟩
  cases hre : Region.ready .any ops listed with
  | nil => rfl
  | cons j r =>
   have : j ∈ Region.ready .any ops listed := by rw [hre]; simp
   rw [mem_ready] at this
   obtain ⟨q, hq, _⟩ := hun j this.1
   rw [hR0] at hq
   cases hq
 | succ fuel ih =>
  intro listed R S H L a w hlen hsz hops hun hR hasc hpw hdown hfr hd ht hr hQ
  refine ⟨fun hre => stop R S H L a w (empty listed R hsz hops hun hR hasc hre) ht hr hQ, fun j hj => ?_⟩
  obtain ⟨hjun, oj, hoj, hall⟩ := mem_ready.1 hj
  obtain ⟨p, hpR, rfl⟩ := hun j hjun
  have hpo := hops p hpR
  rw [hoj] at hpo
  cases hpo
  have hall2 : ∀ e ∈ p.o.after, Region.binds .any e = true → listed.getD e.on true = true := fun e he hb => by
   have h1 := hall e he hb
   have hs : e.on < listed.size := by have h2 := hedge p.i p.o hoj e he hb; rw [hsz]; have h3 := (Array.getElem?_eq_some_iff.1 hoj).1; omega
   simp [Array.getD_eq_getD_getElem?, hs] at h1 ⊢
   exact h1
  have hedge2 : ∀ (j : Nat) (o : Oper), ops[j]? = some o → ∀ e ∈ o.after, Region.binds .any e = true → ∃ o2, ops[e.on]? = some o2 := fun j o hj e he hb => by
   have h2 := hedge j o hj e he hb
   have h3 := (Array.getElem?_eq_some_iff.1 hj).1
   exact ⟨_, Array.getElem?_eq_getElem (by omega)⟩
  obtain ⟨R1, R2, rfl⟩ := List.append_of_mem hpR
  have hind : ∀ q ∈ R1, indepB ops q p = true := by
   intro q hq
   have := (List.pairwise_append.1 hpw).2.2 q hq p (by simp)
   rcases this.2 with h | h
   ·exfalso
    have hl := reach_listed hdown hedge2 6 q.i p.i h p.o hoj hall2
    rw [hR q (by simp [hq])] at hl
    cases hl
   ·exact h
  obtain ⟨hstep, ht'⟩ := Tr.front R1 S ht hind
  have hsub : (R1 ++ R2).Sublist (R1 ++ p :: R2) := List.Sublist.append (List.Sublist.refl _) (List.sublist_cons_self p R2)
  refine hstep.sound hoj hr (hd p hpR) (hfr p hpR) (fun a' w' H' L' hx hr' => ?_) r
  refine ih (listed.setIfInBounds p.i true) (R1 ++ R2) _ H' L' a' w' (by simp at hlen ⊢; omega) (by simpa using hsz) (fun q hq => hops q (hsub.subset hq)) (fun k hk => ?_) (fun q hq => ?_) (hasc.sublist hsub) (hpw.sublist hsub) (fun k o ho hk e he hb => ?_) (fun q hq id hid => ?_) (fun q hq => hd q (hsub.subset hq)) ht' hr'
   (fun a2 w2 H2 L2 hx2 hr2 => hQ a2 w2 H2 L2 (hx.trans hx2) hr2)
  ·have hkp : p.i ≠ k := by
    intro e
    subst e
    have hlt : p.i < listed.size := by rw [hsz]; exact (Array.getElem?_eq_some_iff.1 hoj).1
    simp [Array.getD_eq_getD_getElem?, hlt] at hk
   rw [getD_set_ne true hkp] at hk
   obtain ⟨q, hq, rfl⟩ := hun k hk
   refine ⟨q, ?_, rfl⟩
   rcases List.mem_append.1 hq with hq | hq
   ·exact List.mem_append_left _ hq
   ·rcases List.mem_cons.1 hq with rfl | hq
    ·exact absurd rfl hkp
    ·exact List.mem_append_right _ hq
  ·have hne : p.i ≠ q.i := by
    rcases List.mem_append.1 hq with hq | hq
    ·have := (List.pairwise_append.1 hasc).2.2 q hq p (by simp)
     omega
    ·have := List.rel_of_pairwise_cons (List.pairwise_append.1 hasc).2.1 hq
     omega
   rw [getD_set_ne true hne]
   exact hR q (hsub.subset hq)
  ·have hps : p.i < listed.size := by rw [hsz]; exact (Array.getElem?_eq_some_iff.1 hoj).1
   have keep : ∀ i, listed.getD i true = true → (listed.setIfInBounds p.i true).getD i true = true := fun i hi => by
    by_cases hip : p.i = i
    ·subst hip; simp [Array.getD_eq_getD_getElem?, hps]
    ·rw [getD_set_ne true hip]; exact hi
   by_cases hkp : p.i = k
   ·subst hkp
    rw [hoj] at ho
    cases ho
    exact keep _ (hall2 e he hb)
   ·rw [getD_set_ne true hkp] at hk
    exact keep _ (hdown k o ho hk e he hb)
  ·have hfq := hfr q (hsub.subset hq) id hid
   rcases List.mem_append.1 hq with hq | hq
   ·have := hind q hq
    simp only [indepB, Bool.and_eq_true, List.all_eq_true, Bool.not_eq_true'] at this
    exact app_fresh hfq (this.2 id hid).1 (this.2 id hid).2
   ·have := (List.rel_of_pairwise_cons (List.pairwise_append.1 hpw).2.1 hq).1
    simp only [lateB, Bool.and_eq_true, List.all_eq_true, Bool.not_eq_true'] at this
    exact app_fresh hfq (this id hid).1 (this id hid).2

theorem region_anyT {S S' : SS} {H : Heap} {L : Loc} {a : Act} {w : World} {id : Nat} {es : List Eff} (hm : C.P.follows .mixedOrders = true) (ht : Trace C ops S ops.toList es S') (hb : drawT ops es = true) (hf : ∀ e ∈ es, ∀ id ∈ e.fresh, S.Fresh id)
  (hr : Rep C n w0 H L S a w) (hd : ∀ o ∈ ops.toList, ∀ d, o.dst = some d → d < n) (hQ : ∀ a' w' H' L', Ext w0.heap.size H H' → Rep C n w0 H' L' S' a' w' → Q .normal a' w') : (Code.region id ops true).wpA C.P Q a w := fun r => by
 refine wpIn_region_any hm ?_
 simp only [drawT, Bool.and_eq_true] at hb
 obtain ⟨hlen, hasc, hit, hex⟩ := items_spec ops.toList es 0 ht.len
 have hr' : Rep C n w0 H L S a { w with drawn := w.drawn + 1 } := ⟨hr.glob, hr.heap, hr.size, hr.slot, fun id o ho => (hr.objs id o ho).kept (Heap.le_refl _) (fun _ _ _ h => h) rfl (fun _ _ _ h => h) (fun _ _ _ _ => rfl), hr.apart, hr.below.drew, hr.defers⟩
 have hfal : ∀ j, (Array.replicate ops.size false).getD j true = false ↔ j < ops.size := by
  intro j
  by_cases hj : j < ops.size
  ·simp [Array.getD_eq_getD_getElem?, hj]
  ·simp [Array.getD_eq_getD_getElem?, hj]
 refine any_soundT r (S' := S') (fun j o hj e he hbb => ?_) ops.size _ (items 0 ops.toList es) S H L a _ (by rw [hlen]; simp) (by simp) (fun p hp => ?_) (fun j hj => ?_) (fun p hp => ?_) hasc (pairsT_spec _ hb.2) (fun j o ho hl => ?_) (fun p hp => ?_) (fun p hp => ?_) (ht.tr 0) hr' hQ
 ·have := edges_spec ops.toList 0 hb.1 j o (by simpa using hj) e he hbb
  omega
 ·have := (hit p hp).2.1
  simpa using this
 ·obtain ⟨p, hp, hpi⟩ := hex j (by simpa using (hfal j).1 hj)
  exact ⟨p, hp, by omega⟩
 ·rw [hfal]
  have := (hit p hp).2.1
  have := (List.getElem?_eq_some_iff.1 this).1
  simpa using this
 ·exfalso
  have hj : j < ops.size := (Array.getElem?_eq_some_iff.1 ho).1
  rw [(hfal j).2 hj] at hl
  cases hl
 ·have := (hit p hp).2.2
  exact hf p.e (List.mem_of_getElem? this)
 ·have := (hit p hp).2.1
  exact hd p.o (List.mem_of_getElem? this)
end
theorem awp_regionT {C : Ctx} {n : Nat} {Q : Exit → St → Prop} {σ : St} {id : Nat} {ops : Array Oper} (hd : dstsB n ops.toList = true) (h : aops C ops σ ops.toList fun es σ' => (drawT ops es && es.all fun e => e.fresh.all σ.freshB) = true ∧ Q .normal σ') : awp C n (.region id ops true) Q σ := fun w0 H L a w hr => by
 obtain ⟨es, σ', ht, hb, hq⟩ := h
 simp only [Bool.and_eq_true] at hb
 exact region_anyT C.mixed ht hb.1 (fun e he id hid => fresh_sem (List.all_eq_true.1 (List.all_eq_true.1 hb.2 e he) id hid)) hr (dsts_spec hd) fun a' w' H' L' hx hr' => ⟨σ', H', L', hx, hr', hq⟩
section
variable {C : Ctx} {ops : Array Oper} {s : List (Nat × AV)} {m : List (Nat × AO)} {K : List Eff → St → Prop} {os : List Oper} {d : Nat} {t : TypeId} {p : String} {af : Array Edge} {g : Option (Nat × Bool)}
theorem n_shr1 {xt yt : TypeId} {x y : Operand} (a : Nat) (hg : Gd ops s g) (hx : ev s x = nm .u64 a) (hy : ev s y = nm .u64 1) (kk : aops C ops ⟨(d, nm .u64 (a / 2)) :: s, m⟩ os fun es σ' => K ({ val := nm .u64 (a / 2) } :: es) σ') :
  aops C ops ⟨s, m⟩ (⟨some d, .binOp .shr xt x y yt, t, p, af, g⟩ :: os) K :=
 o_pure2 (a := .int .u64 (a : Int)) (b := .int .u64 1) (v := .int .u64 ((a / 2 : Nat) : Int)) rfl hg hx hy (fun ρ h1 h2 w => by
  have e : Int.fdiv (a : Int) 2 = ((a / 2 : Nat) : Int) := by rw [Int.fdiv_eq_ediv_of_nonneg _ (by decide)]; rfl
  simp [execOp, h1, h2, eqGuard_int, binOp, Op.shift, IntKind.bits, e]) kk
end
end Go.Ab

namespace Go.Ab
open Go.RowKit
def MarksOk (H : Heap) (B : Nat) : List Deferred → Prop
 | [] => True
 | d :: ds => (∃ D, d = mark D ∧ B ≤ D ∧ H D = some (.deferred (some [])) ∧ ∀ D', mark D' ∈ ds → D' ≠ D) ∧ MarksOk H B ds
theorem MarksOk.le {H H' : Heap} {B : Nat} (hx : H.le H') : ∀ {mk : List Deferred}, MarksOk H B mk → MarksOk H' B mk
 | [], _ => trivial
 | d :: ds, ⟨⟨D, h1, h2, h3, h4⟩, h5⟩ => ⟨⟨D, h1, h2, hx _ _ h3, h4⟩, h5.le hx⟩
theorem MarksOk.known {H : Heap} {B : Nat} : ∀ {mk : List Deferred}, MarksOk H B mk → ∀ {D : Nat}, mark D ∈ mk → H D = some (.deferred (some []))
 | [], _, _, h => by cases h
 | d :: ds, ⟨⟨D, h1, h2, h3, h4⟩, h5⟩, D', h => by
  rcases List.mem_cons.1 h with e | e
  ·rw [h1] at e
   have : D' = D := by simpa [mark] using e
   rw [this]; exact h3
  ·exact h5.known e
def PostM (C : Ctx) (n : Nat) (w0 : World) (H : Heap) (Q : Exit → St → Prop) (e : Exit) (a : Act) (w : World) : Prop := ∃ mk σ' H' L', MarksOk H' w0.heap.size mk ∧ Ext w0.heap.size H H' ∧ Rep { C with marks := mk } n w0 H' L' (St.sem σ') a w ∧ Q e σ'
def awpM (C : Ctx) (n : Nat) (c : Code) (Q : Exit → St → Prop) (σ : St) : Prop :=
 ∀ mk w0 H L a w, MarksOk H w0.heap.size mk → Rep { C with marks := mk } n w0 H L σ.sem a w → c.wpIn (fen none) 0 C.P (PostM C n w0 H Q) a w
def WkM (C : Ctx) (n : Nat) (σ σ' : St) : Prop := ∀ mk, Wk { C with marks := mk } n σ σ'
section
variable {C : Ctx} {n : Nat} {Q : Exit → St → Prop} {σ : St}
theorem PostM.ext {w0 : World} {H H' : Heap} {e : Exit} {a : Act} {w : World} (hx : Ext w0.heap.size H H') (h : PostM C n w0 H' Q e a w) : PostM C n w0 H Q e a w := by
 obtain ⟨mk, σ', H2, L', h1, h2, h3⟩ := h
 exact ⟨mk, σ', H2, L', h1, hx.trans h2, h3⟩
def LoopJ (C : Ctx) (n : Nat) (w0 : World) (H : Heap) (I : Nat → St → Prop) (k : Nat) (a : Act) (w : World) : Prop := ∃ σ' mk' H' L', I k σ' ∧ MarksOk H' w0.heap.size mk' ∧ Ext w0.heap.size H H' ∧ Rep { C with marks := mk' } n w0 H' L' (St.sem σ') a w
end
mutual
/-- What is told of a value speaks of blocks of cells alone. -/
theorem RepV.cells {H H' : Heap} (hH : ∀ b o t fr, H b = some (.cells o t fr) → H' b = some (.cells o t fr)) : ∀ {x : AV} {L : Loc} {v : Value}, RepV H x L v → RepV H' x L v
 | .any, _, _, _ => by simp [RepV]
 | .lit _, _, _, h => by simpa [RepV] using h
 | .sl sz cs, _, _, h => by
  simp only [RepV] at h ⊢
  obtain ⟨A, n, cap, rfl, h1, h2, h3, h4, h4', h5⟩ := h
  refine ⟨A, n, cap, rfl, h1, h2, h3, h4, h4', fun hn => ?_⟩
  obtain ⟨b, off, o, t, fr, vs, e, hb, hc, hr, h1c⟩ := h5 hn
  exact ⟨b, off, o, t, fr, vs, e, hH _ _ _ _ hb, hc, RepL.cells hH hr, h1c⟩
 | .slc sz cs cap, _, _, h => by
  simp only [RepV] at h ⊢
  obtain ⟨A, n, rfl, h1, h2, h3, h4, h4', h5⟩ := h
  refine ⟨A, n, rfl, h1, h2, h3, h4, h4', fun hn => ?_⟩
  obtain ⟨b, off, o, t, fr, vs, e, hb, hc, hr, h1c⟩ := h5 hn
  exact ⟨b, off, o, t, fr, vs, e, hH _ _ _ _ hb, hc, RepL.cells hH hr, h1c⟩
 | .agg fs, _, _, h => by
  simp only [RepV] at h ⊢
  obtain ⟨vs, rfl, hr, h1⟩ := h
  exact ⟨vs, rfl, RepL.cells hH hr, h1⟩
 | .tup fs, _, _, h => by
  simp only [RepV] at h ⊢
  obtain ⟨vs, rfl, hr⟩ := h
  exact ⟨vs, rfl, RepL.cells hH hr⟩
 | .ref id off, _, _, h => by simpa [RepV] using h
 | .row id, _, _, h => by simpa [RepV] using h
 | .vw id off sz n, _, _, h => by simpa [RepV] using h
 | .ip cs, _, _, h => by
  simp only [RepV] at h ⊢
  obtain ⟨b, off, o, t, fr, vs, e, hb, hc, hr, h1c⟩ := h
  exact ⟨b, off, o, t, fr, vs, e, hH _ _ _ _ hb, hc, RepL.cells hH hr, h1c⟩
 | .clo f cs, _, _, h => by
  simp only [RepV] at h ⊢
  obtain ⟨vs, rfl, hr⟩ := h
  exact ⟨vs, rfl, RepL.cells hH hr⟩
theorem RepL.cells {H H' : Heap} (hH : ∀ b o t fr, H b = some (.cells o t fr) → H' b = some (.cells o t fr)) : ∀ {xs : List AV} {L : Loc} {vs : List Value}, RepL H xs L vs → RepL H' xs L vs
 | [], _, _, h => by simpa [RepL] using h
 | x :: xs, _, _, h => by
  simp only [RepL] at h ⊢
  obtain ⟨v, r, rfl, h1, h2⟩ := h
  exact ⟨v, r, rfl, RepV.cells hH h1, RepL.cells hH h2⟩
end
theorem Rep.take {C : Ctx} (hG : ∀ H, C.G H) {n : Nat} {w0 : World} {H : Heap} {L : Loc} {S : SS} {a : Act} {w : World} (hr : Rep C n w0 H L S a w) {D : Nat} {ds : Option (List Deferred)} (h : H D = some (.deferred ds)) (hB : w0.heap.size ≤ D) (o : Obj) :
  Rep C n w0 (fun b => if b = D then none else H b) L S a (w.putObj D o) := by
 have hc : ∀ b o t fr, H b = some (.cells o t fr) → (if b = D then none else H b) = some (.cells o t fr) := fun b o t fr hb => by
  have : b ≠ D := fun e => by rw [e, h] at hb; cases hb
  simp [this, hb]
 have hne : ∀ {g : Nat}, H g = none → g ≠ D := fun hg e => by rw [e, h] at hg; cases hg
 refine ⟨hG _, fun b o' hb => ?_, hr.size, fun i => RepV.cells hc (hr.slot i), fun id ob ho => ?_, hr.apart, hr.below.trans ⟨rfl, rfl, rfl, by simp, fun k hk => World.putObj_heap_other (by omega), Nat.le_refl _⟩, hr.defers⟩
 ·by_cases hbD : b = D
  ·simp [hbD] at hb
  ·simp [hbD] at hb
   rw [World.putObj_heap_other hbD]
   exact hr.heap b o' hb
 ·have h0 := hr.objs id ob ho
  cases ob with
  | var t cs =>
   obtain ⟨g, vs, a1, a2, a3, a4, a5, a6⟩ := h0
   exact ⟨g, vs, a1, by rw [World.putObj_heap_other (hne a6)]; exact a2, RepL.cells hc a3, a4, a5, by simp [a6]⟩
  | row e sz cs =>
   obtain ⟨v, vs, m, a1, a2, a3, a4, a5, a6, a7, a8⟩ := h0
   refine ⟨v, vs, m, a1, a2, ⟨a3.1, a3.2.imp (fun x => x) fun ⟨g, cap, cur, r1, r2, r3, r4⟩ => ⟨g, cap, cur, r1, r2, ?_, r4⟩⟩, RepL.cells hc a4, a5, a6, a7, fun g hg => by simp [a8 g hg]⟩
   rw [World.putObj_heap_other (hne (a8 g (by rw [r1]; rfl)))]; exact r3
  | blk o2 =>
   obtain ⟨g, a1, a2, a3, a4⟩ := h0
   exact ⟨g, a1, by rw [World.putObj_heap_other (hne a4)]; exact a2, a3, by simp [a4]⟩
  | pin cs us => exact ⟨h0.1, RepL.cells hc h0.2⟩
end Go.Ab

namespace Go.Ab
open Go.RowKit
section
variable {C : Ctx} {ops : Array Oper} {s : List (Nat × AV)} {m : List (Nat × AO)} {K : List Eff → St → Prop} {os : List Oper} {d : Nat} {t : TypeId} {p : String} {af : Array Edge} {g : Option (Nat × Bool)}
end
end Go.Ab

namespace Go.Ab
open Go.RowKit
variable {C : Ctx} {ops : Array Oper} {s : List (Nat × AV)} {m : List (Nat × AO)} {K : List Eff → St → Prop} {os : List Oper} {d : Nat} {t : TypeId} {p : String} {af : Array Edge} {g : Option (Nat × Bool)}
end Go.Ab

namespace Go.Ab
open Go.RowKit
variable {C : Ctx} {ops : Array Oper} {s : List (Nat × AV)} {m : List (Nat × AO)} {K : List Eff → St → Prop} {os : List Oper} {d : Nat} {t : TypeId} {p : String} {af : Array Edge} {g : Option (Nat × Bool)}
theorem o_ext3 {f : FuncId} {fn : Func} {e : Array Value → Sem Value} {ts : Array TypeId} {x y z : Operand} {a b c v : Value} (hf : C.P.funcs[f]? = some fn) (hname : (fn.name == "runtime.NumGoroutine") = false) (hb : fn.body.isNone = true) (hn : Extern.findNext fn = none) (he : Extern.find fn = some e)
  (hv : ∀ w, (e #[a, b, c]).run C.P w = .ok v w) (hg : Gd ops s g) (hx : ev s x = .lit a) (hy : ev s y = .lit b) (hz : ev s z = .lit c)
  (k : aops C ops ⟨(d, .lit v) :: s, m⟩ os fun es σ' => K ({ val := .lit v } :: es) σ') : aops C ops ⟨s, m⟩ (⟨some d, .call { callee := .value (.func f), args := #[x, y, z], argTypes := ts }, t, p, af, g⟩ :: os) K :=
 o_val hg (.pure v fun ρ hρ w => by
  have h0 := hρ (.func f) (by simp [Op.operands, Call.operands]) (.func (.func f) #[] #[]) (by rw [ev_st]; exact ⟨rfl, rfl⟩)
  have h1 := hρ x (by simp [Op.operands, Call.operands]) a (by rw [ev_st]; exact AV.isLit_of hx)
  have h2 := hρ y (by simp [Op.operands, Call.operands]) b (by rw [ev_st]; exact AV.isLit_of hy)
  have h3 := hρ z (by simp [Op.operands, Call.operands]) c (by rw [ev_st]; exact AV.isLit_of hz)
  have hr := run_callFunc_extern hf hname hb hn he #[a, b, c] w
  rw [hv w] at hr
  simp [execOp, resolve, invoke, Deferred.ofValue, h0, h1, h2, h3, hr]) k
abbrev W64 (a b : Nat) : AV := .lit (.tuple #[.int .u64 (a : Int), .int .u64 (b : Int)])
theorem o_add64 {f : FuncId} {fn : Func} {ts : Array TypeId} {x y z : Operand} (a b c : Nat) (hf : C.P.funcs[f]? = some fn) (hname : (fn.name == "runtime.NumGoroutine") = false) (hb : fn.body.isNone = true) (hn : Extern.findNext fn = none) (he : Extern.find fn = some add64Entry)
  (hc : c ≤ 1) (hg : Gd ops s g) (hx : ev s x = nm .u64 a) (hy : ev s y = nm .u64 b) (hz : ev s z = nm .u64 c)
  (k : aops C ops ⟨(d, W64 ((a + b + c) % 18446744073709551616) ((a + b + c) / 18446744073709551616)) :: s, m⟩ os fun es σ' => K ({ val := W64 ((a + b + c) % 18446744073709551616) ((a + b + c) / 18446744073709551616) } :: es) σ') :
  aops C ops ⟨s, m⟩ (⟨some d, .call { callee := .value (.func f), args := #[x, y, z], argTypes := ts }, t, p, af, g⟩ :: os) K :=
 o_ext3 hf hname hb hn he (fun w => by
  rw [run_add64 a b c (by omega) (by omega) (by omega) (by omega)]
  congr 4 <;> omega) hg hx hy hz k
def subEntry : Array Value → Sem Value := fun args => do
 let (x, y, b) ← Extern.MathBitsCarry.three "Sub64" args
 pure (Extern.MathBitsCarry.pair ((x + Extern.MathBitsCarry.m64 - y - b) % Extern.MathBitsCarry.m64) (if x < y + b then 1 else 0))
theorem run_subEntry {P : Program} (x y b : Nat) (hb : b ≤ 1) (w : World) :
  (subEntry #[.int .u64 x, .int .u64 y, .int .u64 b]).run P w = .ok (.tuple #[.int .u64 (((x + 18446744073709551616 - y - b) % 18446744073709551616 : Nat) : Int), .int .u64 ((if x < y + b then 1 else 0 : Nat) : Int)]) w := by
 have : b = 0 ∨ b = 1 := by omega
 rcases this with rfl | rfl <;> rfl
theorem o_sub64 {f : FuncId} {fn : Func} {ts : Array TypeId} {x y z : Operand} (a b c : Nat) (hf : C.P.funcs[f]? = some fn) (hname : (fn.name == "runtime.NumGoroutine") = false) (hb : fn.body.isNone = true) (hn : Extern.findNext fn = none) (he : Extern.find fn = some subEntry)
  (hc : c ≤ 1) (hg : Gd ops s g) (hx : ev s x = nm .u64 a) (hy : ev s y = nm .u64 b) (hz : ev s z = nm .u64 c)
  (k : aops C ops ⟨(d, W64 ((a + 18446744073709551616 - b - c) % 18446744073709551616) (if a < b + c then 1 else 0)) :: s, m⟩ os fun es σ' => K ({ val := W64 ((a + 18446744073709551616 - b - c) % 18446744073709551616) (if a < b + c then 1 else 0) } :: es) σ') :
  aops C ops ⟨s, m⟩ (⟨some d, .call { callee := .value (.func f), args := #[x, y, z], argTypes := ts }, t, p, af, g⟩ :: os) K :=
 o_ext3 hf hname hb hn he (fun w => run_subEntry a b c hc w) hg hx hy hz k
theorem o_ext0 {x : Operand} (a b : Nat) (hg : Gd ops s g) (hx : ev s x = W64 a b) (kk : aops C ops ⟨(d, nm .u64 a) :: s, m⟩ os fun es σ' => K ({ val := nm .u64 a } :: es) σ') :
  aops C ops ⟨s, m⟩ (⟨some d, .extract x 0, t, p, af, g⟩ :: os) K :=
 o_pure1 (v := .int .u64 (a : Int)) rfl hg hx (fun ρ h1 w => by simp [execOp, h1, Instr.extract]) kk
theorem o_ext1 {x : Operand} (a b : Nat) (hg : Gd ops s g) (hx : ev s x = W64 a b) (kk : aops C ops ⟨(d, nm .u64 b) :: s, m⟩ os fun es σ' => K ({ val := nm .u64 b } :: es) σ') :
  aops C ops ⟨s, m⟩ (⟨some d, .extract x 1, t, p, af, g⟩ :: os) K :=
 o_pure1 (v := .int .u64 (b : Int)) rfl hg hx (fun ρ h1 w => by simp [execOp, h1, Instr.extract]) kk
theorem wrap_u64 (n : Nat) : IntKind.u64.wrap (n : Int) = ((n % 18446744073709551616 : Nat) : Int) := by simp [IntKind.wrap, IntKind.bits, IntKind.signed]
theorem n_shl {xt yt : TypeId} {x y : Operand} {ky : IntKind} (a n : Nat) (hg : Gd ops s g) (hx : ev s x = nm .u64 a) (hy : ev s y = nm ky n) (hn : n ≤ 64) (kk : aops C ops ⟨(d, nm .u64 (a * 2 ^ n % 18446744073709551616)) :: s, m⟩ os fun es σ' => K ({ val := nm .u64 (a * 2 ^ n % 18446744073709551616) } :: es) σ') :
  aops C ops ⟨s, m⟩ (⟨some d, .binOp .shl xt x y yt, t, p, af, g⟩ :: os) K :=
 o_pure2 (a := .int .u64 (a : Int)) (b := .int ky n) (v := .int .u64 ((a * 2 ^ n % 18446744073709551616 : Nat) : Int)) rfl hg hx hy (fun ρ h1 h2 w => by
  have e : min n 64 = n := by omega
  have e2 := wrap_u64 (a * 2 ^ n)
  rw [Int.natCast_mul, Int.natCast_pow] at e2
  simp only [execOp, h1, h2, eqGuard_int, binOp, Op.shift, IntKind.bits, Int.toNat_natCast, e]
  have e3 : ¬ ((n : Int) < 0) := by omega
  simp only [e3, if_false]
  simp [eqGuard_int] at e2 ⊢
  exact e2) kk
theorem n_shr {xt yt : TypeId} {x y : Operand} {ky : IntKind} (a n : Nat) (hg : Gd ops s g) (hx : ev s x = nm .u64 a) (hy : ev s y = nm ky n) (hn : n ≤ 64) (kk : aops C ops ⟨(d, nm .u64 (a / 2 ^ n)) :: s, m⟩ os fun es σ' => K ({ val := nm .u64 (a / 2 ^ n) } :: es) σ') :
  aops C ops ⟨s, m⟩ (⟨some d, .binOp .shr xt x y yt, t, p, af, g⟩ :: os) K :=
 o_pure2 (a := .int .u64 (a : Int)) (b := .int ky n) (v := .int .u64 ((a / 2 ^ n : Nat) : Int)) rfl hg hx hy (fun ρ h1 h2 w => by
  have e : min n 64 = n := by omega
  have e2 : Int.fdiv (a : Int) (2 ^ n) = ((a / 2 ^ n : Nat) : Int) := by
   rw [Int.fdiv_eq_ediv_of_nonneg _ (Int.le_of_lt (Int.pow_pos (by decide)))]
   simp
  simp only [execOp, h1, h2, eqGuard_int, binOp, Op.shift, IntKind.bits, Int.toNat_natCast, e]
  have e3 : ¬ ((n : Int) < 0) := by omega
  simp only [e3, if_false]
  simp [eqGuard_int, e2]) kk
theorem n_or {xt yt : TypeId} {x y : Operand} (a b : Nat) (hg : Gd ops s g) (hx : ev s x = nm .u64 a) (hy : ev s y = nm .u64 b) (ha : a < 18446744073709551616) (hb : b < 18446744073709551616) (kk : aops C ops ⟨(d, nm .u64 (a ||| b)) :: s, m⟩ os fun es σ' => K ({ val := nm .u64 (a ||| b) } :: es) σ') :
  aops C ops ⟨s, m⟩ (⟨some d, .binOp .or xt x y yt, t, p, af, g⟩ :: os) K :=
 o_pure2 (a := .int .u64 (a : Int)) (b := .int .u64 b) (v := .int .u64 ((a ||| b : Nat) : Int)) rfl hg hx hy (fun ρ h1 h2 w => by
  have hl : a ||| b < 2 ^ 64 := Nat.or_lt_two_pow ha hb
  have e : (BitVec.ofNat 64 a ||| BitVec.ofNat 64 b).toNat = a ||| b := by
   rw [BitVec.toNat_or, BitVec.toNat_ofNat, BitVec.toNat_ofNat, Nat.mod_eq_of_lt ha, Nat.mod_eq_of_lt hb]
  have e2 := wrap_u64 (a ||| b)
  rw [Nat.mod_eq_of_lt hl] at e2
  simp only [execOp, h1, h2, eqGuard_int, binOp, Op.intBits, IntKind.bits]
  simp [eqGuard_int]
  exact (congrArg (fun z : Nat => IntKind.u64.wrap (z : Int)) e).trans e2) kk
end Go.Ab

