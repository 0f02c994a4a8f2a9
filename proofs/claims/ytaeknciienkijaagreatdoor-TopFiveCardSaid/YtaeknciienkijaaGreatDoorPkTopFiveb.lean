/- What the proof of a row of this seat leans on (part 2 of 6): a library of abstract values, walks of functions, and plain laws. -/
import Derived.Shelf.Small.Bits
import Derived.Shelf.Small.Wraps
import Derived.Shelf.Strconv.Itoa0
import Derived.Shelf.Strconv.Itoa1
import Derived.Shelf.LaysM
import Derived.Shelf.Strconv.Itoa2
import Derived.Shelf.Strconv.Itoa3
import Derived.Shelf.Strconv.Clone
import Derived.Shelf.Strconv.SyntaxError
import Derived.Shelf.LaysC
import Derived.Shelf.Strconv.ToError
import Derived.Shelf.Strconv.Lower
import Derived.Shelf.Strconv.ParseUint10
import Derived.Shelf.Strconv.ParseUint10Empty
import Derived.Shelf.Strconv.ParseUint10Any
import Derived.Shelf.Strconv.RangeError
import Derived.Shelf.Strconv.ToErrorRange
import Derived.Shelf.Strconv.ParseUintEmpty
import Derived.Shelf.Strconv.ParseUint10b64
import Derived.Shelf.Strconv.ParseUint10b32
import Derived.Shelf.Strconv.ParseUint10b16
import Derived.Shelf.Strconv.ParseUint10b8
import Derived.Shelf.Strconv.ParseUint10At
import Derived.Ground.MpProg
import Derived.Shelf.Pu.ParseUintPublic10
import Derived.Shelf.Pu.ErrVarParseUint
import Derived.Ground.Names2Prog
import Derived.Shelf.Slices.Clone
import Derived.Shelf.Slices.SearchI
import Derived.Ground.SlgnProg
import Derived.Shelf.SlicesE.Clone
import Derived.Test.YtaeknciienkijaaGreatDoorProg
import Derived.RangeFuncIn
import Derived.RangeFuncRecord
import Derived.RangeFuncLeaves
import Derived.Deep.DeepHandedRow
import Derived.Lay
import Derived.Lib.LaidTab
import Derived.Lib.SmallJoins
import Derived.Carry
import Derived.SizedLaws
import Derived.ProofKit
import Derived.OpenShut
import Derived.ShutString
import Derived.ChangeOld
import Derived.ChangeSlices
import Derived.MakeChecks
import Derived.Test.YtaeknciienkijaaGreatDoorCards
import Derived.Test.YtaeknciienkijaaGreatDoorTie
import Derived.Stop.LaidErr
import Derived.Test.YtaeknciienkijaaGreatDoorPkTopFivea
set_option linter.unusedVariables false
set_option linter.unusedSimpArgs false
namespace Go.Ab
open Go.RowKit

mutual
def AV.ren (id id' : Nat) : AV → AV
 | .row i => bif Nat.beq i id then .row id' else .row i
 | .ref i o => bif Nat.beq i id then .ref id' o else .ref i o
 | .vw i o s k => bif Nat.beq i id then .vw id' o s k else .vw i o s k
 | .agg fs => .agg (renL id id' fs)
 | .tup fs => .tup (renL id id' fs)
 | .clo f fs => .clo f (renL id id' fs)
 | .any => .any
 | .lit v => .lit v
 | .sl s c => .sl s c
 | .slc s c k => .slc s c k
 | .ip c => .ip c
def renL (id id' : Nat) : List AV → List AV
 | [] => []
 | x :: xs => x.ren id id' :: renL id id' xs
end
mutual
theorem RepV.ren {H : Heap} {id id' : Nat} : ∀ {x : AV} {L : Loc} {v : Value}, x.has id' = false → RepV H x L v → RepV H (x.ren id id') (L.set id' (L id)) v
 | .any, _, _, _, _ => by simp [AV.ren, RepV]
 | .lit _, _, _, _, h => by simpa [AV.ren, RepV] using h
 | .sl s c, L, _, _, h => by simpa [AV.ren, RepV] using h
 | .slc s c _, L, _, _, h => by simpa [AV.ren, RepV] using h
 | .ip c, L, _, _, h => by simpa [AV.ren, RepV] using h
 | .ref i o, L, _, hn, h => by
  simp only [AV.ren]
  cases hb : Nat.beq i id with
  | true =>
   have := Nat.eq_of_beq_eq_true hb
   subst this
   simp only [cond_true, RepV] at h ⊢
   obtain ⟨x, g, h1, h2, h3⟩ := h
   exact ⟨x, g, by simp [Loc.set, h1], h2, h3⟩
  | false => exact RepV.setL hn h
 | .vw i o s k, L, v, hn, h => by
  simp only [AV.ren]
  cases hb : Nat.beq i id with
  | true =>
   have := Nat.eq_of_beq_eq_true hb
   subst this
   simp only [cond_true, RepV] at h ⊢
   obtain ⟨x, g, A, cap, h1, h2⟩ := h
   exact ⟨x, g, A, cap, by simp [Loc.set, h1], h2⟩
  | false => exact RepV.setL hn h
 | .row i, L, v, hn, h => by
  simp only [AV.ren]
  cases hb : Nat.beq i id with
  | true =>
   have := Nat.eq_of_beq_eq_true hb
   subst this
   simp only [cond_true, RepV] at h ⊢
   exact ⟨by simp [Loc.set, h.1], h.2⟩
  | false => exact RepV.setL hn h
 | .agg fs, _, _, hn, h => by
  simp only [AV.ren, AV.has, RepV] at h hn ⊢
  obtain ⟨vs, rfl, hr, h1⟩ := h
  exact ⟨vs, rfl, RepL.ren hn hr, h1⟩
 | .tup fs, _, _, hn, h => by
  simp only [AV.ren, AV.has, RepV] at h hn ⊢
  obtain ⟨vs, rfl, hr⟩ := h
  exact ⟨vs, rfl, RepL.ren hn hr⟩
 | .clo f fs, _, _, hn, h => by
  simp only [AV.ren, AV.has, RepV] at h hn ⊢
  obtain ⟨vs, rfl, hr⟩ := h
  exact ⟨vs, rfl, RepL.ren hn hr⟩
theorem RepL.ren {H : Heap} {id id' : Nat} : ∀ {xs : List AV} {L : Loc} {vs : List Value}, hasL id' xs = false → RepL H xs L vs → RepL H (renL id id' xs) (L.set id' (L id)) vs
 | [], _, _, _, h => by simpa [renL, RepL] using h
 | x :: xs, _, _, hn, h => by
  simp only [renL, RepL, hasL, Bool.or_eq_false_iff] at h hn ⊢
  obtain ⟨v, r, rfl, h1, h2⟩ := h
  exact ⟨v, r, rfl, RepV.ren hn.1 h1, RepL.ren hn.2 h2⟩
end
def AO.frz (id sz : Nat) (cs : List AV) : AO → AO
 | .var t c => .var t (frzL id sz cs c)
 | .row e s c => .row e s c
 | .blk o => .blk o
 | .pin c us => .pin (frzL id sz cs c) us
def AO.ren (id id' : Nat) : AO → AO
 | .var t c => .var t (renL id id' c)
 | .row e s c => .row e s c
 | .blk o => .blk o
 | .pin c us => .pin (renL id id' c) us
def St.frz (σ : St) (id sz : Nat) (cs : List AV) : St := ⟨σ.slots.map fun p => (p.1, p.2.frz id sz cs), (delO σ.objs id).map fun p => (p.1, p.2.frz id sz cs)⟩
def St.ren (σ : St) (id id' : Nat) : St := ⟨σ.slots.map fun p => (p.1, p.2.ren id id'), σ.objs.map fun p => (bif Nat.beq p.1 id then id' else p.1, p.2.ren id id')⟩

theorem look_map (f : AV → AV) (hf : f .any = .any) (l : List (Nat × AV)) (i : Nat) : look (l.map fun p => (p.1, f p.2)) i = f (look l i) := by
 induction l with
 | nil => simp [look, hf]
 | cons p l ih =>
  obtain ⟨j, v⟩ := p
  simp only [List.map_cons, look]
  cases Nat.beq j i with
  | true => rfl
  | false => exact ih
theorem lookO_map (f : AO → AO) (l : List (Nat × AO)) (i : Nat) : lookO (l.map fun p => (p.1, f p.2)) i = (lookO l i).map f := by
 induction l with
 | nil => rfl
 | cons p l ih =>
  obtain ⟨j, v⟩ := p
  simp only [List.map_cons, lookO]
  cases Nat.beq j i with
  | true => rfl
  | false => exact ih

section
variable {C : Ctx} {n : Nat} {Q : Exit → St → Prop} {σ : St}

theorem Wk.freeze {id e sz : Nat} {cs : List AV} (h : lookO σ.objs id = some (.row e sz cs)) : Wk C n σ (σ.frz id sz cs) := fun w0 H L a w hr => by
 obtain ⟨v, vs, m, hl, hlen, hown, hrl, h1, hsz, hmx, hH⟩ := hr.objs id _ h
 have hv : ∃ H', H.le H' ∧ RepV H' (.sl sz cs) noLoc v ∧ (∀ b o, H' b = some o → w.heap[b]? = some o) ∧ Ext w0.heap.size H H' ∧ ∀ g, ownB v ≠ some g → H' g = H g := by
  rcases hown.2 with ⟨rfl, rfl⟩ | ⟨g, cap, cur, rfl, hB, hh, hnc, hcm, hcs, htake⟩
  ·refine ⟨H, Heap.le_refl _, ?_, hr.heap, Ext.refl _ _, fun _ _ => rfl⟩
   simp only [RepV]
   exact ⟨none, 0, 0, rfl, Nat.le_refl _, by simp [maxLen], hsz, hlen, ⟨hmx, fun _ => rfl⟩, fun hp => absurd hp (by omega)⟩
  ·refine ⟨fun b => if b = g then some (.cells cur e (0, 0)) else H b, fun b o hb => ?_, ?_, fun b o hb => ?_, ⟨fun b o hb => ?_, fun b hb => ?_⟩, fun g' hg' => ?_⟩
   ·have : b ≠ g := fun e => by subst e; rw [hH b rfl] at hb; cases hb
    simp [this, hb]
   ·simp only [RepV]
    refine ⟨_, m, cap, rfl, hnc, hcm, hsz, hlen, ⟨hmx, by simp⟩, fun hp => ⟨g, 0, cur, e, (0, 0), vs, rfl, by simp, fun j u hu => ?_, RepL.mono (fun b o hb => ?_) (Loc.le_refl _) hrl, h1⟩⟩
    ·rw [← htake, List.getElem?_take] at hu
     split at hu
     ·simpa using hu
     ·cases hu
    ·have : b ≠ g := fun e => by subst e; rw [hH b rfl] at hb; cases hb
     simp [this, hb]
   ·by_cases hbg : b = g
    ·subst hbg; simp at hb; subst hb; exact hh
    ·simp [hbg] at hb; exact hr.heap b o hb
   ·have : b ≠ g := fun e => by subst e; rw [hH b rfl] at hb; cases hb
    simp [this, hb]
   ·have : b ≠ g := fun e => by omega
    simp [this]
   ·have : g' ≠ g := fun e => hg' (by rw [e]; rfl)
    simp [this]
 obtain ⟨H', hle, hsl, hheap, hext, hoff⟩ := hv
 refine ⟨H', L, hext, ⟨C.mono _ _ hle hr.glob, hheap, hr.size, fun i => ?_, fun i o ho => ?_, fun i j o o' g x x' hne hi hj => ?_, hr.below, hr.defers⟩⟩
 ·show RepV H' (look (σ.slots.map fun p => (p.1, p.2.frz id sz cs)) i) L _
  rw [look_map (fun x => x.frz id sz cs) rfl]
  exact RepV.frz hle hsl hl (hr.slot i)
 ·have ho' : lookO ((delO σ.objs id).map fun p => (p.1, p.2.frz id sz cs)) i = some o := ho
  rw [lookO_map (fun x => x.frz id sz cs), lookO_del] at ho'
  by_cases hi : i = id
  ·simp [hi] at ho'
  ·simp [hi] at ho'
   obtain ⟨o2, ho2, rfl⟩ := ho'
   have hro := hr.objs i o2 ho2
   have hoff' : ∀ x g, L i = some x → ownB x = some g → H' g = none := fun x g hx hg => by
    rw [hoff g (fun e => hr.apart i id o2 _ g x v hi ho2 h hx hl hg e)]
    exact hro.place hx hg
   cases o2 with
   | var t c =>
    obtain ⟨g, us, a1, a2, a3, a4, a5, a6⟩ := hro
    exact ⟨g, us, a1, a2, RepL.frz hle hsl hl a3, a4, a5, hoff' _ g a1 rfl⟩
   | row e' s c =>
    obtain ⟨u, us, k, a1, a2, a3, a4, a5, a6, a7, a8⟩ := hro
    exact ⟨u, us, k, a1, a2, a3, RepL.mono hle (Loc.le_refl _) a4, a5, a6, a7, fun g hg => hoff' u g a1 hg⟩
   | blk o =>
    obtain ⟨g, a1, a2, a3, a4⟩ := hro
    exact ⟨g, a1, a2, a3, hoff' _ g a1 rfl⟩
   | pin c us => exact ⟨hro.1, RepL.frz hle hsl hl hro.2⟩
 ·have old : ∀ k ob, lookO ((delO σ.objs id).map fun p => (p.1, p.2.frz id sz cs)) k = some ob → ∃ ob', σ.sem.μ k = some ob' := fun k ob hk => by
   rw [lookO_map (fun x => x.frz id sz cs), lookO_del] at hk
   by_cases hi : k = id
   ·simp [hi] at hk
   ·simp [hi] at hk
    obtain ⟨o2, ho2, _⟩ := hk
    exact ⟨o2, ho2⟩
  obtain ⟨o1, h1'⟩ := old i o hi
  obtain ⟨o2, h2'⟩ := old j o' hj
  exact hr.apart i j o1 o2 g x x' hne h1' h2'

theorem lookO_ren {l : List (Nat × AO)} {id id' : Nat} (hf : l.all (fun p => !Nat.beq p.1 id') = true) (j : Nat) : lookO (l.map fun p => (bif Nat.beq p.1 id then id' else p.1, p.2.ren id id')) j = if j = id' then (lookO l id).map (AO.ren id id') else if j = id then none else (lookO l j).map (AO.ren id id') := by
 induction l with
 | nil => simp [lookO]
 | cons p l ih =>
  obtain ⟨k, o⟩ := p
  simp only [List.all_cons, Bool.and_eq_true, Bool.not_eq_true'] at hf
  have hk := Nat.ne_of_beq_eq_false hf.1
  simp only [List.map_cons, lookO, ih hf.2]
  cases hb : Nat.beq k id with
  | true =>
   have := Nat.eq_of_beq_eq_true hb
   subst this
   by_cases h1 : j = id'
   ·subst h1; simp
   ·have hb1 : Nat.beq id' j = false := beq_ne (fun e => h1 e.symm)
    by_cases h2 : j = k
    ·subst h2; simp [h1, hb1]
    ·simp [h1, h2, hb1, beq_ne (fun e => h2 e.symm)]
  | false =>
   have hki := Nat.ne_of_beq_eq_false hb
   by_cases h1 : j = id'
   ·subst h1
    simp [hf.1]
   ·by_cases h2 : j = id
    ·subst h2; simp [h1, hb]
    ·by_cases h3 : j = k
     ·subst h3; simp [h1, h2]
     ·simp [h1, h2, beq_ne (fun e => h3 e.symm)]

theorem Wk.ren {id id' : Nat} (hf : σ.freshB id' = true) : Wk C n σ (σ.ren id id') := fun w0 H L a w hr => by
 have hfr := fresh_sem hf
 have hk : σ.objs.all (fun p => !Nat.beq p.1 id') = true := by
  simp only [St.freshB, Bool.and_eq_true] at hf
  refine List.all_eq_true.2 fun p hp => ?_
  have := List.all_eq_true.1 hf.2 p hp
  simp only [Bool.and_eq_true] at this
  exact this.1
 have keep : ∀ (i j : Nat) (o : AO), j ≠ id' → i = (if j = id then id' else j) → σ.sem.μ j = some o → RepO H w0.heap.size w (L.set id' (L id)) i (o.ren id id') := by
  intro i j o hj hi ho
  have hL : (L.set id' (L id)) i = L j := by
   by_cases h : j = id
   ·subst h; simp at hi; subst hi; simp [Loc.set]
   ·simp [h] at hi; subst hi; simp [Loc.set, hj]
  have hro := hr.objs j o ho
  cases o with
  | var t c =>
   obtain ⟨g, us, a1, a2, a3, a4⟩ := hro
   exact ⟨g, us, by rw [hL]; exact a1, a2, RepL.ren (hfr.2.2 j _ ho) a3, a4⟩
  | row e' s c =>
   obtain ⟨u, us, k, a1, a2⟩ := hro
   exact ⟨u, us, k, by rw [hL]; exact a1, a2⟩
  | blk o =>
   obtain ⟨g, a1, a2⟩ := hro
   exact ⟨g, by rw [hL]; exact a1, a2⟩
  | pin c us => exact ⟨by rw [hL]; exact hro.1, RepL.ren (hfr.2.2 j _ ho) hro.2⟩
 have inv : ∀ i o, (σ.ren id id').sem.μ i = some o → ∃ j o', j ≠ id' ∧ i = (if j = id then id' else j) ∧ σ.sem.μ j = some o' ∧ o = o'.ren id id' := by
  intro i o ho
  have ho' : lookO (σ.objs.map fun p => (bif Nat.beq p.1 id then id' else p.1, p.2.ren id id')) i = some o := ho
  rw [lookO_ren hk] at ho'
  have hne : ∀ j o', σ.sem.μ j = some o' → j ≠ id' := fun j o' hj e => by subst e; rw [hfr.1] at hj; cases hj
  by_cases h1 : i = id'
  ·subst h1
   simp at ho'
   obtain ⟨o', h2, rfl⟩ := ho'
   exact ⟨id, o', hne id o' h2, by simp, h2, rfl⟩
  ·by_cases h2 : i = id
   ·simp only [h1, if_false] at ho'
    simp [h2] at ho'
   ·simp [h1, h2] at ho'
    obtain ⟨o', h3, rfl⟩ := ho'
    exact ⟨i, o', h1, by simp [h2], h3, rfl⟩
 refine ⟨H, L.set id' (L id), Ext.refl _ _, ⟨hr.glob, hr.heap, hr.size, fun i => ?_, fun i o ho => ?_, fun i j o o' g x x' hne hi hj hl hl' hg => ?_, hr.below, hr.defers⟩⟩
 ·show RepV H (look (σ.slots.map fun p => (p.1, p.2.ren id id')) i) _ _
  rw [look_map (fun x => x.ren id id') rfl]
  exact RepV.ren (hfr.2.1 i) (hr.slot i)
 ·obtain ⟨j, o', h1, h2, h3, rfl⟩ := inv i o ho
  exact keep i j o' h1 h2 h3
 ·obtain ⟨j1, o1, a1, a2, a3, _⟩ := inv i o hi
  obtain ⟨j2, o2, b1, b2, b3, _⟩ := inv j o' hj
  have hL : ∀ i j, j ≠ id' → i = (if j = id then id' else j) → (L.set id' (L id)) i = L j := fun i j hj hi => by
   by_cases h : j = id
   ·subst h; simp at hi; subst hi; simp [Loc.set]
   ·simp [h] at hi; subst hi; simp [Loc.set, hj]
  rw [hL i j1 a1 a2] at hl
  rw [hL j j2 b1 b2] at hl'
  exact hr.apart j1 j2 o1 o2 g x x' (fun e => hne (by rw [a2, b2, e])) a3 b3 hl hl' hg

theorem Wk.newNil {i id e sz : Nat} (hs : look σ.slots i = .lit (.slice none 0 0)) (hf : σ.freshB id = true) (hsz : 0 < sz) : Wk C n σ ⟨(i, .row id) :: σ.slots, (id, .row e sz []) :: σ.objs⟩ := fun w0 H L a w hr => by
 have hv : a.tmps.getD i undef = .slice none 0 0 := by
  have := hr.slot i
  rw [show σ.sem.ρ i = look σ.slots i from rfl, hs] at this
  simpa [RepV] using this
 have hnew := hr.new (id := id) (ob := .row e sz []) (x := .slice none 0 0) (w' := w) (fresh_sem hf) (Bel.refl _ _) (fun g hg => by simp [ownB] at hg)
  ⟨.slice none 0 0, [], 0, by simp [Loc.set], by simp, World.ownsRow_nil w _ e sz, by simp [RepL], by simp, hsz, by simp, fun g hg => by simp [ownB] at hg⟩ hr.heap
 refine ⟨H, L.set id (some (.slice none 0 0)), Ext.refl _ _, ⟨hnew.glob, hnew.heap, hnew.size, fun j => ?_, fun j o ho => ?_, fun j k o o' g x x' hne hj hk => ?_, hnew.below, hnew.defers⟩⟩
 ·show RepV H (look ((i, .row id) :: σ.slots) j) _ _
  simp only [look]
  cases hb : Nat.beq i j with
  | true =>
   have := Nat.eq_of_beq_eq_true hb
   subst this
   rw [hv]
   simp [RepV, Loc.set, Value.oneCell']
  | false => exact hnew.slot j
 ·refine hnew.objs j o ?_
  have ho' : lookO ((id, .row e sz []) :: σ.objs) j = some o := ho
  simp only [lookO] at ho'
  by_cases hj : j = id
  ·subst hj; simpa using ho'
  ·rw [beq_ne (fun e => hj e.symm)] at ho'; simp only [hj, if_false]; exact ho'
 ·have conv : ∀ j o, lookO ((id, .row e sz []) :: σ.objs) j = some o → (if j = id then some (AO.row e sz []) else σ.sem.μ j) = some o := fun j o ho => by
   simp only [lookO] at ho
   by_cases hj : j = id
   ·subst hj; simpa using ho
   ·rw [beq_ne (fun e => hj e.symm)] at ho; simp only [hj, if_false]; exact ho
  exact hnew.apart j k o o' g x x' hne (conv j o hj) (conv k o' hk)

def AV.le (x y : AV) : Prop := ∀ (H : Heap) (L : Loc) (v : Value), RepV H x L v → RepV H y L v
theorem AV.le_refl (x : AV) : x.le x := fun _ _ _ h => h
theorem AV.le_nil {sz : Nat} (h : 0 < sz) : AV.le (.lit (.slice none 0 0)) (.sl sz []) := fun H L v hv => by
 simp only [RepV] at hv ⊢
 subst hv
 exact ⟨none, 0, 0, rfl, Nat.le_refl _, by simp [maxLen], h, by simp, ⟨by simp, fun _ => rfl⟩, fun hp => absurd hp (by omega)⟩
theorem AV.le_slc {sz c : Nat} {xs : List AV} : AV.le (.slc sz xs c) (.sl sz xs) := fun H L v hv => by
 simp only [RepV] at hv ⊢
 obtain ⟨A, n, h⟩ := hv
 exact ⟨A, n, c, h⟩
theorem AV.le_nilc {sz : Nat} (h : 0 < sz) : AV.le (.lit (.slice none 0 0)) (.slc sz [] 0) := fun H L v hv => by
 simp only [RepV] at hv ⊢
 subst hv
 exact ⟨none, 0, rfl, Nat.le_refl _, by simp [maxLen], h, by simp, by simp, fun hp => absurd hp (by omega)⟩
inductive LeL : List AV → List AV → Prop
 | nil : LeL [] []
 | cons {x y : AV} {xs ys : List AV} (h : x.le y) (t : LeL xs ys) : LeL (x :: xs) (y :: ys)
theorem LeL.rep {xs ys : List AV} (h : LeL xs ys) : ∀ {H : Heap} {L : Loc} {vs : List Value}, RepL H xs L vs → RepL H ys L vs := by
 induction h with
 | nil => intro H L vs h; exact h
 | cons h t ih =>
  intro H L vs hr
  simp only [RepL] at hr ⊢
  obtain ⟨v, r, rfl, h1, h2⟩ := hr
  exact ⟨v, r, rfl, h _ _ _ h1, ih h2⟩
theorem AV.le_agg {xs ys : List AV} (h : LeL xs ys) : AV.le (.agg xs) (.agg ys) := fun H L v hv => by
 simp only [RepV] at hv ⊢
 obtain ⟨vs, rfl, hr, h1⟩ := hv
 exact ⟨vs, rfl, h.rep hr, h1⟩
theorem Wk.slot {i : Nat} {y : AV} (h : (look σ.slots i).le y) : Wk C n σ ⟨(i, y) :: σ.slots, σ.objs⟩ := fun w0 H L a w hr =>
 ⟨H, L, Ext.refl _ _, ⟨hr.glob, hr.heap, hr.size, fun j => by
  show RepV H (look ((i, y) :: σ.slots) j) _ _
  simp only [look]
  cases hb : Nat.beq i j with
  | true =>
   have := Nat.eq_of_beq_eq_true hb
   subst this
   exact h _ _ _ (hr.slot i)
  | false => exact hr.slot j, hr.objs, hr.apart, hr.below, hr.defers⟩⟩

theorem awp_bound {c : Code} {i sz : Nat} {cs : List AV} (h : look σ.slots i = .sl sz cs) (k : cs.length ≤ 140737488355328 → awp C n c Q σ) : awp C n c Q σ := fun w0 H L a w hr => by
 refine k ?_ w0 H L a w hr
 have := hr.slot i
 rw [show σ.sem.ρ i = look σ.slots i from rfl, h] at this
 simp only [RepV] at this
 obtain ⟨_, _, _, _, _, _, _, _, h1, _⟩ := this
 exact h1.1
def ent : Nat → List AV → List (Nat × AV)
 | _, [] => []
 | i, x :: xs => (i, x) :: ent (i + 1) xs
def entry (args : List AV) : St := ⟨ent 0 args, []⟩
theorem look_ent : ∀ (args : List AV) (i j : Nat), look (ent i args) j = if i ≤ j then (args[j - i]?).getD .any else .any
 | [], i, j => by simp [ent, look]
 | x :: xs, i, j => by
  simp only [ent, look, look_ent xs (i + 1) j]
  cases hb : Nat.beq i j with
  | true => have := Nat.eq_of_beq_eq_true hb; subst this; simp
  | false =>
   have := Nat.ne_of_beq_eq_false hb
   simp only [cond_false]
   by_cases h : i + 1 ≤ j
   ·rw [if_pos h, if_pos (by omega), show j - i = (j - (i + 1)) + 1 by omega, List.getElem?_cons_succ]
   ·rw [if_neg h]
    by_cases h2 : i ≤ j
    ·omega
    ·rw [if_neg h2]

def ResOk (C : Ctx) (σ : St) : List ResultVar → List AV → Prop
 | [], [] => True
 | .tmp t :: rs, v :: vs => (look σ.slots t).le v ∧ ResOk C σ rs vs
 | .cell t ty :: rs, v :: vs => (∃ id ob, look σ.slots t = .ref id 0 ∧ lookO σ.objs id = some ob ∧ ob.isIter = false ∧ ((tyAgg C.P ty = some ob.cells.length ∧ (AV.agg ob.cells).le v) ∨ (tySc C.P ty = true ∧ ∃ c, ob.cells = [c] ∧ c.le v))) ∧ ResOk C σ rs vs
 | _, _ => False
def packR : List AV → AV
 | [v] => v
 | vs => .tup vs
def postF (C : Ctx) (fn : Func) (res : AV) : Exit → St → Prop
 | .normal, σ => ∃ vs, ResOk C σ fn.results.toList vs ∧ closedL vs = true ∧ res = packR vs
 | .ret, σ => ∃ vs, ResOk C σ fn.results.toList vs ∧ closedL vs = true ∧ res = packR vs
 | _, _ => False

def resOne (tmps : Array Value) : ResultVar → Sem Value
 | .tmp t => pure (tmps.getD t undef)
 | .cell t ty => do loadVar ty (← asAddr (tmps.getD t undef))
theorem res_run {w0 : World} {H : Heap} {L : Loc} {a : Act} {w : World} (hr : Rep C n w0 H L σ.sem a w) : ∀ (rs : List ResultVar) (vs : List AV), ResOk C σ rs vs →
  ∃ us : List Value, (rs.mapM (resOne a.tmps)).run C.P w = .ok us w ∧ RepL H vs L us
 | [], [], _ => ⟨[], by simp, by simp [RepL]⟩
 | .tmp t :: rs, v :: vs, h => by
  obtain ⟨us, h1, h2⟩ := res_run hr rs vs h.2
  refine ⟨a.tmps.getD t undef :: us, by simp only [List.mapM_cons, Sem.run_bind, resOne, Sem.run_pure, Result.andThen_ok, h1], ?_⟩
  simp only [RepL]
  exact ⟨_, _, rfl, h.1 _ _ _ (hr.slot t), h2⟩
 | .cell t ty :: rs, v :: vs, h => by
  obtain ⟨us, h1, h2⟩ := res_run hr rs vs h.2
  obtain ⟨⟨id, ob, hs, ho, hni, hc⟩, _⟩ := h
  have hsl := hr.slot t
  rw [show σ.sem.ρ t = look σ.slots t from rfl, hs] at hsl
  simp only [RepV] at hsl
  obtain ⟨x, g, hl, hg, hv⟩ := hsl
  obtain ⟨vs', arr, ty', hh, hrl, hone, hcell⟩ := (hr.objs id ob ho).cellsAt hni hl hg
  have hlen := hrl.length
  rcases hc with ⟨hag, hle⟩ | ⟨hsc, c, hc, hle⟩
  ·have hrun := run_loadVar_agg (P := C.P) (w := w) hag hlen (b := ⟨g, 0, none⟩) (fun j u hj => by rw [cell_at hh]; simpa using hcell j u hj)
   refine ⟨.agg vs'.toArray :: us, by simp only [List.mapM_cons, Sem.run_bind, resOne, hv, asAddr, Sem.run_pure, Result.andThen_ok, hrun, h1], ?_⟩
   simp only [RepL]
   exact ⟨_, _, rfl, hle _ _ _ (by simp only [RepV]; exact ⟨vs', rfl, hrl, hone⟩), h2⟩
  ·rw [hc] at hrl
   simp only [RepL] at hrl
   obtain ⟨u, r, rfl, hu, rfl⟩ := hrl
   have hrun := run_loadVar_sc (P := C.P) (w := w) hsc (b := ⟨g, 0, none⟩) (v := u) (by simp [World.cell?, hh]; simpa using hcell 0 u rfl)
   refine ⟨u :: us, by simp only [List.mapM_cons, Sem.run_bind, resOne, hv, asAddr, Sem.run_pure, Result.andThen_ok, hrun, h1], ?_⟩
   simp only [RepL]
   exact ⟨_, _, rfl, hle _ _ _ hu, h2⟩
 | [], v :: vs, h => by simp [ResOk] at h
 | .tmp _ :: _, [], h => by simp [ResOk] at h
 | .cell _ _ :: _, [], h => by simp [ResOk] at h

theorem ecalls_of_awp {f : FuncId} {fn : Func} {c : Code} {args : List AV} {res : AV} (hf : C.P.funcs[f]? = some fn) (hb : fn.body = some c) (hn : args.length ≤ fn.ntmps) (h : awp C fn.ntmps c (postF C fn res) (entry args)) (hmk : C.marks = [] := by rfl) : ECalls C f args res := by
 intro H L vals w hG hH hr
 have hlen := hr.length
 refine calls_of_wp hf hb ((wpIn_wide (n := 0)).1 ?_)
 have hrep : Rep C fn.ntmps w H L (entry args).sem { tmps := vals.toArray ++ Array.replicate (fn.ntmps - vals.toArray.size) undef, defers := [] } w := by
  refine ⟨hG, hH, by simp; omega, fun i => ?_, fun id o ho => by simp [entry, St.sem, lookO] at ho, fun id id' o o' g x x' _ ho => by simp [entry, St.sem, lookO] at ho, Bel.refl _ _, hmk.symm⟩
  show RepV H (look (ent 0 args) i) L _
  rw [look_ent]
  simp only [Nat.zero_le, if_true, Nat.sub_zero]
  cases hi : args[i]? with
  | none => simp [RepV]
  | some x =>
   obtain ⟨v, hv1, hv2⟩ := hr.get hi
   have hlt : i < vals.length := (List.getElem?_eq_some_iff.1 hv1).1
   simp only [Option.getD_some, Array.getD_eq_getD_getElem?]
   rw [Array.getElem?_append_left (by simpa using hlt)]
   simpa [hv1] using hv2
 refine wpIn_mono (h w H L _ w hrep none) fun e a' w' hp => ?_
 obtain ⟨σ', H', L', hx, hr', hq⟩ := hp
 have fin : (∃ vs, ResOk C σ' fn.results.toList vs ∧ closedL vs = true ∧ res = packR vs) → a'.defers = [] ∧ ∃ v, (results fn a'.tmps).run C.P w' = .ok v w' ∧ ∃ H' v', Ending.returned v = .returned v' ∧ RepV H' res noLoc v' ∧ Ext w.heap.size H H' ∧ (∀ b o, H' b = some o → w'.heap[b]? = some o) ∧ Bel w.heap.size w w' := by
  rintro ⟨vs, hres, hcl, rfl⟩
  obtain ⟨us, hrun, hrl⟩ := res_run hr' _ _ hres
  have hlu := hrl.length
  refine ⟨hr'.defers.trans hmk, if h : us.toArray.size = 1 then us.toArray[0] else .tuple us.toArray, ?_, H', _, rfl, ?_, hx, hr'.heap, hr'.below⟩
  ·show (do let vs ← fn.results.mapM (resOne a'.tmps); pure (if h : vs.size = 1 then vs[0] else .tuple vs) : Sem Value).run C.P w' = _
   have hm : (fn.results.mapM (resOne a'.tmps)).run C.P w' = .ok us.toArray w' := by
    rw [Array.mapM_eq_mapM_toList]
    simp [hrun]
   simp only [Sem.run_bind, hm, Result.andThen_ok, Sem.run_pure]
  ·have hrc := RepL.closed (L' := noLoc) hcl hrl
   match vs, us, hrc, hlu with
   | [v], [u], hrc, _ =>
    simp only [packR]
    simp only [RepL] at hrc
    obtain ⟨x, r, e, hx, _⟩ := hrc
    cases e
    simpa using hx
   | [], us, hrc, hlu =>
    have : us = [] := List.eq_nil_of_length_eq_zero (by simpa using hlu)
    subst this
    simp only [packR, RepV]
    exact ⟨[], by simp, hrc⟩
   | v1 :: v2 :: vs, us, hrc, hlu =>
    simp only [packR, RepV]
    refine ⟨us, ?_, hrc⟩
    rw [dif_neg (by simp at hlu ⊢; omega)]
 cases e with
 | normal => exact fin hq
 | ret => exact fin hq
 | _ => exact hq.elim
end
end Go.Ab

namespace Go.Ab
open Go.RowKit

inductive Gd (ops : Array Oper) (s : List (Nat × AV)) : Option (Nat × Bool) → Prop
 | none : Gd ops s none
 | yes {j d : Nat} {want b : Bool} (hd : (ops[j]?).bind (·.dst) = some d) (hb : look s d = .lit (.bool b)) (h : b = want) : Gd ops s (some (j, want))

def ev (s : List (Nat × AV)) : Operand → AV
 | .tmp t => look s t
 | .const v => .lit v
 | .global g => .lit (.pointer (some ⟨g, 0, none⟩))
 | .func f => .clo f []
def evs (s : List (Nat × AV)) : List Operand → List AV
 | [] => []
 | x :: xs => ev s x :: evs s xs
theorem ev_st (s : List (Nat × AV)) (m : List (Nat × AO)) (x : Operand) : (St.sem ⟨s, m⟩).ev x = ev s x := by cases x <;> rfl
theorem evs_st (s : List (Nat × AV)) (m : List (Nat × AO)) (xs : List Operand) : xs.map (St.sem ⟨s, m⟩).ev = evs s xs := by
 induction xs with
 | nil => rfl
 | cons x xs ih => simp only [List.map_cons, evs, ih, ev_st]
def frS (s : List (Nat × AV)) (m : List (Nat × AO)) (id : Nat) : Bool := s.all (fun p => !p.2.has id) && m.all fun p => !Nat.beq p.1 id && !p.2.has id

section
variable {C : Ctx} {ops : Array Oper} {s : List (Nat × AV)} {m : List (Nat × AO)} {os : List Oper} {K : List Eff → St → Prop} {d : Nat} {t : TypeId} {p : String} {af : Array Edge} {g : Option (Nat × Bool)}

theorem aops_end {σ : St} (h : K [] σ) : aops C ops σ [] K := aops_nil h

theorem o_step {dst : Option Nat} {op : Op} {e : Eff} (hg : Gd ops s g) (hs : Step C (St.sem ⟨s, m⟩) ⟨dst, op, t, p, af, g⟩ e) (hf : e.fresh.all (St.freshB ⟨s, m⟩) = true) (k : aops C ops (St.app ⟨s, m⟩ dst e) os fun es σ' => K (e :: es) σ') :
  aops C ops ⟨s, m⟩ (⟨dst, op, t, p, af, g⟩ :: os) K := by
 cases hg with
 | none => exact aops_step rfl hs hf k
 | yes hd hb h => exact aops_stepG rfl hd hb h hs hf k
theorem o_val {op : Op} {v : AV} {us : List Nat} (hg : Gd ops s g) (hs : Step C (St.sem ⟨s, m⟩) ⟨some d, op, t, p, af, g⟩ { val := v, use := us }) (k : aops C ops ⟨(d, v) :: s, m⟩ os fun es σ' => K ({ val := v, use := us } :: es) σ') :
  aops C ops ⟨s, m⟩ (⟨some d, op, t, p, af, g⟩ :: os) K := o_step hg hs rfl k
theorem o_skip {j d' : Nat} {want b : Bool} {op : Op} (hd : (ops[j]?).bind (·.dst) = some d') (hb : look s d' = .lit (.bool b)) (h : b = !want) (k : aops C ops ⟨(d, .lit undef) :: s, m⟩ os fun es σ' => K ({ val := .lit undef } :: es) σ') :
  aops C ops ⟨s, m⟩ (⟨some d, op, t, p, af, some (j, want)⟩ :: os) K := aops_skipG rfl hd hb (by subst h; cases want <;> simp) k
theorem o_skipU {j d' : Nat} {want : Bool} {op : Op} (hd : (ops[j]?).bind (·.dst) = some d') (hb : look s d' = .lit undef) (k : aops C ops ⟨(d, .lit undef) :: s, m⟩ os fun es σ' => K ({ val := .lit undef } :: es) σ') :
  aops C ops ⟨s, m⟩ (⟨some d, op, t, p, af, some (j, want)⟩ :: os) K := aops_skipG rfl hd hb (by simp [undef]) k
theorem o_split {b : Bool} (d' : Nat) (hb : look s d' = .lit (.bool b)) (h1 : b = true → aops C ops ⟨s, m⟩ os K) (h2 : b = false → aops C ops ⟨s, m⟩ os K) : aops C ops ⟨s, m⟩ os K := aops_split b h1 h2
theorem o_splitP {q : Prop} [Decidable q] (d' : Nat) (hb : look s d' = .lit (.bool (decide q))) (h1 : q → aops C ops ⟨s, m⟩ os K) (h2 : ¬ q → aops C ops ⟨s, m⟩ os K) : aops C ops ⟨s, m⟩ os K :=
 aops_split (decide q) (fun h => h1 (of_decide_eq_true h)) (fun h => h2 (of_decide_eq_false h))

theorem o_move {x : Operand} (v : AV) (hg : Gd ops s g) (hx : ev s x = v) (k : aops C ops ⟨(d, v) :: s, m⟩ os fun es σ' => K ({ val := v } :: es) σ') : aops C ops ⟨s, m⟩ (⟨some d, .move x, t, p, af, g⟩ :: os) K :=
 o_val hg (by rw [← hx, ← ev_st s m]; exact .copy x (.inl rfl)) k
theorem o_assign {x : Operand} (v : AV) (hg : Gd ops s g) (hx : ev s x = v) (k : aops C ops ⟨(d, v) :: s, m⟩ os fun es σ' => K ({ val := v } :: es) σ') : aops C ops ⟨s, m⟩ (⟨some d, .assign x, t, p, af, g⟩ :: os) K :=
 o_val hg (by rw [← hx, ← ev_st s m]; exact .copy x (.inr rfl)) k
theorem o_pickT {c x y : Operand} {b : Bool} (v : AV) (hg : Gd ops s g) (hc : ev s c = .lit (.bool b)) (hb : b = true) (hx : ev s x = v) (k : aops C ops ⟨(d, v) :: s, m⟩ os fun es σ' => K ({ val := v } :: es) σ') : aops C ops ⟨s, m⟩ (⟨some d, .pick c x y, t, p, af, g⟩ :: os) K :=
 o_val hg (by
  have := Step.pick (C := C) (S := St.sem ⟨s, m⟩) (o := ⟨some d, .pick c x y, t, p, af, g⟩) c x y b rfl (by rw [ev_st]; exact hc)
  rw [hb, cond_true, ev_st, hx] at this
  exact this) k
theorem o_pickF {c x y : Operand} {b : Bool} (v : AV) (hg : Gd ops s g) (hc : ev s c = .lit (.bool b)) (hb : b = false) (hy : ev s y = v) (k : aops C ops ⟨(d, v) :: s, m⟩ os fun es σ' => K ({ val := v } :: es) σ') : aops C ops ⟨s, m⟩ (⟨some d, .pick c x y, t, p, af, g⟩ :: os) K :=
 o_val hg (by
  have := Step.pick (C := C) (S := St.sem ⟨s, m⟩) (o := ⟨some d, .pick c x y, t, p, af, g⟩) c x y b rfl (by rw [ev_st]; exact hc)
  rw [hb, cond_false, ev_st, hy] at this
  exact this) k

theorem o_pure1 {op : Op} {x : Operand} {a v : Value} (hops : op.operands = #[x]) (hg : Gd ops s g) (hx : ev s x = .lit a) (h : ∀ ρ : Operand → Value, ρ x = a → ∀ w, (execOp ρ ⟨some d, op, t, p, af, g⟩).run C.P w = .ok (.value v) w)
  (k : aops C ops ⟨(d, .lit v) :: s, m⟩ os fun es σ' => K ({ val := .lit v } :: es) σ') : aops C ops ⟨s, m⟩ (⟨some d, op, t, p, af, g⟩ :: os) K :=
 o_val hg (.pure v fun ρ hρ w => h ρ (hρ x (by simp [hops]) a (by rw [ev_st]; exact AV.isLit_of hx)) w) k
theorem o_pure2 {op : Op} {x y : Operand} {a b v : Value} (hops : op.operands = #[x, y]) (hg : Gd ops s g) (hx : ev s x = .lit a) (hy : ev s y = .lit b) (h : ∀ ρ : Operand → Value, ρ x = a → ρ y = b → ∀ w, (execOp ρ ⟨some d, op, t, p, af, g⟩).run C.P w = .ok (.value v) w)
  (k : aops C ops ⟨(d, .lit v) :: s, m⟩ os fun es σ' => K ({ val := .lit v } :: es) σ') : aops C ops ⟨s, m⟩ (⟨some d, op, t, p, af, g⟩ :: os) K :=
 o_val hg (.pure v fun ρ hρ w => h ρ (hρ x (by simp [hops]) a (by rw [ev_st]; exact AV.isLit_of hx)) (hρ y (by simp [hops]) b (by rw [ev_st]; exact AV.isLit_of hy)) w) k

theorem eqGuard_int {P : Program} {op : BinOp} {xt : TypeId} {x y : Operand} {k : IntKind} {a : Int} {b : Value} (w : World) : (eqGuard op xt x y (.int k a) b).run P w = .ok () w := by
 have : eqGuard op xt x y (.int k a) b = pure () := eqGuard_at_int ..
 rw [this]; rfl

theorem o_arith {b : BinOp} {xt yt : TypeId} {x y : Operand} {k : IntKind} {a c : Int} (r : Int) (hb : (b = .add ∧ r = k.wrap (a + c)) ∨ (b = .sub ∧ r = k.wrap (a - c)) ∨ (b = .mul ∧ r = k.wrap (a * c))) (hg : Gd ops s g) (hx : ev s x = .lit (.int k a)) (hy : ev s y = .lit (.int k c))
  (kk : aops C ops ⟨(d, .lit (.int k r)) :: s, m⟩ os fun es σ' => K ({ val := .lit (.int k r) } :: es) σ') : aops C ops ⟨s, m⟩ (⟨some d, .binOp b xt x y yt, t, p, af, g⟩ :: os) K :=
 o_pure2 rfl hg hx hy (fun ρ h1 h2 w => by
  rcases hb with ⟨rfl, rfl⟩ | ⟨rfl, rfl⟩ | ⟨rfl, rfl⟩ <;> simp [execOp, h1, h2, eqGuard_int, binOp, Op.intArith]) kk
theorem o_add {xt yt : TypeId} {x y : Operand} {k : IntKind} {a c : Int} (hg : Gd ops s g) (hx : ev s x = .lit (.int k a)) (hy : ev s y = .lit (.int k c)) (hr : k.wrap (a + c) = a + c)
  (kk : aops C ops ⟨(d, .lit (.int k (a + c))) :: s, m⟩ os fun es σ' => K ({ val := .lit (.int k (a + c)) } :: es) σ') : aops C ops ⟨s, m⟩ (⟨some d, .binOp .add xt x y yt, t, p, af, g⟩ :: os) K :=
 o_arith (a + c) (.inl ⟨rfl, hr.symm⟩) hg hx hy kk
theorem o_sub {xt yt : TypeId} {x y : Operand} {k : IntKind} {a c : Int} (hg : Gd ops s g) (hx : ev s x = .lit (.int k a)) (hy : ev s y = .lit (.int k c)) (hr : k.wrap (a - c) = a - c)
  (kk : aops C ops ⟨(d, .lit (.int k (a - c))) :: s, m⟩ os fun es σ' => K ({ val := .lit (.int k (a - c)) } :: es) σ') : aops C ops ⟨s, m⟩ (⟨some d, .binOp .sub xt x y yt, t, p, af, g⟩ :: os) K :=
 o_arith (a - c) (.inr (.inl ⟨rfl, hr.symm⟩)) hg hx hy kk
theorem o_mul {xt yt : TypeId} {x y : Operand} {k : IntKind} {a c : Int} (hg : Gd ops s g) (hx : ev s x = .lit (.int k a)) (hy : ev s y = .lit (.int k c)) (hr : k.wrap (a * c) = a * c)
  (kk : aops C ops ⟨(d, .lit (.int k (a * c))) :: s, m⟩ os fun es σ' => K ({ val := .lit (.int k (a * c)) } :: es) σ') : aops C ops ⟨s, m⟩ (⟨some d, .binOp .mul xt x y yt, t, p, af, g⟩ :: os) K :=
 o_arith (a * c) (.inr (.inr ⟨rfl, hr.symm⟩)) hg hx hy kk
theorem o_quo {xt yt : TypeId} {x y : Operand} {k : IntKind} {a c : Int} (hg : Gd ops s g) (hx : ev s x = .lit (.int k a)) (hy : ev s y = .lit (.int k c)) (ha : 0 ≤ a) (hc : 0 < c) (hr : k.wrap (a / c) = a / c)
  (kk : aops C ops ⟨(d, .lit (.int k (a / c))) :: s, m⟩ os fun es σ' => K ({ val := .lit (.int k (a / c)) } :: es) σ') : aops C ops ⟨s, m⟩ (⟨some d, .binOp .quo xt x y yt, t, p, af, g⟩ :: os) K :=
 o_pure2 rfl hg hx hy (fun ρ h1 h2 w => by
  have hne : ¬ c = 0 := by omega
  have ht : a.tdiv c = a / c := Int.tdiv_eq_ediv_of_nonneg ha
  simp [execOp, h1, h2, eqGuard_int, binOp, Op.intDiv, hne, ht, hr]) kk
theorem o_rem {xt yt : TypeId} {x y : Operand} {k : IntKind} {a c : Int} (hg : Gd ops s g) (hx : ev s x = .lit (.int k a)) (hy : ev s y = .lit (.int k c)) (ha : 0 ≤ a) (hc : 0 < c)
  (kk : aops C ops ⟨(d, .lit (.int k (a % c))) :: s, m⟩ os fun es σ' => K ({ val := .lit (.int k (a % c)) } :: es) σ') : aops C ops ⟨s, m⟩ (⟨some d, .binOp .rem xt x y yt, t, p, af, g⟩ :: os) K :=
 o_pure2 rfl hg hx hy (fun ρ h1 h2 w => by
  have hne : ¬ c = 0 := by omega
  have ht : a.tmod c = a % c := Int.tmod_eq_emod_of_nonneg ha
  simp [execOp, h1, h2, eqGuard_int, binOp, Op.intDiv, hne, ht]) kk
theorem o_remT {xt yt : TypeId} {x y : Operand} {k : IntKind} {a c : Int} (hg : Gd ops s g) (hx : ev s x = .lit (.int k a)) (hy : ev s y = .lit (.int k c)) (hc : c ≠ 0)
  (kk : aops C ops ⟨(d, .lit (.int k (a.tmod c))) :: s, m⟩ os fun es σ' => K ({ val := .lit (.int k (a.tmod c)) } :: es) σ') : aops C ops ⟨s, m⟩ (⟨some d, .binOp .rem xt x y yt, t, p, af, g⟩ :: os) K :=
 o_pure2 rfl hg hx hy (fun ρ h1 h2 w => by simp [execOp, h1, h2, eqGuard_int, binOp, Op.intDiv, hc]) kk
def cmpP (b : BinOp) (a c : Int) : Prop := match b with
 | .eql => a = c
 | .neq => a ≠ c
 | .lss => a < c
 | .leq => a ≤ c
 | .gtr => c < a
 | .geq => c ≤ a
 | _ => False
theorem o_eql {xt yt : TypeId} {x y : Operand} {k : IntKind} {a c : Int} (hg : Gd ops s g) (hx : ev s x = .lit (.int k a)) (hy : ev s y = .lit (.int k c)) (kk : aops C ops ⟨(d, .lit (.bool (decide (a = c)))) :: s, m⟩ os fun es σ' => K ({ val := .lit (.bool (decide (a = c))) } :: es) σ') :
  aops C ops ⟨s, m⟩ (⟨some d, .binOp .eql xt x y yt, t, p, af, g⟩ :: os) K := o_pure2 rfl hg hx hy (fun ρ h1 h2 w => by simp [execOp, h1, h2, eqGuard_int, binOp, Op.intCmp]; rfl) kk
theorem o_neq {xt yt : TypeId} {x y : Operand} {k : IntKind} {a c : Int} (hg : Gd ops s g) (hx : ev s x = .lit (.int k a)) (hy : ev s y = .lit (.int k c)) (kk : aops C ops ⟨(d, .lit (.bool (decide (a ≠ c)))) :: s, m⟩ os fun es σ' => K ({ val := .lit (.bool (decide (a ≠ c))) } :: es) σ') :
  aops C ops ⟨s, m⟩ (⟨some d, .binOp .neq xt x y yt, t, p, af, g⟩ :: os) K := o_pure2 rfl hg hx hy (fun ρ h1 h2 w => by
   have : (a != c) = decide (a ≠ c) := by by_cases h : a = c <;> simp [h]
   simp [execOp, h1, h2, eqGuard_int, binOp, Op.intCmp, this]) kk
theorem o_lss {xt yt : TypeId} {x y : Operand} {k : IntKind} {a c : Int} (hg : Gd ops s g) (hx : ev s x = .lit (.int k a)) (hy : ev s y = .lit (.int k c)) (kk : aops C ops ⟨(d, .lit (.bool (decide (a < c)))) :: s, m⟩ os fun es σ' => K ({ val := .lit (.bool (decide (a < c))) } :: es) σ') :
  aops C ops ⟨s, m⟩ (⟨some d, .binOp .lss xt x y yt, t, p, af, g⟩ :: os) K := o_pure2 rfl hg hx hy (fun ρ h1 h2 w => by simp [execOp, h1, h2, eqGuard_int, binOp, Op.intCmp]) kk
theorem o_leq {xt yt : TypeId} {x y : Operand} {k : IntKind} {a c : Int} (hg : Gd ops s g) (hx : ev s x = .lit (.int k a)) (hy : ev s y = .lit (.int k c)) (kk : aops C ops ⟨(d, .lit (.bool (decide (a ≤ c)))) :: s, m⟩ os fun es σ' => K ({ val := .lit (.bool (decide (a ≤ c))) } :: es) σ') :
  aops C ops ⟨s, m⟩ (⟨some d, .binOp .leq xt x y yt, t, p, af, g⟩ :: os) K := o_pure2 rfl hg hx hy (fun ρ h1 h2 w => by simp [execOp, h1, h2, eqGuard_int, binOp, Op.intCmp]) kk
theorem o_gtr {xt yt : TypeId} {x y : Operand} {k : IntKind} {a c : Int} (hg : Gd ops s g) (hx : ev s x = .lit (.int k a)) (hy : ev s y = .lit (.int k c)) (kk : aops C ops ⟨(d, .lit (.bool (decide (c < a)))) :: s, m⟩ os fun es σ' => K ({ val := .lit (.bool (decide (c < a))) } :: es) σ') :
  aops C ops ⟨s, m⟩ (⟨some d, .binOp .gtr xt x y yt, t, p, af, g⟩ :: os) K := o_pure2 rfl hg hx hy (fun ρ h1 h2 w => by simp [execOp, h1, h2, eqGuard_int, binOp, Op.intCmp]) kk
theorem o_geq {xt yt : TypeId} {x y : Operand} {k : IntKind} {a c : Int} (hg : Gd ops s g) (hx : ev s x = .lit (.int k a)) (hy : ev s y = .lit (.int k c)) (kk : aops C ops ⟨(d, .lit (.bool (decide (c ≤ a)))) :: s, m⟩ os fun es σ' => K ({ val := .lit (.bool (decide (c ≤ a))) } :: es) σ') :
  aops C ops ⟨s, m⟩ (⟨some d, .binOp .geq xt x y yt, t, p, af, g⟩ :: os) K := o_pure2 rfl hg hx hy (fun ρ h1 h2 w => by simp [execOp, h1, h2, eqGuard_int, binOp, Op.intCmp]) kk
theorem eqGuard_bool {P : Program} {op : BinOp} {xt : TypeId} {x y : Operand} {a : Bool} {b : Value} (w : World) : (eqGuard op xt x y (.bool a) b).run P w = .ok () w := by
 have : eqGuard op xt x y (.bool a) b = pure () := eqGuard_at_bool ..
 rw [this]; rfl
theorem eqGuard_str {P : Program} {op : BinOp} {xt : TypeId} {x y : Operand} {a : ByteArray} {b : Value} (w : World) : (eqGuard op xt x y (.string a) b).run P w = .ok () w := by
 have : eqGuard op xt x y (.string a) b = pure () := eqGuard_at_string ..
 rw [this]; rfl
theorem o_eqlB {xt yt : TypeId} {x y : Operand} {a c : Bool} (hg : Gd ops s g) (hx : ev s x = .lit (.bool a)) (hy : ev s y = .lit (.bool c)) (ht : C.P.underlying xt = some .bool) (kk : aops C ops ⟨(d, .lit (.bool (decide (a = c)))) :: s, m⟩ os fun es σ' => K ({ val := .lit (.bool (decide (a = c))) } :: es) σ') :
  aops C ops ⟨s, m⟩ (⟨some d, .binOp .eql xt x y yt, t, p, af, g⟩ :: os) K := o_pure2 rfl hg hx hy (fun ρ h1 h2 w => by
   have : (a == c) = decide (a = c) := by cases a <;> cases c <;> rfl
   simp [execOp, h1, h2, eqGuard_bool, run_eql_bool w xt a c ht, this]) kk
theorem o_neqB {xt yt : TypeId} {x y : Operand} {a c : Bool} (hg : Gd ops s g) (hx : ev s x = .lit (.bool a)) (hy : ev s y = .lit (.bool c)) (ht : C.P.underlying xt = some .bool) (kk : aops C ops ⟨(d, .lit (.bool (decide (a ≠ c)))) :: s, m⟩ os fun es σ' => K ({ val := .lit (.bool (decide (a ≠ c))) } :: es) σ') :
  aops C ops ⟨s, m⟩ (⟨some d, .binOp .neq xt x y yt, t, p, af, g⟩ :: os) K := o_pure2 rfl hg hx hy (fun ρ h1 h2 w => by
   have e : ((binOp .neq xt (.bool a) (.bool c)).run C.P w) = .ok (.bool (decide (a ≠ c))) w := by
    have := run_equal_bool w xt a c ht
    simp only [binOp, Sem.run_bind, this, Result.andThen_ok, Sem.run_pure]
    cases a <;> cases c <;> rfl
   simp [execOp, h1, h2, eqGuard_bool, e]) kk
theorem o_eqlS {xt yt : TypeId} {x y : Operand} {a c : ByteArray} (hg : Gd ops s g) (hx : ev s x = .lit (.string a)) (hy : ev s y = .lit (.string c)) (kk : aops C ops ⟨(d, .lit (.bool (decide (a.toList = c.toList)))) :: s, m⟩ os fun es σ' => K ({ val := .lit (.bool (decide (a.toList = c.toList))) } :: es) σ') :
  aops C ops ⟨s, m⟩ (⟨some d, .binOp .eql xt x y yt, t, p, af, g⟩ :: os) K := o_pure2 rfl hg hx hy (fun ρ h1 h2 w => by
   have : (a.toList == c.toList) = decide (a.toList = c.toList) := by by_cases h : a.toList = c.toList <;> simp [h]
   simp [execOp, h1, h2, eqGuard_str, binOp, Op.stringOp, this]) kk
theorem o_neqS {xt yt : TypeId} {x y : Operand} {a c : ByteArray} (hg : Gd ops s g) (hx : ev s x = .lit (.string a)) (hy : ev s y = .lit (.string c)) (kk : aops C ops ⟨(d, .lit (.bool (decide (a.toList ≠ c.toList)))) :: s, m⟩ os fun es σ' => K ({ val := .lit (.bool (decide (a.toList ≠ c.toList))) } :: es) σ') :
  aops C ops ⟨s, m⟩ (⟨some d, .binOp .neq xt x y yt, t, p, af, g⟩ :: os) K := o_pure2 rfl hg hx hy (fun ρ h1 h2 w => by
   have : (!(a.toList == c.toList)) = decide (a.toList ≠ c.toList) := by by_cases h : a.toList = c.toList <;> simp [h]
   simp only [execOp, h1, h2, eqGuard_str, binOp, Op.stringOp, Sem.run_bind, Result.andThen_ok, Sem.run_pure, this]) kk
theorem o_notP {xt : TypeId} {x : Operand} {q : Prop} [Decidable q] (hg : Gd ops s g) (hx : ev s x = .lit (.bool (decide q))) (kk : aops C ops ⟨(d, .lit (.bool (decide (¬ q)))) :: s, m⟩ os fun es σ' => K ({ val := .lit (.bool (decide (¬ q))) } :: es) σ') :
  aops C ops ⟨s, m⟩ (⟨some d, .unOp .not xt x, t, p, af, g⟩ :: os) K := o_pure1 rfl hg hx (fun ρ h1 w => by
   have : (!decide q) = decide (¬ q) := by by_cases h : q <;> simp [h]
   simp only [execOp, h1, Op.unary, Sem.run_bind, Sem.run_pure, Result.andThen_ok, this]) kk
theorem o_not {xt : TypeId} {x : Operand} {b : Bool} (hg : Gd ops s g) (hx : ev s x = .lit (.bool b)) (kk : aops C ops ⟨(d, .lit (.bool (!b))) :: s, m⟩ os fun es σ' => K ({ val := .lit (.bool (!b)) } :: es) σ') :
  aops C ops ⟨s, m⟩ (⟨some d, .unOp .not xt x, t, p, af, g⟩ :: os) K := o_pure1 rfl hg hx (fun ρ h1 w => by simp [execOp, h1, Op.unary]) kk
theorem o_neg {xt : TypeId} {x : Operand} {k : IntKind} {a : Int} (hg : Gd ops s g) (hx : ev s x = .lit (.int k a)) (hr : k.wrap (-a) = -a) (kk : aops C ops ⟨(d, .lit (.int k (-a))) :: s, m⟩ os fun es σ' => K ({ val := .lit (.int k (-a)) } :: es) σ') :
  aops C ops ⟨s, m⟩ (⟨some d, .unOp .neg xt x, t, p, af, g⟩ :: os) K := o_pure1 rfl hg hx (fun ρ h1 w => by simp [execOp, h1, Op.unary, Op.intArith, hr]) kk
def tyInt (P : Program) (t : TypeId) : Option IntKind := match P.underlying t with
 | some (.int k) => some k
 | _ => none
theorem o_conv {src dst : TypeId} {x : Operand} {k k' : IntKind} {a : Int} (hg : Gd ops s g) (hx : ev s x = .lit (.int k a)) (hs : tyInt C.P src = some k) (hd : tyInt C.P dst = some k') (hr : k'.wrap a = a) (kk : aops C ops ⟨(d, .lit (.int k' a)) :: s, m⟩ os fun es σ' => K ({ val := .lit (.int k' a) } :: es) σ') :
  aops C ops ⟨s, m⟩ (⟨some d, .convert src dst x, t, p, af, g⟩ :: os) K := o_pure1 rfl hg hx (fun ρ h1 w => by
   have u1 : C.P.underlying src = some (.int k) := by
    unfold tyInt at hs
    cases hu : C.P.underlying src with
    | none => simp [hu] at hs
    | some dd => cases dd <;> simp [hu] at hs; subst hs; rfl
   have u2 : C.P.underlying dst = some (.int k') := by
    unfold tyInt at hd
    cases hu : C.P.underlying dst with
    | none => simp [hu] at hd
    | some dd => cases dd <;> simp [hu] at hd; subst hd; rfl
   simp [execOp, h1, convert, run_underlying u1, run_underlying u2, Conv.intToInt, hr]) kk
theorem o_lenS {ty : TypeId} {x : Operand} {a : ByteArray} (hg : Gd ops s g) (hx : ev s x = .lit (.string a)) (hs : C.P.underlying ty = some .string) (kk : aops C ops ⟨(d, .lit (.int .i64 (a.size : Int))) :: s, m⟩ os fun es σ' => K ({ val := .lit (.int .i64 (a.size : Int)) } :: es) σ') :
  aops C ops ⟨s, m⟩ (⟨some d, .call { callee := .builtin .len, args := #[x], argTypes := #[ty] }, t, p, af, g⟩ :: os) K := o_pure1 (x := x) rfl hg hx (fun ρ h1 w => by
   simp [execOp, resolve, invoke, builtin, h1, Builtin.len_, run_underlying hs, goInt]) kk
theorem o_max {ty ty' : TypeId} {x y : Operand} {a c : Int} (hg : Gd ops s g) (hx : ev s x = .lit (.int .i64 a)) (hy : ev s y = .lit (.int .i64 c)) (h : ∀ w, (Builtin.max_ #[ty, ty'] t #[.int .i64 a, .int .i64 c]).run C.P w = .ok (.int .i64 (max a c)) w)
  (kk : aops C ops ⟨(d, .lit (.int .i64 (max a c))) :: s, m⟩ os fun es σ' => K ({ val := .lit (.int .i64 (max a c)) } :: es) σ') :
  aops C ops ⟨s, m⟩ (⟨some d, .call { callee := .builtin .max, args := #[x, y], argTypes := #[ty, ty'] }, t, p, af, g⟩ :: os) K := o_pure2 (x := x) (y := y) rfl hg hx hy (fun ρ h1 h2 w => by
   simp [execOp, resolve, invoke, builtin, h1, h2, h w]) kk
theorem o_min {ty ty' : TypeId} {x y : Operand} {a c : Int} (hg : Gd ops s g) (hx : ev s x = .lit (.int .i64 a)) (hy : ev s y = .lit (.int .i64 c)) (h : ∀ w, (Builtin.min_ #[ty, ty'] t #[.int .i64 a, .int .i64 c]).run C.P w = .ok (.int .i64 (min a c)) w)
  (kk : aops C ops ⟨(d, .lit (.int .i64 (min a c))) :: s, m⟩ os fun es σ' => K ({ val := .lit (.int .i64 (min a c)) } :: es) σ') :
  aops C ops ⟨s, m⟩ (⟨some d, .call { callee := .builtin .min, args := #[x, y], argTypes := #[ty, ty'] }, t, p, af, g⟩ :: os) K := o_pure2 (x := x) (y := y) rfl hg hx hy (fun ρ h1 h2 w => by
   simp [execOp, resolve, invoke, builtin, h1, h2, h w]) kk
end
end Go.Ab

namespace Go.Ab
open Go.RowKit

def setO : List (Nat × AO) → Nat → AO → List (Nat × AO)
 | [], _, _ => []
 | (j, v) :: r, i, o => bif Nat.beq j i then (j, o) :: r else (j, v) :: setO r i o
theorem lookO_set {l : List (Nat × AO)} {i : Nat} {ob : AO} (h : lookO l i = some ob) (o : AO) (j : Nat) : lookO (setO l i o) j = if j = i then some o else lookO l j := by
 induction l with
 | nil => simp [lookO] at h
 | cons p l ih =>
  obtain ⟨k, v⟩ := p
  simp only [lookO] at h
  simp only [setO]
  cases hb : Nat.beq k i with
  | true =>
   have := Nat.eq_of_beq_eq_true hb
   subst this
   simp only [cond_true, lookO]
   by_cases hj : j = k
   ·simp [hj]
   ·simp [hj, beq_ne (fun e => hj e.symm)]
  | false =>
   have hne := Nat.ne_of_beq_eq_false hb
   rw [hb] at h
   simp only [cond_false, lookO, ih h]
   cases hb2 : Nat.beq k j with
   | true => have := Nat.eq_of_beq_eq_true hb2; subst this; simp [hne]
   | false => simp
theorem lookO_none_of_fr {s : List (Nat × AV)} {m : List (Nat × AO)} {id : Nat} (h : St.freshB ⟨s, m⟩ id = true) : lookO m id = none := (fresh_sem h).1

def callable (P : Program) (f : FuncId) : Bool := match P.funcs[f]? with
 | some fn => fn.body.isSome && !(fn.name == "runtime.NumGoroutine")
 | none => false
theorem callable_spec {P : Program} {f : FuncId} (h : callable P f = true) : ((P.funcs[f]?).map (·.body.isSome)) = some true ∧ ((P.funcs[f]?).map (·.name == "runtime.NumGoroutine")) = some false := by
 unfold callable at h
 cases hf : P.funcs[f]? with
 | none => simp [hf] at h
 | some fn =>
  simp only [hf, Bool.and_eq_true, Bool.not_eq_true'] at h
  simp [h.1, h.2]

section
variable {C : Ctx} {ops : Array Oper} {s : List (Nat × AV)} {m : List (Nat × AO)} {os : List Oper} {K : List Eff → St → Prop} {d : Nat} {t : TypeId} {p : String} {af : Array Edge} {g : Option (Nat × Bool)}

theorem aops_sem {σ σ2 : St} (h : σ.sem = σ2.sem) (k : aops C ops σ2 os K) : aops C ops σ os K := by
 obtain ⟨es, σ', ht, hk⟩ := k
 exact ⟨es, σ', by rw [h]; exact ht, hk⟩
theorem o_mem {dst : Option Nat} {op : Op} {e : Eff} {s' : List (Nat × AV)} {m' : List (Nat × AO)} (hg : Gd ops s g) (hs : Step C (St.sem ⟨s, m⟩) ⟨dst, op, t, p, af, g⟩ e) (hf : e.fresh.all (St.freshB ⟨s, m⟩) = true)
  (he : (St.app ⟨s, m⟩ dst e).sem = St.sem ⟨s', m'⟩) (k : aops C ops ⟨s', m'⟩ os fun es σ' => K (e :: es) σ') : aops C ops ⟨s, m⟩ (⟨dst, op, t, p, af, g⟩ :: os) K := o_step hg hs hf (aops_sem he k)
theorem sem_new {id : Nat} {ob : AO} {v : AV} {us fr : List Nat} (h : St.freshB ⟨s, m⟩ id = true) : (St.app ⟨s, m⟩ (some d) { val := v, upd := [(id, some ob)], use := us, fresh := fr }).sem = St.sem ⟨(d, v) :: s, (id, ob) :: m⟩ := by
 unfold St.app St.sem
 congr 1
 funext j
 simp only [appU, lookO_put, lookO]
 by_cases hj : j = id
 ·subst hj; simp
 ·simp [hj, beq_ne (fun e => hj e.symm)]
theorem sem_set {dst : Option Nat} {id : Nat} {ob ob' : AO} {v : AV} {us fr : List Nat} {s' : List (Nat × AV)} (h : lookO m id = some ob) (hs : (match dst with | some d => (d, v) :: s | none => s) = s') : (St.app ⟨s, m⟩ dst { val := v, upd := [(id, some ob')], use := us, fresh := fr }).sem = St.sem ⟨s', setO m id ob'⟩ := by
 subst hs
 unfold St.app St.sem
 congr 1
 funext j
 simp only [appU, lookO_put, lookO_set h]

theorem o_lenSl {ty e : TypeId} {x : Operand} {sz : Nat} {cs : List AV} (n : Nat) (hg : Gd ops s g) (ht : C.P.underlying ty = some (.slice e)) (hx : ev s x = .sl sz cs) (hn : cs.length = n * sz) (k : aops C ops ⟨(d, .lit (.int .i64 (n : Int))) :: s, m⟩ os fun es σ' => K ({ val := .lit (.int .i64 (n : Int)) } :: es) σ') :
  aops C ops ⟨s, m⟩ (⟨some d, .call { callee := .builtin .len, args := #[x], argTypes := #[ty] }, t, p, af, g⟩ :: os) K := o_val hg (.lenSl ty e x sz n cs rfl ht (by rw [ev_st]; exact hx) hn) k
theorem o_lenRow {ty e e' : TypeId} {x : Operand} {id sz : Nat} {cs : List AV} (n : Nat) (hg : Gd ops s g) (ht : C.P.underlying ty = some (.slice e)) (hx : ev s x = .row id) (ho : lookO m id = some (.row e' sz cs)) (hn : cs.length = n * sz) (k : aops C ops ⟨(d, .lit (.int .i64 (n : Int))) :: s, m⟩ os fun es σ' => K ({ val := .lit (.int .i64 (n : Int)), use := [id] } :: es) σ') :
  aops C ops ⟨s, m⟩ (⟨some d, .call { callee := .builtin .len, args := #[x], argTypes := #[ty] }, t, p, af, g⟩ :: os) K := o_val hg (.lenRow ty e e' x id sz n cs rfl ht (by rw [ev_st]; exact hx) ho hn) k
theorem o_call {f : FuncId} {args : Array Operand} {tys : Array TypeId} (asx : List AV) (res : AV) (hg : Gd ops s g) (hb : callable C.P f = true) (ha : evs s args.toList = asx) (hc : ECalls C f asx res) (k : aops C ops ⟨(d, res) :: s, m⟩ os fun es σ' => K ({ val := res } :: es) σ') :
  aops C ops ⟨s, m⟩ (⟨some d, .call { callee := .value (.func f), args := args, argTypes := tys }, t, p, af, g⟩ :: os) K :=
 o_val hg (.call f args tys asx res rfl (callable_spec hb).1 (callable_spec hb).2 (by rw [evs_st]; exact ha) hc) k
theorem sem_new2 {id1 id2 : Nat} {o1 o2 : AO} {v : AV} {us fr : List Nat} (h2 : St.freshB ⟨s, m⟩ id2 = true) (hne : id1 ≠ id2) : (St.app ⟨s, m⟩ (some d) { val := v, upd := [(id1, some o1), (id2, some o2)], use := us, fresh := fr }).sem = St.sem ⟨(d, v) :: s, (id1, o1) :: (id2, o2) :: m⟩ := by
 unfold St.app St.sem
 congr 1
 funext j
 simp only [appU, lookO_put, lookO]
 by_cases h1 : j = id1
 ·subst h1; simp
 ·by_cases h2 : j = id2
  ·subst h2; simp [beq_ne hne, h1]
  ·simp [h1, h2, beq_ne (fun e => h1 e.symm), beq_ne (fun e => h2 e.symm)]
theorem o_callW {f : FuncId} {args : Array Operand} {tys : Array TypeId} {f2 : FuncId} {t1 t2 : TypeId} {cs1 cs2 : List AV} (id1 id2 : Nat) (asx : List AV) (hg : Gd ops s g) (hb : callable C.P f = true) (ha : evs s args.toList = asx) (hne : Nat.beq id1 id2 = false) (hc1 : closedL cs1 = true) (hc2 : closedL cs2 = true) (hc : ECallsW C f asx f2 t1 cs1 t2 cs2)
  (hf1 : St.freshB ⟨s, m⟩ id1 = true) (hf2 : St.freshB ⟨s, m⟩ id2 = true) (k : aops C ops ⟨(d, .clo f2 [.ref id1 0, .ref id2 0]) :: s, (id1, .var t1 cs1) :: (id2, .var t2 cs2) :: m⟩ os fun es σ' => K ({ val := .clo f2 [.ref id1 0, .ref id2 0], upd := [(id1, some (.var t1 cs1)), (id2, some (.var t2 cs2))], fresh := [id1, id2] } :: es) σ') :
  aops C ops ⟨s, m⟩ (⟨some d, .call { callee := .value (.func f), args := args, argTypes := tys }, t, p, af, g⟩ :: os) K :=
 o_mem hg (.callW f args tys asx f2 t1 t2 cs1 cs2 id1 id2 rfl (callable_spec hb).1 (callable_spec hb).2 (by rw [evs_st]; exact ha) (Nat.ne_of_beq_eq_false hne) hc1 hc2 hc) (by simp [hf1, hf2]) (sem_new2 hf2 (Nat.ne_of_beq_eq_false hne)) k
theorem o_callM {f : FuncId} {args : Array Operand} {tys : Array TypeId} {res : AV} {e : TypeId} {sz : Nat} {cs : List AV} (id : Nat) (asx : List AV) (hg : Gd ops s g) (hb : callable C.P f = true) (ha : evs s args.toList = asx) (hc : ECallsM C f asx res id e sz cs) (hf : St.freshB ⟨s, m⟩ id = true)
  (k : aops C ops ⟨(d, res) :: s, (id, .row e sz cs) :: m⟩ os fun es σ' => K ({ val := res, upd := [(id, some (.row e sz cs))], fresh := [id] } :: es) σ') :
  aops C ops ⟨s, m⟩ (⟨some d, .call { callee := .value (.func f), args := args, argTypes := tys }, t, p, af, g⟩ :: os) K :=
 o_mem hg (.callM f args tys asx res id e sz cs rfl (callable_spec hb).1 (callable_spec hb).2 (by rw [evs_st]; exact ha) hc) (by simp [hf]) (sem_new hf) k
theorem o_alloc {ty : TypeId} {z : List Value} (id : Nat) (cs : List AV) (hg : Gd ops s g) (hz : tyZero C.P ty = some z) (h1 : z.all (·.oneCell') = true) (hcs : z.map .lit = cs) (hf : St.freshB ⟨s, m⟩ id = true)
  (k : aops C ops ⟨(d, .ref id 0) :: s, (id, .var ty cs) :: m⟩ os fun es σ' => K ({ val := .ref id 0, upd := [(id, some (.var ty cs))], fresh := [id] } :: es) σ') : aops C ops ⟨s, m⟩ (⟨some d, .alloc ty, t, p, af, g⟩ :: os) K := by
 subst hcs
 exact o_mem hg (.alloc ty z id rfl hz h1) (by simp [hf]) (sem_new hf) k
theorem o_box {ty : TypeId} {x : Operand} (id : Nat) (cs : List AV) (hg : Gd ops s g) (hx : cellsOf (ev s x) = some cs) (hf : St.freshB ⟨s, m⟩ id = true)
  (k : aops C ops ⟨(d, .ref id 0) :: s, (id, .var ty cs) :: m⟩ os fun es σ' => K ({ val := .ref id 0, upd := [(id, some (.var ty cs))], fresh := [id] } :: es) σ') : aops C ops ⟨s, m⟩ (⟨some d, .box ty x, t, p, af, g⟩ :: os) K :=
 o_mem hg (.box ty x id cs rfl (by rw [ev_st]; exact hx)) (by simp [hf]) (sem_new hf) k
theorem o_loadS {ty : TypeId} {x : Operand} {id off : Nat} {ob : AO} (c : AV) (hg : Gd ops s g) (ht : tySc C.P ty = true) (hx : ev s x = .ref id off) (ho : lookO m id = some ob) (hk : ob.cells[off]? = some c)
  (k : aops C ops ⟨(d, c) :: s, m⟩ os fun es σ' => K ({ val := c, use := [id] } :: es) σ') : aops C ops ⟨s, m⟩ (⟨some d, .load ty x, t, p, af, g⟩ :: os) K := o_val hg (.loadS ty x id off ob c rfl (by rw [ev_st]; exact hx) ho ht hk) k
theorem o_loadA {ty : TypeId} {x : Operand} {id off n : Nat} {ob : AO} (cs : List AV) (hg : Gd ops s g) (ht : tyAgg C.P ty = some n) (hx : ev s x = .ref id off) (ho : lookO m id = some ob) (hni : ob.isIter = false) (hl : Nat.ble (off + n) ob.cells.length = true) (hk : (ob.cells.drop off).take n = cs)
  (k : aops C ops ⟨(d, .agg cs) :: s, m⟩ os fun es σ' => K ({ val := .agg cs, use := [id] } :: es) σ') : aops C ops ⟨s, m⟩ (⟨some d, .load ty x, t, p, af, g⟩ :: os) K := by
 subst hk
 exact o_val hg (.loadA ty x id off n ob rfl (by rw [ev_st]; exact hx) ho hni ht (Nat.le_of_ble_eq_true hl)) k
theorem o_loadIS {ty : TypeId} {x : Operand} {cs : List AV} (c : AV) (hg : Gd ops s g) (ht : tySc C.P ty = true) (hx : ev s x = .ip cs) (hk : cs[0]? = some c)
  (k : aops C ops ⟨(d, c) :: s, m⟩ os fun es σ' => K ({ val := c } :: es) σ') : aops C ops ⟨s, m⟩ (⟨some d, .load ty x, t, p, af, g⟩ :: os) K := o_val hg (.loadIS ty x c cs rfl (by rw [ev_st]; exact hx) ht hk) k
theorem o_loadIA {ty : TypeId} {x : Operand} {n : Nat} {cs : List AV} (fs : List AV) (hg : Gd ops s g) (ht : tyAgg C.P ty = some n) (hx : ev s x = .ip cs) (hl : n ≤ cs.length) (hk : cs.take n = fs)
  (k : aops C ops ⟨(d, .agg fs) :: s, m⟩ os fun es σ' => K ({ val := .agg fs } :: es) σ') : aops C ops ⟨s, m⟩ (⟨some d, .load ty x, t, p, af, g⟩ :: os) K := by
 subst hk
 exact o_val hg (.loadIA ty x n cs rfl (by rw [ev_st]; exact hx) ht hl) k
theorem o_store {ty : TypeId} {x y : Operand} {id off n : Nat} {ty' : TypeId} {cs new : List AV} (m' : List (Nat × AO)) (hg : Gd ops s g) (ht : tySize C.P ty = some n) (hx : ev s x = .ref id off) (ho : lookO m id = some (.var ty' cs)) (hy : cellsOf (ev s y) = some new) (hn : new.length = n) (hl : Nat.ble (off + n) cs.length = true)
  (hm : setO m id (.var ty' (over cs off new)) = m') (k : aops C ops ⟨s, m'⟩ os fun es σ' => K ({ val := .any, upd := [(id, some (.var ty' (over cs off new)))], use := [id] } :: es) σ') : aops C ops ⟨s, m⟩ (⟨none, .store ty x y, t, p, af, g⟩ :: os) K := by
 subst hm
 exact o_mem hg (.store ty x y id off n (.var ty' cs) new rfl (by rw [ev_st]; exact hx) ho (by rw [ev_st]; exact hy) rfl ht hn (Nat.le_of_ble_eq_true hl)) rfl (sem_set ho rfl) k
theorem o_storeRow {ty : TypeId} {x y : Operand} {id off n : Nat} {e : TypeId} {sz : Nat} {cs new : List AV} (cs' : List AV) (m' : List (Nat × AO)) (hg : Gd ops s g) (ht : tySize C.P ty = some n) (hx : ev s x = .ref id off) (ho : lookO m id = some (.row e sz cs)) (hy : cellsOf (ev s y) = some new) (hcl : closedL new = true) (hn : new.length = n) (hl : off + n ≤ cs.length)
  (hc : over cs off new = cs') (hm : setO m id (.row e sz cs') = m') (k : aops C ops ⟨s, m'⟩ os fun es σ' => K ({ val := .any, upd := [(id, some (.row e sz cs'))], use := [id] } :: es) σ') : aops C ops ⟨s, m⟩ (⟨none, .store ty x y, t, p, af, g⟩ :: os) K := by
 subst hm
 subst hc
 exact o_mem hg (.storeRow ty x y id off n e sz cs new rfl (by rw [ev_st]; exact hx) ho (by rw [ev_st]; exact hy) hcl ht hn hl) rfl (sem_set ho rfl) k
theorem o_fieldRef {ty : TypeId} {x : Operand} {f id off fo : Nat} {ft : TypeId} (o' : Nat) (hg : Gd ops s g) (hf : tyField C.P ty f = some (fo, ft)) (hx : ev s x = .ref id off) (ho : off + fo = o') (k : aops C ops ⟨(d, .ref id o') :: s, m⟩ os fun es σ' => K ({ val := .ref id o' } :: es) σ') :
  aops C ops ⟨s, m⟩ (⟨some d, .fieldAddr ty x f, t, p, af, g⟩ :: os) K := by
 subst ho
 exact o_val hg (.fieldRef ty x f id off fo ft rfl (by rw [ev_st]; exact hx) hf) k
theorem o_fieldIp {ty : TypeId} {x : Operand} {f fo : Nat} {ft : TypeId} {cs : List AV} (hg : Gd ops s g) (hf : tyField C.P ty f = some (fo, ft)) (hx : ev s x = .ip cs) (hl : fo < cs.length) (k : aops C ops ⟨(d, .ip (cs.drop fo)) :: s, m⟩ os fun es σ' => K ({ val := .ip (cs.drop fo) } :: es) σ') :
  aops C ops ⟨s, m⟩ (⟨some d, .fieldAddr ty x f, t, p, af, g⟩ :: os) K := o_val hg (.fieldIp ty x f fo ft cs rfl (by rw [ev_st]; exact hx) hf hl) k
theorem o_fieldS {ty : TypeId} {x : Operand} {f fo : Nat} {ft : TypeId} {cs : List AV} (c : AV) (hg : Gd ops s g) (hf : tyField C.P ty f = some (fo, ft)) (ht : tySc C.P ft = true) (hx : ev s x = .agg cs) (hk : cs[fo]? = some c) (k : aops C ops ⟨(d, c) :: s, m⟩ os fun es σ' => K ({ val := c } :: es) σ') :
  aops C ops ⟨s, m⟩ (⟨some d, .field ty x f, t, p, af, g⟩ :: os) K := o_val hg (.fieldS ty x f fo ft cs c rfl (by rw [ev_st]; exact hx) hf ht hk) k
theorem o_index1 {ty : TypeId} {x y : Operand} {e by' : Nat} {cs : List AV} {kk : IntKind} {i : Int} (hg : Gd ops s g) (ht : tyElem C.P ty = some (e, 1, by')) (hx : ev s x = .sl 1 cs) (hy : ev s y = .lit (.int kk i)) (h0 : 0 ≤ i) (h1 : i.toNat < cs.length)
  (k : aops C ops ⟨(d, .ip (cs.drop i.toNat)) :: s, m⟩ os fun es σ' => K ({ val := .ip (cs.drop i.toNat) } :: es) σ') : aops C ops ⟨s, m⟩ (⟨some d, .indexAddr ty x y, t, p, af, g⟩ :: os) K := by
 have := Step.indexSl (C := C) (S := St.sem ⟨s, m⟩) (o := ⟨some d, .indexAddr ty x y, t, p, af, g⟩) ty x y e 1 by' cs kk i rfl ht (by rw [ev_st]; exact hx) (by rw [ev_st]; exact hy) h0 (by omega)
 rw [Nat.mul_one] at this
 exact o_val hg this k
theorem o_indexN {ty : TypeId} {x y : Operand} {e sz by' : Nat} {cs : List AV} {kk : IntKind} {i : Int} (hg : Gd ops s g) (ht : tyElem C.P ty = some (e, sz, by')) (hx : ev s x = .sl sz cs) (hy : ev s y = .lit (.int kk i)) (h0 : 0 ≤ i) (h1 : i.toNat * sz < cs.length)
  (k : aops C ops ⟨(d, .ip (cs.drop (i.toNat * sz))) :: s, m⟩ os fun es σ' => K ({ val := .ip (cs.drop (i.toNat * sz)) } :: es) σ') : aops C ops ⟨s, m⟩ (⟨some d, .indexAddr ty x y, t, p, af, g⟩ :: os) K := o_val hg (.indexSl ty x y e sz by' cs kk i rfl ht (by rw [ev_st]; exact hx) (by rw [ev_st]; exact hy) h0 h1) k
theorem o_indexRow1 {ty : TypeId} {x y : Operand} {e e' id by' : Nat} {cs : List AV} {kk : IntKind} {i : Int} (hg : Gd ops s g) (ht : tyElem C.P ty = some (e, 1, by')) (hx : ev s x = .row id) (ho : lookO m id = some (.row e' 1 cs)) (hy : ev s y = .lit (.int kk i)) (h0 : 0 ≤ i) (h1 : i.toNat < cs.length)
  (k : aops C ops ⟨(d, .ref id i.toNat) :: s, m⟩ os fun es σ' => K ({ val := .ref id i.toNat, use := [id] } :: es) σ') : aops C ops ⟨s, m⟩ (⟨some d, .indexAddr ty x y, t, p, af, g⟩ :: os) K := by
 have := Step.indexRow (C := C) (S := St.sem ⟨s, m⟩) (o := ⟨some d, .indexAddr ty x y, t, p, af, g⟩) ty x y e e' id 1 by' cs kk i rfl ht (by rw [ev_st]; exact hx) ho (by rw [ev_st]; exact hy) h0 (by omega)
 rw [Nat.mul_one] at this
 exact o_val hg this k
theorem o_build {ty : TypeId} {parts : Array (Nat × Operand)} {pl : Nat → Option (Nat × Nat)} {z : List Value} (cs : List AV) (ps : List (Nat × List AV)) (hg : Gd ops s g) (hp : tyPlaces C.P ty = some pl) (hz : tyZero C.P ty = some z) (h1 : z.all (·.oneCell') = true) (hps : optL (parts.toList.map fun (i, x) => (cellsOf (ev s x)).map fun c => (i, c)) = some ps) (hc : fillA pl (z.map .lit) ps = some cs)
  (k : aops C ops ⟨(d, .agg cs) :: s, m⟩ os fun es σ' => K ({ val := .agg cs } :: es) σ') : aops C ops ⟨s, m⟩ (⟨some d, .build ty parts, t, p, af, g⟩ :: os) K :=
 o_val hg (.build ty parts pl z ps cs rfl hp hz h1 (by simp only [ev_st]; exact hps) hc) k
theorem o_buildSlice {ty : TypeId} {len : Nat} {parts : Array (Nat × Operand)} {e sz by' : Nat} {z : List Value} (id : Nat) (cs : List AV) (ps : List (Nat × List AV)) (hg : Gd ops s g) (ht : tyElem C.P ty = some (e, sz, by')) (hsz : Nat.blt 0 sz = true) (hz : tyZero C.P e = some z) (h1 : z.all (·.oneCell') = true) (hzl : z.length = sz)
  (hps : optL (parts.toList.map fun (i, x) => (cellsOf (ev s x)).map fun c => (i, c)) = some ps) (hc : fillA (fun i => some (i * sz, sz)) ((List.range (len * sz)).map fun j => .lit (z.getD (j % sz) undef)) ps = some cs) (hcl : closedL cs = true) (hl : Nat.ble (len * sz) 16777216 = true) (hf : St.freshB ⟨s, m⟩ id = true)
  (k : aops C ops ⟨(d, .row id) :: s, (id, .row e sz cs) :: m⟩ os fun es σ' => K ({ val := .row id, upd := [(id, some (.row e sz cs))], fresh := [id] } :: es) σ') : aops C ops ⟨s, m⟩ (⟨some d, .buildSlice ty len parts, t, p, af, g⟩ :: os) K :=
 o_mem hg (.buildSlice ty len parts e sz by' z ps cs id rfl ht (by rw [Nat.blt_eq] at hsz; exact hsz) hz h1 hzl (by simp only [ev_st]; exact hps) hc hcl (Nat.le_of_ble_eq_true hl)) (by simp [hf]) (sem_new hf) k
theorem o_make0 {ty : TypeId} {x y : Operand} {e sz by' : Nat} {z : List Value} {kk kk' : IntKind} {c : Int} (id : Nat) (hg : Gd ops s g) (ht : tyElem C.P ty = some (e, sz, by')) (hsz : Nat.blt 0 sz = true) (hz : tyZero C.P e = some z) (hx : ev s x = .lit (.int kk 0)) (hy : ev s y = .lit (.int kk' c)) (h0 : 0 ≤ c) (hb : by' * c.toNat ≤ 281474976710656) (hm : c ≤ 9223372036854775807) (hf : St.freshB ⟨s, m⟩ id = true)
  (k : aops C ops ⟨(d, .row id) :: s, (id, .row e sz []) :: m⟩ os fun es σ' => K ({ val := .row id, upd := [(id, some (.row e sz []))], fresh := [id] } :: es) σ') : aops C ops ⟨s, m⟩ (⟨some d, .makeSlice ty x y, t, p, af, g⟩ :: os) K :=
 o_mem hg (.make0 ty x y e sz by' z kk kk' c id rfl ht (by rw [Nat.blt_eq] at hsz; exact hsz) hz (by rw [ev_st]; exact hx) (by rw [ev_st]; exact hy) h0 hb hm) (by simp [hf]) (sem_new hf) k
theorem o_makeN {ty : TypeId} {x y : Operand} {e by' : Nat} {z : Value} {kk kk' : IntKind} {c : Int} (id : Nat) (hg : Gd ops s g) (ht : tyElem C.P ty = some (e, 1, by')) (hz : tyZero C.P e = some [z]) (h1 : z.oneCell' = true) (hx : ev s x = .lit (.int kk c)) (hy : ev s y = .lit (.int kk' c)) (h0 : 0 ≤ c) (hb : by' * c.toNat ≤ 140737488355328) (hby : Nat.blt 0 by' = true) (hf : St.freshB ⟨s, m⟩ id = true)
  (k : aops C ops ⟨(d, .row id) :: s, (id, .row e 1 (List.replicate c.toNat (.lit z))) :: m⟩ os fun es σ' => K ({ val := .row id, upd := [(id, some (.row e 1 (List.replicate c.toNat (.lit z))))], fresh := [id] } :: es) σ') : aops C ops ⟨s, m⟩ (⟨some d, .makeSlice ty x y, t, p, af, g⟩ :: os) K :=
 o_mem hg (.makeN ty x y e by' z kk kk' c id rfl ht hz h1 (by rw [ev_st]; exact hx) (by rw [ev_st]; exact hy) h0 hb (by rw [Nat.blt_eq] at hby; exact hby)) (by simp [hf]) (sem_new hf) k
theorem o_slice {ty : TypeId} {x : Operand} {lo hi mx : Option Operand} {e sz by' n : Nat} {cs : List AV} (l h : Nat) (cs' : List AV) (hg : Gd ops s g) (ht : tyElem C.P ty = some (e, sz, by')) (hx : ev s x = .sl sz cs) (hn : cs.length = n * sz)
  (hlo : (St.sem ⟨s, m⟩).loOk lo l) (hhi : (St.sem ⟨s, m⟩).hiOk hi n h) (hmx : (St.sem ⟨s, m⟩).mxOk mx hi.isSome h) (h1 : l ≤ h) (h2 : h ≤ n) (hc : (cs.drop (l * sz)).take ((h - l) * sz) = cs')
  (k : aops C ops ⟨(d, .sl sz cs') :: s, m⟩ os fun es σ' => K ({ val := .sl sz cs' } :: es) σ') : aops C ops ⟨s, m⟩ (⟨some d, .slice ty x lo hi mx, t, p, af, g⟩ :: os) K := by
 subst hc
 exact o_val hg (.sliceSl ty x lo hi mx e sz by' n cs l h rfl ht (by rw [ev_st]; exact hx) hn hlo hhi hmx h1 h2) k
theorem o_sliceX {ty : TypeId} {x : Operand} {lo hi mx : Option Operand} {e sz by' n : Nat} {cs : List AV} (l h : Nat) (cs' : List AV) (hg : Gd ops s g) (ht : tyElem C.P ty = some (e, sz, by')) (hx : ev s x = .sl sz cs) (hn : cs.length = n * sz)
  (hlo : (St.sem ⟨s, m⟩).loOk lo l) (hhi : (St.sem ⟨s, m⟩).hiOk hi n h) (hmx : (St.sem ⟨s, m⟩).mxOk mx hi.isSome h) (hs : mx.isSome = true) (h1 : l ≤ h) (h2 : h ≤ n) (hc : (cs.drop (l * sz)).take ((h - l) * sz) = cs')
  (k : aops C ops ⟨(d, .slc sz cs' (h - l)) :: s, m⟩ os fun es σ' => K ({ val := .slc sz cs' (h - l) } :: es) σ') : aops C ops ⟨s, m⟩ (⟨some d, .slice ty x lo hi mx, t, p, af, g⟩ :: os) K := by
 subst hc
 exact o_val hg (.sliceX ty x lo hi mx e sz by' n cs l h rfl ht (by rw [ev_st]; exact hx) hn hlo hhi hmx hs h1 h2) k
theorem sem_append {id id' : Nat} {ob : AO} {v : AV} {us fr : List Nat} (m' : List (Nat × AO)) (hm : delO m id = m') (hne : id' ≠ id) : (St.app ⟨s, m⟩ (some d) { val := v, upd := [(id', some ob), (id, none)], use := us, fresh := fr }).sem = St.sem ⟨(d, v) :: s, (id', ob) :: m'⟩ := by
 subst hm
 unfold St.app St.sem
 congr 1
 funext j
 simp only [appU, lookO_put, lookO, lookO_del]
 by_cases hj : j = id'
 ·subst hj; simp
 ·simp [hj, beq_ne (fun e => hj e.symm)]
theorem o_append {ty : TypeId} {a x : Operand} {e sz by' : Nat} {z : List Value} {id : Nat} {cs : List AV} (id' : Nat) (ds cs' : List AV) (us : List Nat) (m' : List (Nat × AO)) (hg : Gd ops s g) (ht : tyElem C.P ty = some (e, sz, by')) (hsz : Nat.blt 0 sz = true) (hz : tyZero C.P e = some z) (hzl : z.length = sz)
  (hs : ev s a = .row id) (ho : lookO m id = some (.row e sz cs)) (hx : (ev s x = .sl sz ds ∧ us = [id]) ∨ ∃ i e', ev s x = .row i ∧ lookO m i = some (.row e' sz ds) ∧ us = [id, i]) (hb : (cs.length + ds.length) / sz * by' ≤ 140737488355328) (hl : cs.length + ds.length ≤ 140737488355328)
  (hc : cs ++ ds = cs') (hf : St.freshB ⟨s, m⟩ id' = true) (hm : delO m id = m') (k : aops C ops ⟨(d, .row id') :: s, (id', .row e sz cs') :: m'⟩ os fun es σ' => K ({ val := .row id', upd := [(id', some (.row e sz cs')), (id, none)], use := us, fresh := [id'] } :: es) σ') :
  aops C ops ⟨s, m⟩ (⟨some d, .call { callee := .builtin .append, args := #[a, x], argTypes := #[ty, ty] }, t, p, af, g⟩ :: os) K := by
 subst hc
 have hne : id' ≠ id := fun e => by subst e; rw [lookO_none_of_fr hf] at ho; cases ho
 exact o_mem hg (.append ty a x e sz by' z id id' cs ds us rfl ht (by rw [Nat.blt_eq] at hsz; exact hsz) hz hzl (by rw [ev_st]; exact hs) ho (by rw [ev_st]; exact hx) hb hl) (by simp [hf]) (sem_append m' hm hne) k
theorem o_appendNil {ty : TypeId} {a x : Operand} {e sz by' : Nat} {z : List Value} (id' : Nat) (ds : List AV) (us : List Nat) (hg : Gd ops s g) (ht : tyElem C.P ty = some (e, sz, by')) (hsz : Nat.blt 0 sz = true) (hz : tyZero C.P e = some z) (hzl : z.length = sz)
  (hs : ev s a = .lit (.slice none 0 0)) (hx : (ev s x = .sl sz ds ∧ us = []) ∨ ∃ i e', ev s x = .row i ∧ lookO m i = some (.row e' sz ds) ∧ us = [i]) (hb : ds.length / sz * by' ≤ 140737488355328) (hl : ds.length ≤ 140737488355328)
  (hf : St.freshB ⟨s, m⟩ id' = true) (k : aops C ops ⟨(d, .row id') :: s, (id', .row e sz ds) :: m⟩ os fun es σ' => K ({ val := .row id', upd := [(id', some (.row e sz ds))], use := us, fresh := [id'] } :: es) σ') :
  aops C ops ⟨s, m⟩ (⟨some d, .call { callee := .builtin .append, args := #[a, x], argTypes := #[ty, ty] }, t, p, af, g⟩ :: os) K :=
 o_mem hg (.appendNil ty a x e sz by' z id' ds us rfl ht (by rw [Nat.blt_eq] at hsz; exact hsz) hz hzl (by rw [ev_st]; exact hs) (by rw [ev_st]; exact hx) hb hl) (by simp [hf]) (sem_new hf) k
theorem o_extract {x : Operand} {i : Nat} {fs : List AV} (c : AV) (hg : Gd ops s g) (hx : ev s x = .tup fs) (hi : fs[i]? = some c) (k : aops C ops ⟨(d, c) :: s, m⟩ os fun es σ' => K ({ val := c } :: es) σ') : aops C ops ⟨s, m⟩ (⟨some d, .extract x i, t, p, af, g⟩ :: os) K :=
 o_val hg (.extract x i fs c rfl (by rw [ev_st]; exact hx) hi) k
theorem o_strOf {ty ty' : TypeId} {x : Operand} {id e : Nat} {cs : List AV} (bs : List Int) (hg : Gd ops s g) (ht : C.P.underlying ty = some (.slice e)) (he : C.P.underlying e = some (.int .u8)) (ht' : C.P.underlying ty' = some .string) (hx : ev s x = .row id) (ho : lookO m id = some (.row e 1 cs)) (hc : cs = bs.map fun b => .lit (.int .u8 b))
  (k : aops C ops ⟨(d, .lit (.string (strOfNums bs))) :: s, m⟩ os fun es σ' => K ({ val := .lit (.string (strOfNums bs)), use := [id] } :: es) σ') : aops C ops ⟨s, m⟩ (⟨some d, .convert ty ty' x, t, p, af, g⟩ :: os) K :=
 o_val hg (.strOf ty ty' x id e 1 bs cs rfl ht he ht' (by rw [ev_st]; exact hx) ho rfl hc) k
theorem o_makeFunc {f : FuncId} {caps : Array Operand} (asx : List AV) (hg : Gd ops s g) (ha : evs s caps.toList = asx) (k : aops C ops ⟨(d, .clo f asx) :: s, m⟩ os fun es σ' => K ({ val := .clo f asx } :: es) σ') : aops C ops ⟨s, m⟩ (⟨some d, .makeFunc (.func f) #[] caps, t, p, af, g⟩ :: os) K := by
 have := Step.makeFunc (C := C) (S := St.sem ⟨s, m⟩) (o := ⟨some d, .makeFunc (.func f) #[] caps, t, p, af, g⟩) f caps rfl
 rw [evs_st, ha] at this
 exact o_val hg this k
theorem o_iterNew {ty : TypeId} {x : Operand} {a : ByteArray} (id : Nat) (hg : Gd ops s g) (ht : C.P.underlying ty = some .string) (hx : ev s x = .lit (.string a)) (hf : St.freshB ⟨s, m⟩ id = true)
  (k : aops C ops ⟨(d, .ref id 0) :: s, (id, .blk (.stringIter a 0)) :: m⟩ os fun es σ' => K ({ val := .ref id 0, upd := [(id, some (.blk (.stringIter a 0)))], fresh := [id] } :: es) σ') : aops C ops ⟨s, m⟩ (⟨some d, .range ty x, t, p, af, g⟩ :: os) K :=
 o_mem hg (.iterNew ty x id a rfl ht (by rw [ev_st]; exact hx)) (by simp [hf]) (sem_new hf) k
theorem o_iterNext {x : Operand} {id : Nat} {a : ByteArray} {pos : Nat} (v : Int) (c : Nat) (m' : List (Nat × AO)) (hg : Gd ops s g) (hx : ev s x = .ref id 0) (ho : lookO m id = some (.blk (.stringIter a pos))) (hp : pos < a.size) (hv : (Utf8.decode a pos).1 = v) (hc : pos + (Utf8.decode a pos).2 = c) (hm : setO m id (.blk (.stringIter a c)) = m')
  (k : aops C ops ⟨(d, .tup [.lit (.bool true), .lit (goInt pos), .lit (.int .i32 v)]) :: s, m'⟩ os fun es σ' => K ({ val := .tup [.lit (.bool true), .lit (goInt pos), .lit (.int .i32 v)], upd := [(id, some (.blk (.stringIter a c)))], use := [id] } :: es) σ') : aops C ops ⟨s, m⟩ (⟨some d, .next x true, t, p, af, g⟩ :: os) K := by
 subst hm
 subst hv
 subst hc
 exact o_mem hg (.iterNext x id a pos rfl (by rw [ev_st]; exact hx) ho hp) rfl (sem_set ho rfl) k
theorem o_iterEnd {x : Operand} {id : Nat} {a : ByteArray} {pos : Nat} (hg : Gd ops s g) (hx : ev s x = .ref id 0) (ho : lookO m id = some (.blk (.stringIter a pos))) (hp : ¬ pos < a.size)
  (k : aops C ops ⟨(d, .tup [.lit (.bool false)]) :: s, m⟩ os fun es σ' => K ({ val := .tup [.lit (.bool false)], use := [id] } :: es) σ') : aops C ops ⟨s, m⟩ (⟨some d, .next x true, t, p, af, g⟩ :: os) K :=
 o_val hg (.iterEnd x id a pos rfl (by rw [ev_st]; exact hx) ho hp) k
theorem o_indexS {ty : TypeId} {x y : Operand} {kk : IntKind} {a : ByteArray} {i : Int} (r : Int) (hg : Gd ops s g) (ht : C.P.underlying ty = some .string) (hx : ev s x = .lit (.string a)) (hy : ev s y = .lit (.int kk i)) (h0 : 0 ≤ i) (h1 : i.toNat < a.size) (hr : ((a.data.toList.getD i.toNat 0).toNat : Int) = r)
  (k : aops C ops ⟨(d, .lit (.int .u8 r)) :: s, m⟩ os fun es σ' => K ({ val := .lit (.int .u8 r) } :: es) σ') : aops C ops ⟨s, m⟩ (⟨some d, .index ty x y, t, p, af, g⟩ :: os) K := by
 subst hr
 exact o_pure2 rfl hg hx hy (fun ρ e1 e2 w => by
  have e3 : a[i.toNat]? = some (a.data.toList.getD i.toNat 0) := by
   rw [getElem?_pos a i.toNat h1]
   have h1' : i.toNat < a.data.toList.length := by simpa using h1
   rw [List.getD_eq_getElem?_getD, List.getElem?_eq_getElem h1']
   rfl
  simp [execOp, e1, e2, Instr.index, asIntOf, run_underlying ht, h0, e3]) k
end

/-! ### Lists that are written by a function of their elements -/
theorem dropMap0 {α : Type} {f : α → AV} {xs : List α} {n : Nat} (dflt : α) (h : n < xs.length) : ((xs.map f).drop n)[0]? = some (f (xs.getD n dflt)) := by
 rw [List.getElem?_drop, Nat.add_zero, List.getElem?_map, List.getElem?_eq_getElem h]
 simp [List.getD, List.getElem?_eq_getElem h]
theorem getMap {α : Type} {f : α → AV} {xs : List α} {n : Nat} (dflt : α) (h : n < xs.length) : (xs.map f)[n]? = some (f (xs.getD n dflt)) := by
 rw [List.getElem?_map, List.getElem?_eq_getElem h]
 simp [List.getD, List.getElem?_eq_getElem h]
theorem overMap {α : Type} {f : α → AV} {xs : List α} {n : Nat} {v : α} (h : n < xs.length) : over (xs.map f) n [f v] = (xs.set n v).map f := by
 unfold over
 apply List.ext_getElem?
 intro j
 simp only [List.append_assoc, List.getElem?_append, List.length_take, List.length_map, List.length_cons, List.length_nil, List.getElem?_map, List.getElem?_set]
 rw [show min n xs.length = n by omega]
 by_cases h1 : j < n
 ·rw [if_pos h1, if_neg (by omega), List.getElem?_take, if_pos h1, List.getElem?_map]
 ·by_cases h2 : j = n
  ·subst h2; simp [h]
  ·rw [if_neg h1, if_neg (by omega), if_neg (by omega), List.getElem?_drop, List.getElem?_map]
   congr 2
   omega
theorem int_eq {k : IntKind} {a b : Int} (h : b = a) : AV.lit (.int k b) = AV.lit (.int k a) := by rw [h]
theorem post_ret {C : Ctx} {fn : Func} {res : AV} {σ : St} (h : ∃ vs, ResOk C σ fn.results.toList vs ∧ closedL vs = true ∧ res = packR vs) : postF C fn res .ret σ := h
theorem awp_loopR {C : Ctx} {n : Nat} {Q : Exit → St → Prop} {σ : St} {c : Code} (I : Nat → St → Prop) (h0 : ∃ k σ', I k σ' ∧ Wk C n σ σ') (round : ∀ k σ', I k σ' → awp C n c (thenK (fun σ2 => ∃ k' σ3, k' < k ∧ I k' σ3 ∧ Wk C n σ2 σ3) Q) σ') : awp C n (.loop c) Q σ := by
 obtain ⟨k0, σ0, hi, hw⟩ := h0
 refine awp_loop (γ := { x : Nat × St // I x.1 x.2 }) (fun g => g.1.2) (fun g => g.1.1) ⟨(k0, σ0), hi⟩ hw fun g => ?_
 refine awp_mono (round g.1.1 g.1.2 g.2) fun e σ2 hq => ?_
 cases e with
 | normal =>
  obtain ⟨k', σ3, hlt, hi', hw'⟩ := hq
  exact ⟨⟨(k', σ3), hi'⟩, hlt, hw'⟩
 | _ => exact hq
theorem awp_condB {C : Ctx} {n : Nat} {Q : Exit → St → Prop} {s : List (Nat × AV)} {m : List (Nat × AO)} {c : Operand} {x y : Code} {b : Bool} (hc : ev s c = .lit (.bool b)) (ht : b = true → awp C n x Q ⟨s, m⟩) (hf : b = false → awp C n y Q ⟨s, m⟩) : awp C n (.cond c x y) Q ⟨s, m⟩ :=
 awp_cond (b := b) (by cases c <;> exact hc) ht hf
theorem awp_condQ {C : Ctx} {n : Nat} {Q : Exit → St → Prop} {s : List (Nat × AV)} {m : List (Nat × AO)} {c : Operand} {x y : Code} {q : Prop} [Decidable q] (hc : ev s c = .lit (.bool (decide q))) (ht : q → awp C n x Q ⟨s, m⟩) (hf : ¬ q → awp C n y Q ⟨s, m⟩) : awp C n (.cond c x y) Q ⟨s, m⟩ :=
 awp_condB hc (fun h => ht (of_decide_eq_true h)) (fun h => hf (of_decide_eq_false h))
end Go.Ab

namespace Go.Ab
open Go.RowKit

def nm (k : IntKind) (x : Nat) : AV := .lit (.int k (x : Int))
def ns (k : IntKind) (xs : List Nat) : List AV := xs.map (nm k)
theorem ns_len {k : IntKind} {xs : List Nat} : (ns k xs).length = xs.length := by simp [ns]
def topOf : IntKind → Nat
 | .i8 => 127 | .i16 => 32767 | .i32 => 2147483647 | .i64 => 9223372036854775807
 | .u8 => 255 | .u16 => 65535 | .u32 => 4294967295 | .u64 => 18446744073709551615
theorem wrapN {k : IntKind} {x : Nat} (h : x ≤ topOf k) : k.wrap (x : Int) = (x : Int) := by
 cases k <;> simp only [topOf] at h <;> simp [IntKind.wrap, IntKind.bits, IntKind.signed] <;> omega
theorem wrap64 {x : Int} (h : -9223372036854775808 ≤ x) (h' : x ≤ 9223372036854775807) : IntKind.i64.wrap x = x := by
 simp [IntKind.wrap, IntKind.bits, IntKind.signed]; omega

theorem run_max {P : Program} {tys : Array TypeId} {t : TypeId} (a c : Int) (w : World) : (Builtin.max_ tys t #[.int .i64 a, .int .i64 c]).run P w = .ok (.int .i64 (max a c)) w := by
 have e : (if c > a then c else a) = max a c := by split <;> omega
 simp [Builtin.max_, Builtin.max2, e]
theorem run_min {P : Program} {tys : Array TypeId} {t : TypeId} (a c : Int) (w : World) : (Builtin.min_ tys t #[.int .i64 a, .int .i64 c]).run P w = .ok (.int .i64 (min a c)) w := by
 have e : (if c < a then c else a) = min a c := by split <;> omega
 simp [Builtin.min_, Builtin.min2, e]
def im (k : IntKind) (x : Int) : AV := .lit (.int k x)
def is (k : IntKind) (xs : List Int) : List AV := xs.map (im k)
theorem is_len {k : IntKind} {xs : List Int} : (is k xs).length = xs.length := by simp [is]
theorem is_bnd {k : IntKind} {xs : List Int} {c : Nat} (h : (is k xs).length ≤ c) : xs.length ≤ c := by rwa [is_len] at h
theorem nm_int {k : IntKind} {x : Int} {n : Nat} (h : x = (n : Int)) : AV.lit (.int k x) = nm k n := by rw [h]; rfl
theorem int_nm {k : IntKind} {x : Int} {n : Nat} (h : (n : Int) = x) : nm k n = AV.lit (.int k x) := by rw [← h]; rfl
def byts (a : ByteArray) : List Nat := a.data.toList.map UInt8.toNat
def strN (l : List Nat) : ByteArray := strOfNums (l.map fun (x : Nat) => (x : Int))
theorem strCells_ns (a : ByteArray) : (Lib.strCells a).map AV.lit = ns .u8 (byts a) := by simp [Lib.strCells, ns, byts, nm]
theorem byts_len (a : ByteArray) : (byts a).length = a.size := by simp [byts]
section
variable {C : Ctx} {ops : Array Oper} {s : List (Nat × AV)} {m : List (Nat × AO)} {os : List Oper} {K : List Eff → St → Prop} {d : Nat} {t : TypeId} {p : String} {af : Array Edge} {g : Option (Nat × Bool)}

theorem n_val {op : Op} {v : AV} (v' : AV) (e : v' = v) (h : (aops C ops ⟨(d, v) :: s, m⟩ os fun es σ' => K ({ val := v } :: es) σ') → aops C ops ⟨s, m⟩ (⟨some d, op, t, p, af, g⟩ :: os) K)
  (kk : aops C ops ⟨(d, v') :: s, m⟩ os fun es σ' => K ({ val := v' } :: es) σ') : aops C ops ⟨s, m⟩ (⟨some d, op, t, p, af, g⟩ :: os) K := by subst e; exact h kk

theorem n_add {xt yt : TypeId} {x y : Operand} {k : IntKind} (a c : Nat) (hg : Gd ops s g) (hx : ev s x = nm k a) (hy : ev s y = nm k c) (hr : a + c ≤ topOf k)
  (kk : aops C ops ⟨(d, nm k (a + c)) :: s, m⟩ os fun es σ' => K ({ val := nm k (a + c) } :: es) σ') : aops C ops ⟨s, m⟩ (⟨some d, .binOp .add xt x y yt, t, p, af, g⟩ :: os) K :=
 n_val (nm k (a + c)) (by simp [nm]) (o_add hg hx hy (by rw [← Int.natCast_add]; exact wrapN hr)) kk
theorem n_sub {xt yt : TypeId} {x y : Operand} {k : IntKind} (a c : Nat) (hg : Gd ops s g) (hx : ev s x = nm k a) (hy : ev s y = nm k c) (hc : c ≤ a) (hr : a ≤ topOf k)
  (kk : aops C ops ⟨(d, nm k (a - c)) :: s, m⟩ os fun es σ' => K ({ val := nm k (a - c) } :: es) σ') : aops C ops ⟨s, m⟩ (⟨some d, .binOp .sub xt x y yt, t, p, af, g⟩ :: os) K :=
 n_val (nm k (a - c)) (by simp [nm, Int.natCast_sub hc]) (o_sub hg hx hy (by rw [← Int.natCast_sub hc]; exact wrapN (by omega))) kk
theorem n_mul {xt yt : TypeId} {x y : Operand} {k : IntKind} (a c : Nat) (hg : Gd ops s g) (hx : ev s x = nm k a) (hy : ev s y = nm k c) (hr : a * c ≤ topOf k)
  (kk : aops C ops ⟨(d, nm k (a * c)) :: s, m⟩ os fun es σ' => K ({ val := nm k (a * c) } :: es) σ') : aops C ops ⟨s, m⟩ (⟨some d, .binOp .mul xt x y yt, t, p, af, g⟩ :: os) K :=
 n_val (nm k (a * c)) (by simp [nm]) (o_mul hg hx hy (by rw [← Int.natCast_mul]; exact wrapN hr)) kk
theorem n_quo {xt yt : TypeId} {x y : Operand} {k : IntKind} (a c : Nat) (hg : Gd ops s g) (hx : ev s x = nm k a) (hy : ev s y = nm k c) (hc : 0 < c) (hr : a / c ≤ topOf k)
  (kk : aops C ops ⟨(d, nm k (a / c)) :: s, m⟩ os fun es σ' => K ({ val := nm k (a / c) } :: es) σ') : aops C ops ⟨s, m⟩ (⟨some d, .binOp .quo xt x y yt, t, p, af, g⟩ :: os) K :=
 n_val (nm k (a / c)) (by simp [nm]) (o_quo hg hx hy (by omega) (by omega) (by rw [← Int.natCast_ediv]; exact wrapN hr)) kk
theorem n_rem {xt yt : TypeId} {x y : Operand} {k : IntKind} (a c : Nat) (hg : Gd ops s g) (hx : ev s x = nm k a) (hy : ev s y = nm k c) (hc : 0 < c)
  (kk : aops C ops ⟨(d, nm k (a % c)) :: s, m⟩ os fun es σ' => K ({ val := nm k (a % c) } :: es) σ') : aops C ops ⟨s, m⟩ (⟨some d, .binOp .rem xt x y yt, t, p, af, g⟩ :: os) K :=
 n_val (nm k (a % c)) (by simp [nm]) (o_rem hg hx hy (by omega) (by omega)) kk
theorem dec_eq {p q : Prop} [Decidable p] [Decidable q] (h : p ↔ q) : decide p = decide q := by simp [h]
def bp (q : Prop) [Decidable q] : AV := .lit (.bool (decide q))
theorem n_eql {xt yt : TypeId} {x y : Operand} {k : IntKind} (a c : Nat) (hg : Gd ops s g) (hx : ev s x = nm k a) (hy : ev s y = nm k c) (kk : aops C ops ⟨(d, bp (a = c)) :: s, m⟩ os fun es σ' => K ({ val := bp (a = c) } :: es) σ') :
  aops C ops ⟨s, m⟩ (⟨some d, .binOp .eql xt x y yt, t, p, af, g⟩ :: os) K := n_val (bp (a = c)) (by unfold bp; rw [dec_eq (p := a = c) (q := (a : Int) = c) (by omega)]) (o_eql hg hx hy) kk
theorem n_neq {xt yt : TypeId} {x y : Operand} {k : IntKind} (a c : Nat) (hg : Gd ops s g) (hx : ev s x = nm k a) (hy : ev s y = nm k c) (kk : aops C ops ⟨(d, bp (a ≠ c)) :: s, m⟩ os fun es σ' => K ({ val := bp (a ≠ c) } :: es) σ') :
  aops C ops ⟨s, m⟩ (⟨some d, .binOp .neq xt x y yt, t, p, af, g⟩ :: os) K := n_val (bp (a ≠ c)) (by unfold bp; rw [dec_eq (p := a ≠ c) (q := (a : Int) ≠ c) (by omega)]) (o_neq hg hx hy) kk
theorem n_lss {xt yt : TypeId} {x y : Operand} {k : IntKind} (a c : Nat) (hg : Gd ops s g) (hx : ev s x = nm k a) (hy : ev s y = nm k c) (kk : aops C ops ⟨(d, bp (a < c)) :: s, m⟩ os fun es σ' => K ({ val := bp (a < c) } :: es) σ') :
  aops C ops ⟨s, m⟩ (⟨some d, .binOp .lss xt x y yt, t, p, af, g⟩ :: os) K := n_val (bp (a < c)) (by unfold bp; rw [dec_eq (p := a < c) (q := (a : Int) < c) (by omega)]) (o_lss hg hx hy) kk
theorem n_leq {xt yt : TypeId} {x y : Operand} {k : IntKind} (a c : Nat) (hg : Gd ops s g) (hx : ev s x = nm k a) (hy : ev s y = nm k c) (kk : aops C ops ⟨(d, bp (a ≤ c)) :: s, m⟩ os fun es σ' => K ({ val := bp (a ≤ c) } :: es) σ') :
  aops C ops ⟨s, m⟩ (⟨some d, .binOp .leq xt x y yt, t, p, af, g⟩ :: os) K := n_val (bp (a ≤ c)) (by unfold bp; rw [dec_eq (p := a ≤ c) (q := (a : Int) ≤ c) (by omega)]) (o_leq hg hx hy) kk
theorem n_gtr {xt yt : TypeId} {x y : Operand} {k : IntKind} (a c : Nat) (hg : Gd ops s g) (hx : ev s x = nm k a) (hy : ev s y = nm k c) (kk : aops C ops ⟨(d, bp (c < a)) :: s, m⟩ os fun es σ' => K ({ val := bp (c < a) } :: es) σ') :
  aops C ops ⟨s, m⟩ (⟨some d, .binOp .gtr xt x y yt, t, p, af, g⟩ :: os) K := n_val (bp (c < a)) (by unfold bp; rw [dec_eq (p := c < a) (q := (c : Int) < a) (by omega)]) (o_gtr hg hx hy) kk
theorem n_geq {xt yt : TypeId} {x y : Operand} {k : IntKind} (a c : Nat) (hg : Gd ops s g) (hx : ev s x = nm k a) (hy : ev s y = nm k c) (kk : aops C ops ⟨(d, bp (c ≤ a)) :: s, m⟩ os fun es σ' => K ({ val := bp (c ≤ a) } :: es) σ') :
  aops C ops ⟨s, m⟩ (⟨some d, .binOp .geq xt x y yt, t, p, af, g⟩ :: os) K := n_val (bp (c ≤ a)) (by unfold bp; rw [dec_eq (p := c ≤ a) (q := (c : Int) ≤ a) (by omega)]) (o_geq hg hx hy) kk
theorem n_conv {src dst : TypeId} {x : Operand} {k k' : IntKind} (a : Nat) (hg : Gd ops s g) (hx : ev s x = nm k a) (hs : tyInt C.P src = some k) (hd : tyInt C.P dst = some k') (hr : a ≤ topOf k') (kk : aops C ops ⟨(d, nm k' a) :: s, m⟩ os fun es σ' => K ({ val := nm k' a } :: es) σ') :
  aops C ops ⟨s, m⟩ (⟨some d, .convert src dst x, t, p, af, g⟩ :: os) K := o_conv hg hx hs hd (wrapN hr) kk
theorem n_len {ty e : TypeId} {x : Operand} {k : IntKind} (xs : List Nat) (hg : Gd ops s g) (ht : C.P.underlying ty = some (.slice e)) (hx : ev s x = .sl 1 (ns k xs)) (kk : aops C ops ⟨(d, nm .i64 xs.length) :: s, m⟩ os fun es σ' => K ({ val := nm .i64 xs.length } :: es) σ') :
  aops C ops ⟨s, m⟩ (⟨some d, .call { callee := .builtin .len, args := #[x], argTypes := #[ty] }, t, p, af, g⟩ :: os) K := o_lenSl xs.length hg ht hx (by simp [ns]) kk
theorem n_lenRow {ty e e' : TypeId} {x : Operand} {id : Nat} {k : IntKind} (xs : List Nat) (hg : Gd ops s g) (ht : C.P.underlying ty = some (.slice e)) (hx : ev s x = .row id) (ho : lookO m id = some (.row e' 1 (ns k xs))) (kk : aops C ops ⟨(d, nm .i64 xs.length) :: s, m⟩ os fun es σ' => K ({ val := nm .i64 xs.length, use := [id] } :: es) σ') :
  aops C ops ⟨s, m⟩ (⟨some d, .call { callee := .builtin .len, args := #[x], argTypes := #[ty] }, t, p, af, g⟩ :: os) K := o_lenRow xs.length hg ht hx ho (by simp [ns]) kk
theorem n_index {ty : TypeId} {x y : Operand} {e by' : Nat} {k kk' : IntKind} (xs : List Nat) (i : Nat) (hg : Gd ops s g) (ht : tyElem C.P ty = some (e, 1, by')) (hx : ev s x = .sl 1 (ns k xs)) (hy : ev s y = nm kk' i) (h1 : i < xs.length)
  (kk : aops C ops ⟨(d, .ip ((ns k xs).drop i)) :: s, m⟩ os fun es σ' => K ({ val := .ip ((ns k xs).drop i) } :: es) σ') : aops C ops ⟨s, m⟩ (⟨some d, .indexAddr ty x y, t, p, af, g⟩ :: os) K :=
 o_index1 (i := (i : Int)) hg ht hx hy (by omega) (by simpa [ns] using h1) kk
theorem n_indexRow {ty : TypeId} {x y : Operand} {e e' id by' : Nat} {k kk' : IntKind} (xs : List Nat) (i : Nat) (hg : Gd ops s g) (ht : tyElem C.P ty = some (e, 1, by')) (hx : ev s x = .row id) (ho : lookO m id = some (.row e' 1 (ns k xs))) (hy : ev s y = nm kk' i) (h1 : i < xs.length)
  (kk : aops C ops ⟨(d, .ref id i) :: s, m⟩ os fun es σ' => K ({ val := .ref id i, use := [id] } :: es) σ') : aops C ops ⟨s, m⟩ (⟨some d, .indexAddr ty x y, t, p, af, g⟩ :: os) K :=
 o_indexRow1 (i := (i : Int)) hg ht hx ho hy (by omega) (by simpa [ns] using h1) kk
theorem n_loadI {ty : TypeId} {x : Operand} {k : IntKind} (xs : List Nat) (i : Nat) (hg : Gd ops s g) (ht : tySc C.P ty = true) (hx : ev s x = .ip ((ns k xs).drop i)) (h1 : i < xs.length)
  (kk : aops C ops ⟨(d, nm k (xs.getD i 0)) :: s, m⟩ os fun es σ' => K ({ val := nm k (xs.getD i 0) } :: es) σ') : aops C ops ⟨s, m⟩ (⟨some d, .load ty x, t, p, af, g⟩ :: os) K :=
 o_loadIS _ hg ht hx (dropMap0 0 h1) kk
theorem n_loadRow {ty : TypeId} {x : Operand} {id e' : Nat} {k : IntKind} (xs : List Nat) (i : Nat) (hg : Gd ops s g) (ht : tySc C.P ty = true) (hx : ev s x = .ref id i) (ho : lookO m id = some (.row e' 1 (ns k xs))) (h1 : i < xs.length)
  (kk : aops C ops ⟨(d, nm k (xs.getD i 0)) :: s, m⟩ os fun es σ' => K ({ val := nm k (xs.getD i 0), use := [id] } :: es) σ') : aops C ops ⟨s, m⟩ (⟨some d, .load ty x, t, p, af, g⟩ :: os) K :=
 o_loadS _ hg ht hx ho (getMap 0 h1) kk
theorem n_storeRow {ty : TypeId} {x y : Operand} {id e' : Nat} {k : IntKind} (xs : List Nat) (i v : Nat) (m' : List (Nat × AO)) (hg : Gd ops s g) (ht : tySize C.P ty = some 1) (hx : ev s x = .ref id i) (ho : lookO m id = some (.row e' 1 (ns k xs))) (hy : ev s y = nm k v) (h1 : i < xs.length)
  (hm : setO m id (.row e' 1 (ns k (xs.set i v))) = m') (kk : aops C ops ⟨s, m'⟩ os fun es σ' => K ({ val := .any, upd := [(id, some (.row e' 1 (ns k (xs.set i v))))], use := [id] } :: es) σ') : aops C ops ⟨s, m⟩ (⟨none, .store ty x y, t, p, af, g⟩ :: os) K :=
 o_storeRow (new := [nm k v]) (ns k (xs.set i v)) m' hg ht hx ho (by rw [hy]; rfl) rfl rfl (by simp [ns]; omega) (overMap (f := nm k) h1) hm kk
theorem n_append {ty : TypeId} {a x : Operand} {e by' : Nat} {z : List Value} {id i e' : Nat} {k : IntKind} (id' : Nat) (xs ys : List Nat) (m' : List (Nat × AO)) (hg : Gd ops s g) (ht : tyElem C.P ty = some (e, 1, by')) (hz : tyZero C.P e = some z) (hzl : z.length = 1)
  (hs : ev s a = .row id) (ho : lookO m id = some (.row e 1 (ns k xs))) (hx : ev s x = .row i) (hi : lookO m i = some (.row e' 1 (ns k ys))) (hb : (xs.length + ys.length) * by' ≤ 140737488355328) (hby : 0 < by')
  (hf : St.freshB ⟨s, m⟩ id' = true) (hm : delO m id = m') (kk : aops C ops ⟨(d, .row id') :: s, (id', .row e 1 (ns k (xs ++ ys))) :: m'⟩ os fun es σ' => K ({ val := .row id', upd := [(id', some (.row e 1 (ns k (xs ++ ys)))), (id, none)], use := [id, i], fresh := [id'] } :: es) σ') :
  aops C ops ⟨s, m⟩ (⟨some d, .call { callee := .builtin .append, args := #[a, x], argTypes := #[ty, ty] }, t, p, af, g⟩ :: os) K :=
 o_append id' (ns k ys) (ns k (xs ++ ys)) [id, i] m' hg ht rfl hz hzl hs ho (.inr ⟨i, e', hx, hi, rfl⟩) (by simp only [ns_len, Nat.div_one]; exact hb) (by simp only [ns_len]; have := Nat.le_mul_of_pos_right (xs.length + ys.length) hby; omega) (by simp [ns]) hf hm kk
theorem n_make {ty : TypeId} {x y : Operand} {e by' : Nat} {k kk kk' : IntKind} (id c : Nat) (hg : Gd ops s g) (ht : tyElem C.P ty = some (e, 1, by')) (hz : tyZero C.P e = some [.int k 0]) (hx : ev s x = nm kk c) (hy : ev s y = nm kk' c) (hb : by' * c ≤ 140737488355328) (hby : Nat.blt 0 by' = true) (hf : St.freshB ⟨s, m⟩ id = true)
  (kk : aops C ops ⟨(d, .row id) :: s, (id, .row e 1 (ns k (List.replicate c 0))) :: m⟩ os fun es σ' => K ({ val := .row id, upd := [(id, some (.row e 1 (ns k (List.replicate c 0))))], fresh := [id] } :: es) σ') : aops C ops ⟨s, m⟩ (⟨some d, .makeSlice ty x y, t, p, af, g⟩ :: os) K := by
 have e1 : ns k (List.replicate c 0) = List.replicate c (.lit (.int k 0)) := by simp [ns, nm]
 rw [e1] at kk
 exact o_makeN (c := (c : Int)) id hg ht hz rfl hx hy (by omega) (by simpa using hb) hby hf (by simpa using kk)
theorem n_make0 {ty : TypeId} {x y : Operand} {e by' : Nat} {z : List Value} {kk kk' : IntKind} (k : IntKind) (id c : Nat) (hg : Gd ops s g) (ht : tyElem C.P ty = some (e, 1, by')) (hz : tyZero C.P e = some z) (hx : ev s x = nm kk 0) (hy : ev s y = nm kk' c) (hb : by' * c ≤ 281474976710656) (hm : c ≤ 9223372036854775807) (hf : St.freshB ⟨s, m⟩ id = true)
  (kk : aops C ops ⟨(d, .row id) :: s, (id, .row e 1 (ns k [])) :: m⟩ os fun es σ' => K ({ val := .row id, upd := [(id, some (.row e 1 (ns k [])))], fresh := [id] } :: es) σ') : aops C ops ⟨s, m⟩ (⟨some d, .makeSlice ty x y, t, p, af, g⟩ :: os) K :=
 o_make0 (c := (c : Int)) id hg ht rfl hz hx hy (by omega) (by simpa using hb) (by omega) hf kk
theorem n_slice {ty : TypeId} {x : Operand} {lo hi mx : Option Operand} {e by' : Nat} {k : IntKind} (xs : List Nat) (l h : Nat) (hg : Gd ops s g) (ht : tyElem C.P ty = some (e, 1, by')) (hx : ev s x = .sl 1 (ns k xs))
  (hlo : (St.sem ⟨s, m⟩).loOk lo l) (hhi : (St.sem ⟨s, m⟩).hiOk hi xs.length h) (hmx : (St.sem ⟨s, m⟩).mxOk mx hi.isSome h) (h1 : l ≤ h) (h2 : h ≤ xs.length)
  (kk : aops C ops ⟨(d, .sl 1 (ns k ((xs.drop l).take (h - l)))) :: s, m⟩ os fun es σ' => K ({ val := .sl 1 (ns k ((xs.drop l).take (h - l))) } :: es) σ') : aops C ops ⟨s, m⟩ (⟨some d, .slice ty x lo hi mx, t, p, af, g⟩ :: os) K :=
 o_slice l h _ hg ht hx (by simp [ns]) hlo hhi hmx h1 h2 (by simp [ns, List.map_take, List.map_drop]) kk
theorem n_sliceX {ty : TypeId} {x : Operand} {lo hi mx : Option Operand} {e by' : Nat} {k : IntKind} (xs : List Nat) (l h : Nat) (hg : Gd ops s g) (ht : tyElem C.P ty = some (e, 1, by')) (hx : ev s x = .sl 1 (ns k xs))
  (hlo : (St.sem ⟨s, m⟩).loOk lo l) (hhi : (St.sem ⟨s, m⟩).hiOk hi xs.length h) (hmx : (St.sem ⟨s, m⟩).mxOk mx hi.isSome h) (hs : mx.isSome = true) (h1 : l ≤ h) (h2 : h ≤ xs.length)
  (kk : aops C ops ⟨(d, .slc 1 (ns k ((xs.drop l).take (h - l))) (h - l)) :: s, m⟩ os fun es σ' => K ({ val := .slc 1 (ns k ((xs.drop l).take (h - l))) (h - l) } :: es) σ') : aops C ops ⟨s, m⟩ (⟨some d, .slice ty x lo hi mx, t, p, af, g⟩ :: os) K :=
 o_sliceX l h _ hg ht hx (by simp [ns]) hlo hhi hmx hs h1 h2 (by simp [ns, List.map_take, List.map_drop]) kk
end
theorem n_bnd {k : IntKind} {xs : List Nat} {c : Nat} (h : (ns k xs).length ≤ c) : xs.length ≤ c := by rwa [ns_len] at h

theorem LeL.refl : ∀ (xs : List AV), LeL xs xs
 | [] => .nil
 | x :: xs => .cons (AV.le_refl x) (LeL.refl xs)
theorem ECalls.le {C : Ctx} {f : FuncId} {asx as' : List AV} {res : AV} (h : ECalls C f as' res) (hl : LeL asx as') : ECalls C f asx res := fun H L vals w hG hH hr => h H L vals w hG hH (hl.rep hr)
theorem AV.le_nil' {sz : Nat} {xs : List AV} (h : 0 < sz) (e : xs = []) : AV.le (.lit (.slice none 0 0)) (.sl sz xs) := by subst e; exact AV.le_nil h
theorem AV.le_eq {x y : AV} (h : x = y) : x.le y := by subst h; exact AV.le_refl _
def rowsOk (m : List (Nat × AO)) : List (Nat × Nat × List AV) → Prop
 | [] => True
 | (id, sz, cs) :: r => (∃ e, lookO m id = some (.row e sz cs)) ∧ rowsOk m r
theorem rowsOk_spec {s : List (Nat × AV)} {m : List (Nat × AO)} : ∀ {us : List (Nat × Nat × List AV)}, rowsOk m us → ∀ p ∈ us, ∃ e, (St.sem ⟨s, m⟩).μ p.1 = some (.row e p.2.1 p.2.2)
 | [], _, p, hp => by cases hp
 | (id, sz, cs) :: us, h, p, hp => by
  rcases List.mem_cons.1 hp with e | e
  ·subst e; exact h.1
  ·exact rowsOk_spec h.2 p e
def nodB : List Nat → Bool
 | [] => true
 | x :: xs => (xs.all fun y => !Nat.beq x y) && nodB xs
theorem nodB_spec : ∀ {l : List Nat}, nodB l = true → l.Nodup
 | [], _ => List.nodup_nil
 | x :: xs, h => by
  simp only [nodB, Bool.and_eq_true] at h
  refine List.nodup_cons.2 ⟨fun hm => ?_, nodB_spec h.2⟩
  have := List.all_eq_true.1 h.1 x hm
  simp at this
def delAll (m : List (Nat × AO)) : List (Nat × Nat × List AV) → List (Nat × AO)
 | [] => m
 | p :: r => delO (delAll m r) p.1
theorem lookO_delAll (m : List (Nat × AO)) (j : Nat) : ∀ us, lookO (delAll m us) j = if j ∈ us.map (·.1) then none else lookO m j
 | [] => by simp [delAll]
 | p :: us => by
  simp only [delAll, lookO_del, lookO_delAll m j us, List.map_cons, List.mem_cons]
  by_cases h1 : j = p.1 <;> by_cases h2 : j ∈ us.map (·.1) <;> simp only [h1, h2, if_true, if_false, true_or, or_true, or_false]
section
variable {C : Ctx} {ops : Array Oper} {s : List (Nat × AV)} {m : List (Nat × AO)} {os : List Oper} {K : List Eff → St → Prop} {d : Nat} {t : TypeId} {p : String} {af : Array Edge} {g : Option (Nat × Bool)}
theorem o_callG {y : Operand} {f : FuncId} {args : Array Operand} {tys : Array TypeId} {caps : List AV} (us : List (Nat × Nat × List AV)) (asx as' : List AV) (res : AV) (m' : List (Nat × AO)) (hg : Gd ops s g) (hb : callable C.P f = true) (hy : ev s y = .clo f caps) (hu : rowsOk m us) (hnd : nodB (us.map (·.1)) = true)
  (ha : frzAll us (evs s args.toList ++ caps) = asx) (hl : LeL asx as') (hc : ECalls C f as' res) (hm : delAll m us = m') (k : aops C ops ⟨(d, res) :: s, m'⟩ os fun es σ' => K ({ val := res, use := us.map (·.1), upd := us.map fun p => (p.1, none) } :: es) σ') :
  aops C ops ⟨s, m⟩ (⟨some d, .call { callee := .value y, args := args, argTypes := tys }, t, p, af, g⟩ :: os) K := by
 subst hm
 refine o_mem hg (.callG y f args tys caps us asx res rfl (by rw [ev_st]; exact hy) (callable_spec hb).1 (callable_spec hb).2 (rowsOk_spec hu) (nodB_spec hnd) (by rw [evs_st]; exact ha) (hc.le hl)) rfl ?_ k
 unfold St.app St.sem
 congr 1
 funext j
 rw [lookO_delAll]
 show lookO (appU _ m) j = _
 rw [lookO_app, lkU_drop]
 by_cases hj : j ∈ us.map (·.1) <;> simp only [hj, if_true, if_false]
theorem o_callB {y : Operand} {f : FuncId} {args : Array Operand} {tys : Array TypeId} {caps : List AV} (us : List (Nat × Nat × List AV)) (asx as' : List AV) (u : Value) (hg : Gd ops s g) (hb : callable C.P f = true) (hy : ev s y = .clo f caps) (hu : rowsOk m us) (hnd : nodB (us.map (·.1)) = true)
  (ha : frzAll us (evs s args.toList ++ caps) = asx) (hl : LeL asx as') (hc : ECalls C f as' (.lit u)) (k : aops C ops ⟨(d, .lit u) :: s, m⟩ os fun es σ' => K ({ val := .lit u, use := us.map (·.1) } :: es) σ') :
  aops C ops ⟨s, m⟩ (⟨some d, .call { callee := .value y, args := args, argTypes := tys }, t, p, af, g⟩ :: os) K :=
 o_val hg (.callB y f args tys caps us asx u rfl (by rw [ev_st]; exact hy) (callable_spec hb).1 (callable_spec hb).2 (rowsOk_spec hu) (nodB_spec hnd) (by rw [evs_st]; exact ha) (hc.le hl)) k
theorem n_as {v v' : AV} (e : v = v') (k : aops C ops ⟨(d, v') :: s, m⟩ os K) : aops C ops ⟨(d, v) :: s, m⟩ os K := by subst e; exact k
theorem lo_nm {k : IntKind} {y : Operand} {l : Nat} (h : ev s y = nm k l) : (St.sem ⟨s, m⟩).loOk (some y) l := ⟨k, (l : Int), by rw [ev_st]; exact h, by omega, by omega⟩
theorem hi_nm {k : IntKind} {y : Operand} {n l : Nat} (h : ev s y = nm k l) : (St.sem ⟨s, m⟩).hiOk (some y) n l := ⟨k, (l : Int), by rw [ev_st]; exact h, by omega, by omega⟩
theorem mx_nm {k : IntKind} {y : Operand} {l : Nat} (h : ev s y = nm k l) : (St.sem ⟨s, m⟩).mxOk (some y) true l := ⟨k, (l : Int), by rw [ev_st]; exact h, by omega, by omega, rfl⟩
def byt (a : ByteArray) (i : Nat) : Nat := (a.data.toList.getD i 0).toNat
theorem byt_lt (a : ByteArray) (i : Nat) : byt a i < 256 := (a.data.toList.getD i 0).toNat_lt
theorem n_indexS {ty : TypeId} {x y : Operand} {kk : IntKind} (a : ByteArray) (i : Nat) (hg : Gd ops s g) (ht : C.P.underlying ty = some .string) (hx : ev s x = .lit (.string a)) (hy : ev s y = nm kk i) (h1 : i < a.size)
  (k : aops C ops ⟨(d, nm .u8 (byt a i)) :: s, m⟩ os fun es σ' => K ({ val := nm .u8 (byt a i) } :: es) σ') : aops C ops ⟨s, m⟩ (⟨some d, .index ty x y, t, p, af, g⟩ :: os) K :=
 o_indexS (i := (i : Int)) (byt a i : Nat) hg ht hx hy (by omega) (by simpa using h1) rfl k
theorem n_lenS {ty : TypeId} {x : Operand} (a : ByteArray) (hg : Gd ops s g) (hx : ev s x = .lit (.string a)) (hs : C.P.underlying ty = some .string) (kk : aops C ops ⟨(d, nm .i64 a.size) :: s, m⟩ os fun es σ' => K ({ val := nm .i64 a.size } :: es) σ') :
  aops C ops ⟨s, m⟩ (⟨some d, .call { callee := .builtin .len, args := #[x], argTypes := #[ty] }, t, p, af, g⟩ :: os) K := o_lenS hg hx hs kk
theorem n_sliceSLH {ty : TypeId} {x y z : Operand} {k k' : IntKind} (a : ByteArray) (l h : Nat) (hg : Gd ops s g) (ht : C.P.underlying ty = some .string) (hx : ev s x = .lit (.string a)) (hy : ev s y = nm k l) (hz : ev s z = nm k' h) (h1 : l ≤ h) (h2 : h ≤ a.size)
  (kk : aops C ops ⟨(d, .lit (.string (a.extract l h))) :: s, m⟩ os fun es σ' => K ({ val := .lit (.string (a.extract l h)) } :: es) σ') : aops C ops ⟨s, m⟩ (⟨some d, .slice ty x (some y) (some z) none, t, p, af, g⟩ :: os) K :=
 o_val hg (.pure _ fun ρ hρ w => by
  have e1 := hρ x (by simp [Op.operands]) _ (by rw [ev_st]; exact AV.isLit_of hx)
  have e2 := hρ y (by simp [Op.operands]) _ (by rw [ev_st]; exact AV.isLit_of hy)
  have e3 := hρ z (by simp [Op.operands]) _ (by rw [ev_st]; exact AV.isLit_of hz)
  have i1 : (0 : Int) ≤ (h : Int) ∧ (h : Int) ≤ (a.size : Int) := by omega
  have i2 : (0 : Int) ≤ (l : Int) ∧ (l : Int) ≤ (h : Int) := by omega
  simp [execOp, e1, e2, e3, Instr.sliceAt, Instr.slice, run_underlying ht, Instr.sliceBounds, Instr.sliceBound, asIntOf, i1, i2, h1, h2]) kk
theorem n_sliceSL {ty : TypeId} {x y : Operand} {k : IntKind} (a : ByteArray) (l h : Nat) (hg : Gd ops s g) (ht : C.P.underlying ty = some .string) (hx : ev s x = .lit (.string a)) (hy : ev s y = nm k l) (h1 : l ≤ h) (h2 : h = a.size)
  (kk : aops C ops ⟨(d, .lit (.string (a.extract l h))) :: s, m⟩ os fun es σ' => K ({ val := .lit (.string (a.extract l h)) } :: es) σ') : aops C ops ⟨s, m⟩ (⟨some d, .slice ty x (some y) none none, t, p, af, g⟩ :: os) K :=
 o_val hg (.pure _ fun ρ hρ w => by
  have e1 := hρ x (by simp [Op.operands]) _ (by rw [ev_st]; exact AV.isLit_of hx)
  have e2 := hρ y (by simp [Op.operands]) _ (by rw [ev_st]; exact AV.isLit_of hy)
  have i2 : (0 : Int) ≤ (l : Int) ∧ (l : Int) ≤ (a.size : Int) := by omega
  subst h2
  simp [execOp, e1, e2, Instr.sliceAt, Instr.slice, run_underlying ht, Instr.sliceBounds, Instr.sliceBound, asIntOf, i2, h1]) kk
theorem o_convW {src dst : TypeId} {x : Operand} {k k' : IntKind} {a : Int} (hg : Gd ops s g) (hx : ev s x = .lit (.int k a)) (hs : tyInt C.P src = some k) (hd : tyInt C.P dst = some k') (kk : aops C ops ⟨(d, .lit (.int k' (k'.wrap a))) :: s, m⟩ os fun es σ' => K ({ val := .lit (.int k' (k'.wrap a)) } :: es) σ') :
  aops C ops ⟨s, m⟩ (⟨some d, .convert src dst x, t, p, af, g⟩ :: os) K := o_pure1 rfl hg hx (fun ρ h1 w => by
   have u1 : C.P.underlying src = some (.int k) := by
    unfold tyInt at hs
    cases hu : C.P.underlying src with
    | none => simp [hu] at hs
    | some dd => cases dd <;> simp [hu] at hs; subst hs; rfl
   have u2 : C.P.underlying dst = some (.int k') := by
    unfold tyInt at hd
    cases hu : C.P.underlying dst with
    | none => simp [hu] at hd
    | some dd => cases dd <;> simp [hu] at hd; subst hd; rfl
   simp [execOp, h1, convert, run_underlying u1, run_underlying u2, Conv.intToInt]) kk
theorem o_negW {xt : TypeId} {x : Operand} {k : IntKind} {a : Int} (hg : Gd ops s g) (hx : ev s x = .lit (.int k a)) (kk : aops C ops ⟨(d, .lit (.int k (k.wrap (-a)))) :: s, m⟩ os fun es σ' => K ({ val := .lit (.int k (k.wrap (-a))) } :: es) σ') :
  aops C ops ⟨s, m⟩ (⟨some d, .unOp .neg xt x, t, p, af, g⟩ :: os) K := o_pure1 rfl hg hx (fun ρ h1 w => by simp [execOp, h1, Op.unary, Op.intArith]) kk
theorem i_len {ty e : TypeId} {x : Operand} {k : IntKind} (xs : List Int) (hg : Gd ops s g) (ht : C.P.underlying ty = some (.slice e)) (hx : ev s x = .sl 1 (is k xs)) (kk : aops C ops ⟨(d, nm .i64 xs.length) :: s, m⟩ os fun es σ' => K ({ val := nm .i64 xs.length } :: es) σ') :
  aops C ops ⟨s, m⟩ (⟨some d, .call { callee := .builtin .len, args := #[x], argTypes := #[ty] }, t, p, af, g⟩ :: os) K := o_lenSl xs.length hg ht hx (by simp [is]) kk
theorem i_index {ty : TypeId} {x y : Operand} {e by' : Nat} {k kk' : IntKind} (xs : List Int) (i : Nat) (hg : Gd ops s g) (ht : tyElem C.P ty = some (e, 1, by')) (hx : ev s x = .sl 1 (is k xs)) (hy : ev s y = nm kk' i) (h1 : i < xs.length)
  (kk : aops C ops ⟨(d, .ip ((is k xs).drop i)) :: s, m⟩ os fun es σ' => K ({ val := .ip ((is k xs).drop i) } :: es) σ') : aops C ops ⟨s, m⟩ (⟨some d, .indexAddr ty x y, t, p, af, g⟩ :: os) K :=
 o_index1 (i := (i : Int)) hg ht hx hy (by omega) (by simpa [is] using h1) kk
theorem i_loadI {ty : TypeId} {x : Operand} {k : IntKind} (xs : List Int) (i : Nat) (hg : Gd ops s g) (ht : tySc C.P ty = true) (hx : ev s x = .ip ((is k xs).drop i)) (h1 : i < xs.length)
  (kk : aops C ops ⟨(d, .lit (.int k (xs.getD i 0))) :: s, m⟩ os fun es σ' => K ({ val := .lit (.int k (xs.getD i 0)) } :: es) σ') : aops C ops ⟨s, m⟩ (⟨some d, .load ty x, t, p, af, g⟩ :: os) K :=
 o_loadIS (im k (xs.getD i 0)) hg ht hx (dropMap0 0 h1) kk
theorem n_appendS {ty tu : TypeId} {a x : Operand} {e id : Nat} (id' : Nat) (xs : List Nat) (str : ByteArray) (m' : List (Nat × AO)) (hg : Gd ops s g) (ht : tyElem C.P ty = some (e, 1, 1)) (hus : C.P.underlying tu = some .string) (hz : tyZ1 C.P e = some (.int .u8 0))
  (hs : ev s a = .row id) (ho : lookO m id = some (.row e 1 (ns .u8 xs))) (hx : ev s x = .lit (.string str)) (hb : xs.length + str.size ≤ 140737488355328) (hf : St.freshB ⟨s, m⟩ id' = true) (hm : delO m id = m')
  (kk : aops C ops ⟨(d, .row id') :: s, (id', .row e 1 (ns .u8 (xs ++ byts str))) :: m'⟩ os fun es σ' => K ({ val := .row id', upd := [(id', some (.row e 1 (ns .u8 (xs ++ byts str)))), (id, none)], use := [id], fresh := [id'] } :: es) σ') :
  aops C ops ⟨s, m⟩ (⟨some d, .call { callee := .builtin .append, args := #[a, x], argTypes := #[ty, tu] }, t, p, af, g⟩ :: os) K := by
 have hne : id' ≠ id := fun e => by subst e; rw [lookO_none_of_fr hf] at ho; cases ho
 have e1 : ns .u8 xs ++ (Lib.strCells str).map AV.lit = ns .u8 (xs ++ byts str) := by rw [strCells_ns]; simp [ns]
 have hst := Step.appendS (C := C) (S := St.sem ⟨s, m⟩) (o := ⟨some d, .call { callee := .builtin .append, args := #[a, x], argTypes := #[ty, tu] }, t, p, af, g⟩) ty tu a x e id id' (ns .u8 xs) str rfl ht hus hz (by rw [ev_st]; exact hs) ho (by rw [ev_st]; exact hx) (by rw [ns_len]; exact hb)
 rw [e1] at hst
 exact o_mem hg hst (by simp [hf]) (sem_append m' hm hne) kk
theorem n_strOf {ty ty' : TypeId} {x : Operand} {id e : Nat} (xs : List Nat) (hg : Gd ops s g) (ht : C.P.underlying ty = some (.slice e)) (he : C.P.underlying e = some (.int .u8)) (ht' : C.P.underlying ty' = some .string) (hx : ev s x = .row id) (ho : lookO m id = some (.row e 1 (ns .u8 xs)))
  (k : aops C ops ⟨(d, .lit (.string (strN xs))) :: s, m⟩ os fun es σ' => K ({ val := .lit (.string (strN xs)), use := [id] } :: es) σ') : aops C ops ⟨s, m⟩ (⟨some d, .convert ty ty' x, t, p, af, g⟩ :: os) K :=
 o_strOf (xs.map fun (x : Nat) => (x : Int)) hg ht he ht' hx ho (by simp [ns, nm]) k
theorem o_neqNil {xt yt : TypeId} {x : Operand} {ms : Array (String × TypeId)} (hg : Gd ops s g) (hx : ev s x = .lit .nilIface) (ht : C.P.underlying xt = some (.interface ms)) (kk : aops C ops ⟨(d, .lit (.bool false)) :: s, m⟩ os fun es σ' => K ({ val := .lit (.bool false) } :: es) σ') :
  aops C ops ⟨s, m⟩ (⟨some d, .binOp .neq xt x (.const .nilIface) yt, t, p, af, g⟩ :: os) K :=
 o_val hg (.pure _ fun ρ hρ w => by
  have e1 := hρ x (by simp [Op.operands]) _ (by rw [ev_st]; exact AV.isLit_of hx)
  have e2 := hρ (.const .nilIface) (by simp [Op.operands]) .nilIface rfl
  have eg : (eqGuard .neq xt x (.const .nilIface) .nilIface .nilIface).run C.P w = .ok () w := by
   unfold eqGuard; cases x <;> rfl
  have eq : (Op.equal xt .nilIface .nilIface).run C.P w = .ok true w := by
   simp only [Op.equal, Op.maxDepth]
   rw [Op.equalIn]
   simp only [Sem.run_bind, run_underlying ht, Result.andThen_ok]
   rfl
  have eb : (binOp .neq xt .nilIface .nilIface).run C.P w = .ok (.bool false) w := by
   simp only [binOp, Sem.run_bind, eq, Result.andThen_ok, Sem.run_pure]
   rfl
  simp only [execOp, e1, e2, Sem.run_bind, eg, Result.andThen_ok, eb, Sem.run_pure]) kk
theorem aops_em {σ : St} (q : Prop) [Decidable q] (h1 : q → aops C ops σ os K) (h2 : ¬ q → aops C ops σ os K) : aops C ops σ os K := if h : q then h1 h else h2 h
theorem o_mv {x : Operand} (v : AV) (hx : ev s x = v) (k : aops C ops ⟨(d, v) :: s, m⟩ os fun es σ' => K ({ val := v } :: es) σ') : aops C ops ⟨s, m⟩ (⟨some d, .move x, t, p, af, none⟩ :: os) K := o_move v Gd.none hx k
theorem o_as {x : Operand} (v : AV) (hx : ev s x = v) (k : aops C ops ⟨(d, v) :: s, m⟩ os fun es σ' => K ({ val := v } :: es) σ') : aops C ops ⟨s, m⟩ (⟨some d, .assign x, t, p, af, none⟩ :: os) K := o_assign v Gd.none hx k
theorem o_ct {f : FuncId} {args : Array Operand} {tys : Array TypeId} {asx : List AV} {res : AV} (hc : ECalls C f asx res) (hg : Gd ops s g) (hb : callable C.P f = true) (ha : evs s args.toList = asx) (k : aops C ops ⟨(d, res) :: s, m⟩ os fun es σ' => K ({ val := res } :: es) σ') :
  aops C ops ⟨s, m⟩ (⟨some d, .call { callee := .value (.func f), args := args, argTypes := tys }, t, p, af, g⟩ :: os) K := o_call asx res hg hb ha hc k
end
end Go.Ab

namespace Go.Mth
def val : List Nat → Nat
 | [] => 0
 | x :: xs => x + 1000000000 * val xs
def Dig (xs : List Nat) : Prop := ∀ x ∈ xs, x < 1000000000
def digs (n : Nat) : List Nat := if h : n = 0 then [] else n % 1000000000 :: digs (n / 1000000000)
termination_by n
decreasing_by omega
def dgn : Nat → Nat → List Nat
 | 0, _ => []
 | k + 1, n => n % 1000000000 :: dgn k (n / 1000000000)
def sgn (z : Int) : Int := if z = 0 then 0 else if z < 0 then -1 else 1
def cmpN (a b : Nat) : Int := if a < b then -1 else if b < a then 1 else 0

theorem Dig.nil : Dig [] := fun x h => by cases h
theorem Dig.cons {x : Nat} {xs : List Nat} (h : x < 1000000000) (t : Dig xs) : Dig (x :: xs) := fun y hy => by
 rcases List.mem_cons.1 hy with e | e
 ·omega
 ·exact t y e
theorem Dig.head {x : Nat} {xs : List Nat} (h : Dig (x :: xs)) : x < 1000000000 := h x (by simp)
theorem Dig.tail {x : Nat} {xs : List Nat} (h : Dig (x :: xs)) : Dig xs := fun y hy => h y (by simp [hy])
theorem Dig.getD {xs : List Nat} (h : Dig xs) (i : Nat) : xs.getD i 0 < 1000000000 := by
 by_cases hi : i < xs.length
 ·rw [List.getD_eq_getElem?_getD, List.getElem?_eq_getElem hi]; exact h _ (List.getElem_mem hi)
 ·rw [List.getD_eq_getElem?_getD, List.getElem?_eq_none (by omega)]; decide
theorem Dig.app {xs ys : List Nat} (h : Dig xs) (k : Dig ys) : Dig (xs ++ ys) := fun x hx => by
 rcases List.mem_append.1 hx with e | e
 ·exact h x e
 ·exact k x e
theorem Dig.snoc {xs : List Nat} {x : Nat} (h : Dig xs) (k : x < 1000000000) : Dig (xs ++ [x]) := h.app (Dig.nil.cons k)
theorem Dig.take {xs : List Nat} (h : Dig xs) (n : Nat) : Dig (xs.take n) := fun x hx => h x (List.mem_of_mem_take hx)
theorem Dig.set {xs : List Nat} (h : Dig xs) {i x : Nat} (k : x < 1000000000) : Dig (xs.set i x) := fun y hy => by
 rcases List.mem_or_eq_of_mem_set hy with e | e
 ·exact h y e
 ·omega
theorem dgn_dig : ∀ (k n : Nat), Dig (dgn k n)
 | 0, _ => Dig.nil
 | k + 1, n => (dgn_dig k _).cons (Nat.mod_lt _ (by decide))
theorem val_dgn : ∀ (k n : Nat), val (dgn k n) = n % 1000000000 ^ k
 | 0, n => by simp [dgn, val, Nat.mod_one]
 | k + 1, n => by
  rw [dgn, val, val_dgn k, Nat.pow_succ, Nat.mul_comm (1000000000 ^ k), Nat.mod_mul]
theorem val_lt : ∀ {xs : List Nat}, Dig xs → val xs < 1000000000 ^ xs.length
 | [], _ => by simp [val]
 | x :: xs, h => by
  have := val_lt h.tail
  have h1 := h.head
  simp only [val, List.length_cons, Nat.pow_succ]
  omega
theorem eq_dgn : ∀ {xs : List Nat}, Dig xs → xs = dgn xs.length (val xs)
 | [], _ => rfl
 | x :: xs, h => by
  have h1 := h.head
  simp only [List.length_cons, dgn, val]
  rw [show (x + 1000000000 * val xs) % 1000000000 = x by omega, show (x + 1000000000 * val xs) / 1000000000 = val xs by omega, ← eq_dgn h.tail]
theorem val_app : ∀ (xs ys : List Nat), val (xs ++ ys) = val xs + 1000000000 ^ xs.length * val ys
 | [], ys => by simp [val]
 | x :: xs, ys => by
  simp only [List.cons_append, val, val_app xs ys, List.length_cons, Nat.pow_succ, Nat.mul_add]
  rw [Nat.mul_comm (1000000000 ^ xs.length) 1000000000, Nat.mul_assoc]
  omega
theorem val_snoc (xs : List Nat) (x : Nat) : val (xs ++ [x]) = val xs + 1000000000 ^ xs.length * x := by rw [val_app]; simp [val]
theorem digs_zero : digs 0 = [] := by rw [digs]; simp
theorem digs_pos {n : Nat} (h : 0 < n) : digs n = n % 1000000000 :: digs (n / 1000000000) := by rw [digs]; simp [Nat.ne_of_gt h]
theorem digs_dig (n : Nat) : Dig (digs n) := by
 induction n using Nat.strongRecOn with
 | _ n ih =>
  by_cases h : n = 0
  ·subst h; rw [digs_zero]; exact Dig.nil
  ·rw [digs_pos (by omega)]; exact (ih (n / 1000000000) (by omega)).cons (Nat.mod_lt _ (by decide))
theorem val_digs (n : Nat) : val (digs n) = n := by
 induction n using Nat.strongRecOn with
 | _ n ih =>
  by_cases h : n = 0
  ·subst h; rw [digs_zero]; rfl
  ·rw [digs_pos (by omega), val, ih (n / 1000000000) (by omega)]; omega
theorem digs_len_zero {n : Nat} : (digs n).length = 0 ↔ n = 0 := by
 constructor
 ·intro h
  have := List.eq_nil_of_length_eq_zero h
  have h2 := val_digs n
  rw [this] at h2
  exact h2.symm
 ·intro h; subst h; rw [digs_zero]; rfl
def Trim (xs : List Nat) : Prop := ∀ h : xs ≠ [], xs.getLast h ≠ 0
theorem val_pos_of_trim : ∀ {xs : List Nat}, xs ≠ [] → Trim xs → 0 < val xs
 | [], h, _ => absurd rfl h
 | [x], _, t => by have := t (by simp); simp at this; simp [val]; omega
 | x :: y :: xs, _, t => by
  have := val_pos_of_trim (xs := y :: xs) (by simp) (fun h => by have := t (by simp); simpa using this)
  simp only [val] at this ⊢
  omega
theorem eq_digs : ∀ {xs : List Nat}, Dig xs → Trim xs → xs = digs (val xs)
 | [], _, _ => by simp [val, digs_zero]
 | x :: xs, h, t => by
  have h1 := h.head
  have tt : Trim xs := fun hx => by have := t (by simp); simpa [List.getLast_cons hx] using this
  have hp := val_pos_of_trim (xs := x :: xs) (by simp) t
  rw [digs_pos hp]
  simp only [val]
  rw [show (x + 1000000000 * val xs) % 1000000000 = x by omega, show (x + 1000000000 * val xs) / 1000000000 = val xs by omega, ← eq_digs h.tail tt]
theorem digs_trim (n : Nat) : Trim (digs n) := by
 induction n using Nat.strongRecOn with
 | _ n ih =>
  intro h
  by_cases hn : n = 0
  ·subst hn; rw [digs_zero] at h; exact absurd rfl h
  ·have hd := digs_pos (n := n) (by omega)
   have hlt := ih (n / 1000000000) (by omega)
   by_cases h2 : digs (n / 1000000000) = []
   ·have h3 : n / 1000000000 = 0 := digs_len_zero.1 (by rw [h2]; rfl)
    simp only [hd, h2, List.getLast_singleton]
    omega
   ·simp only [hd, List.getLast_cons h2]
    exact hlt h2
theorem take_getD_zero {xs : List Nat} {n : Nat} (hn : 0 < n) (hl : n ≤ xs.length) (h : xs.getD (n - 1) 0 = 0) : val (xs.take n) = val (xs.take (n - 1)) := by
 have e : xs.take n = xs.take (n - 1) ++ [xs.getD (n - 1) 0] := by
  rw [show n = (n - 1) + 1 by omega, List.take_add_one]
  rw [List.getD_eq_getElem?_getD, Nat.add_sub_cancel, List.getElem?_eq_getElem (by omega)]
  rfl
 rw [e, val_snoc, h]; simp
theorem trim_digs {xs : List Nat} (hd : Dig xs) {n : Nat} (hl : n ≤ xs.length) (hv : val (xs.take n) = val xs) (h : n = 0 ∨ xs.getD (n - 1) 0 ≠ 0) : xs.take n = digs (val xs) := by
 rw [← hv]
 refine eq_digs (hd.take n) fun hne => ?_
 rcases h with h | h
 ·subst h; simp at hne
 ·have hlen : (xs.take n).length = n := by simp; omega
  have hn : 0 < n := by
   cases n with
   | zero => simp at hne
   | succ n => omega
  rw [List.getLast_eq_getElem]
  simp only [List.getElem_take, hlen]
  rw [List.getD_eq_getElem?_getD, List.getElem?_eq_getElem (by omega)] at h
  simpa using h

theorem val_take_succ (xs : List Nat) (j : Nat) : val (xs.take (j + 1)) = val (xs.take j) + 1000000000 ^ j * xs.getD j 0 := by
 by_cases h : j < xs.length
 ·have e : xs.take (j + 1) = xs.take j ++ [xs.getD j 0] := by
   rw [List.take_add_one, List.getD_eq_getElem?_getD, List.getElem?_eq_getElem h]; rfl
  rw [e, val_snoc, List.length_take, Nat.min_eq_left (by omega)]
 ·rw [List.take_of_length_le (by omega), List.take_of_length_le (by omega), List.getD_eq_getElem?_getD, List.getElem?_eq_none (by omega)]; simp
theorem val_split (xs : List Nat) {j : Nat} (h : j ≤ xs.length) : val xs = val (xs.take j) + 1000000000 ^ j * val (xs.drop j) := by
 have := val_app (xs.take j) (xs.drop j)
 rw [List.take_append_drop, List.length_take, Nat.min_eq_left h] at this
 exact this
theorem val_take_all {xs : List Nat} {j : Nat} (h : xs.length ≤ j) : val (xs.take j) = val xs := by rw [List.take_of_length_le h]
theorem val_drop_succ {xs : List Nat} {j : Nat} (h : j < xs.length) : val (xs.drop j) = xs.getD j 0 + 1000000000 * val (xs.drop (j + 1)) := by
 rw [List.drop_eq_getElem_cons h, val, List.getD_eq_getElem?_getD, List.getElem?_eq_getElem h]; rfl
theorem val_drop_all {xs : List Nat} {j : Nat} (h : xs.length ≤ j) : val (xs.drop j) = 0 := by rw [List.drop_of_length_le h]; rfl
theorem cmp_lt {a b : List Nat} (ha : Dig a) {j : Nat} (hja : j < a.length) (hjb : j < b.length) (hd : val (a.drop (j + 1)) = val (b.drop (j + 1))) (h : a.getD j 0 < b.getD j 0) : val a < val b := by
 rw [val_split a (j := j) (by omega), val_split b (j := j) (by omega), val_drop_succ hja, val_drop_succ hjb, hd]
 have h1 := val_lt (ha.take j)
 rw [List.length_take, Nat.min_eq_left (by omega)] at h1
 have h2 : 1000000000 ^ j * (a.getD j 0 + 1 + 1000000000 * val (b.drop (j + 1))) ≤ 1000000000 ^ j * (b.getD j 0 + 1000000000 * val (b.drop (j + 1))) := Nat.mul_le_mul_left _ (by omega)
 have h3 : 1000000000 ^ j * (a.getD j 0 + 1 + 1000000000 * val (b.drop (j + 1))) = 1000000000 ^ j * (a.getD j 0 + 1000000000 * val (b.drop (j + 1))) + 1000000000 ^ j := by
  rw [show a.getD j 0 + 1 + 1000000000 * val (b.drop (j + 1)) = (a.getD j 0 + 1000000000 * val (b.drop (j + 1))) + 1 by omega, Nat.mul_add, Nat.mul_one]
 omega
theorem digs_lo (n : Nat) (h : 0 < n) : 1000000000 ^ ((digs n).length - 1) ≤ n := by
 induction n using Nat.strongRecOn with
 | _ n ih =>
  rw [digs_pos h]
  simp only [List.length_cons, Nat.add_sub_cancel]
  by_cases h2 : n / 1000000000 = 0
  ·rw [h2, digs_zero]; simp; omega
  ·have h3 := ih (n / 1000000000) (by omega) (by omega)
   have hl : 0 < (digs (n / 1000000000)).length := by
    rcases Nat.eq_zero_or_pos (digs (n / 1000000000)).length with e | e
    ·exact absurd (digs_len_zero.1 e) h2
    ·exact e
   have e : 1000000000 ^ (digs (n / 1000000000)).length = 1000000000 ^ ((digs (n / 1000000000)).length - 1) * 1000000000 := by
    rw [← Nat.pow_succ]; congr 1; omega
   rw [e]
   omega
theorem digs_hi (n : Nat) : n < 1000000000 ^ (digs n).length := by
 have := val_lt (digs_dig n)
 rwa [val_digs] at this
theorem digs_len_lt {m n : Nat} (h : (digs m).length < (digs n).length) : m < n := by
 have h1 := digs_hi m
 have hn : 0 < n := by
  rcases Nat.eq_zero_or_pos n with e | e
  ·subst e; rw [digs_zero] at h; simp at h
  ·exact e
 have h2 := digs_lo n hn
 have h3 : 1000000000 ^ (digs m).length ≤ 1000000000 ^ ((digs n).length - 1) := Nat.pow_le_pow_right (by decide) (by omega)
 omega
theorem digs_len_le {m n : Nat} (h : m ≤ n) : (digs m).length ≤ (digs n).length := by
 rcases Nat.lt_or_ge (digs n).length (digs m).length with e | e
 ·have := digs_len_lt e; omega
 ·exact e
theorem digs_len_of_lt {n k : Nat} (h : n < 1000000000 ^ k) : (digs n).length ≤ k := by
 by_cases hn : n = 0
 ·subst hn; rw [digs_zero]; simp
 ·have h1 := digs_lo n (by omega)
  rcases Nat.lt_or_ge k (digs n).length with e | e
  ·have : 1000000000 ^ k ≤ 1000000000 ^ ((digs n).length - 1) := Nat.pow_le_pow_right (by decide) (by omega)
   omega
  ·exact e
theorem cmpN_len {m n : Nat} (h : (digs m).length ≠ (digs n).length) : cmpN m n = if (digs m).length < (digs n).length then -1 else 1 := by
 unfold cmpN
 by_cases h1 : (digs m).length < (digs n).length
 ·rw [if_pos h1, if_pos (digs_len_lt h1)]
 ·have := digs_len_lt (m := n) (n := m) (by omega)
  rw [if_neg h1, if_neg (by omega), if_pos this]
theorem cmpN_lt {m n j : Nat} (h1 : j < (digs m).length) (h2 : (digs m).length = (digs n).length) (hd : val ((digs m).drop (j + 1)) = val ((digs n).drop (j + 1))) (h : (digs m).getD j 0 < (digs n).getD j 0) : cmpN m n = -1 := by
 have := cmp_lt (digs_dig m) h1 (by omega) hd h
 rw [val_digs, val_digs] at this
 unfold cmpN
 rw [if_pos this]
theorem cmpN_gt {m n j : Nat} (h1 : j < (digs m).length) (h2 : (digs m).length = (digs n).length) (hd : val ((digs m).drop (j + 1)) = val ((digs n).drop (j + 1))) (h : (digs n).getD j 0 < (digs m).getD j 0) : cmpN m n = 1 := by
 have := cmp_lt (digs_dig n) (by omega) h1 hd.symm h
 rw [val_digs, val_digs] at this
 unfold cmpN
 rw [if_neg (by omega), if_pos this]
theorem cmpN_eq {m n : Nat} (h : val ((digs m).drop 0) = val ((digs n).drop 0)) : cmpN m n = 0 := by
 simp only [List.drop_zero, val_digs] at h
 subst h
 simp [cmpN]
theorem carry (i s : Nat) : 1000000000 ^ i * (s % 1000000000) + 1000000000 ^ (i + 1) * (s / 1000000000) = 1000000000 ^ i * s := by
 rw [Nat.pow_succ, Nat.mul_assoc, ← Nat.mul_add, Nat.mod_add_div]
theorem add_step {r a b : List Nat} {i c s : Nat} (hl : r.length = i) (hv : val r + 1000000000 ^ i * c = val (a.take i) + val (b.take i)) (hs : s = a.getD i 0 + b.getD i 0 + c) :
  val (r ++ [s % 1000000000]) + 1000000000 ^ (i + 1) * (s / 1000000000) = val (a.take (i + 1)) + val (b.take (i + 1)) := by
 rw [val_snoc, hl, Nat.add_assoc, carry, val_take_succ, val_take_succ, hs, Nat.mul_add, Nat.mul_add]
 omega
def moreN (m n : Nat) : Nat := if m + n < 1000000000 ^ max (digs m).length (digs n).length then max (digs m).length (digs n).length else max (digs m).length (digs n).length + 1
theorem val_more (m n : Nat) : val (dgn (moreN m n) (m + n)) = m + n := by
 rw [val_dgn, Nat.mod_eq_of_lt]
 have h1 := digs_hi m
 have h2 := digs_hi n
 have h3 : 1000000000 ^ (digs m).length ≤ 1000000000 ^ max (digs m).length (digs n).length := Nat.pow_le_pow_right (by decide) (by omega)
 have h4 : 1000000000 ^ (digs n).length ≤ 1000000000 ^ max (digs m).length (digs n).length := Nat.pow_le_pow_right (by decide) (by omega)
 unfold moreN
 split
 ·assumption
 ·rw [Nat.pow_succ]; omega
theorem val_plus (m n : Nat) : val (dgn (max (digs m).length (digs n).length + 1) (m + n)) = m + n := by
 rw [val_dgn, Nat.mod_eq_of_lt]
 have h1 := digs_hi m
 have h2 := digs_hi n
 have h3 : 1000000000 ^ (digs m).length ≤ 1000000000 ^ max (digs m).length (digs n).length := Nat.pow_le_pow_right (by decide) (by omega)
 have h4 : 1000000000 ^ (digs n).length ≤ 1000000000 ^ max (digs m).length (digs n).length := Nat.pow_le_pow_right (by decide) (by omega)
 rw [Nat.pow_succ]; omega
theorem val_minus (m n : Nat) : val (dgn (digs m).length (m - n)) = m - n := by
 rw [val_dgn, Nat.mod_eq_of_lt]
 have := digs_hi m
 omega
theorem more_fin {r : List Nat} {m n i : Nat} (hl : r.length = i) (hd : Dig r) (h1 : (digs m).length ≤ i) (h2 : (digs n).length ≤ i) (hv : val r + 1000000000 ^ i * 0 = val ((digs m).take i) + val ((digs n).take i)) (hi : i ≤ max (digs m).length (digs n).length ∨ (i = max (digs m).length (digs n).length + 1 ∧ 1000000000 ^ max (digs m).length (digs n).length ≤ m + n)) : r = dgn (moreN m n) (m + n) := by
 rw [val_take_all h1, val_take_all h2, val_digs, val_digs, Nat.mul_zero, Nat.add_zero] at hv
 have e := eq_dgn hd
 rw [hl, hv] at e
 have hlt := val_lt hd
 rw [hl, hv] at hlt
 rw [e]
 congr 1
 unfold moreN
 rcases hi with h | ⟨h, h'⟩
 ·have : i = max (digs m).length (digs n).length := by omega
  rw [← this, if_pos hlt]
 ·rw [if_neg (by omega), h]
theorem sub_step {r a b : List Nat} {i c x c' : Nat} (hl : r.length = i) (hv : val r + val (b.take i) = val (a.take i) + 1000000000 ^ i * c) (hs : x + b.getD i 0 + c = a.getD i 0 + 1000000000 * c') :
  val (r ++ [x]) + val (b.take (i + 1)) = val (a.take (i + 1)) + 1000000000 ^ (i + 1) * c' := by
 have h := congrArg (fun t => 1000000000 ^ i * t) hs
 simp only [Nat.mul_add] at h
 rw [val_snoc, hl, val_take_succ, val_take_succ, Nat.pow_succ, Nat.mul_assoc]
 omega
theorem less_fin {r : List Nat} {m n c : Nat} (hl : r.length = (digs m).length) (hd : Dig r) (hnm : n ≤ m) (hv : val r + val ((digs n).take (digs m).length) = val ((digs m).take (digs m).length) + 1000000000 ^ (digs m).length * c) : r = dgn (digs m).length (m - n) := by
 have hle := digs_len_le hnm
 rw [val_take_all hle, val_take_all (Nat.le_refl _), val_digs, val_digs] at hv
 have e := eq_dgn hd
 have hlt := val_lt hd
 rw [hl] at e hlt
 have hm := digs_hi m
 have hc : c = 0 := by
  rcases Nat.eq_zero_or_pos c with h | h
  ·exact h
  ·have : 1000000000 ^ (digs m).length * 1 ≤ 1000000000 ^ (digs m).length * c := Nat.mul_le_mul_left _ h
   omega
 subst hc
 rw [e]
 congr 1
 omega
theorem dgn_eq {r : List Nat} {k n : Nat} (hd : Dig r) (hl : r.length = k) (hv : val r = n) : r = dgn k n := by
 have := eq_dgn hd
 rw [hl, hv] at this
 exact this
theorem getD_ge {xs : List Nat} {i : Nat} (h : xs.length ≤ i) : xs.getD i 0 = 0 := by rw [List.getD_eq_getElem?_getD, List.getElem?_eq_none h]; rfl
def cmpZ (x y : Int) : Int := if x < y then -1 else if y < x then 1 else 0
theorem cmpN_ge {m n : Nat} (h : (0 : Int) ≤ cmpN m n) : n ≤ m := by unfold cmpN at h; split at h <;> omega
theorem cmpN_ng {m n : Nat} (h : ¬ (0 : Int) ≤ cmpN m n) : m ≤ n := by unfold cmpN at h; split at h <;> omega
theorem cmpZ_neg {x y : Int} (hx : x < 0) (h : sgn x = sgn y) : cmpZ x y = cmpN y.natAbs x.natAbs := by
 unfold sgn at h; unfold cmpZ cmpN
 repeat' split at h
 all_goals (repeat' split)
 all_goals omega
theorem cmpZ_pos {x y : Int} (hx : ¬ x < 0) (h : sgn x = sgn y) : cmpZ x y = cmpN x.natAbs y.natAbs := by
 unfold sgn at h; unfold cmpZ cmpN
 repeat' split at h
 all_goals (repeat' split)
 all_goals omega
theorem cmpZ_sgn_lt {x y : Int} (h : sgn x < sgn y) : cmpZ x y = -1 := by
 unfold sgn at h; unfold cmpZ
 repeat' split at h
 all_goals (repeat' split)
 all_goals omega
theorem cmpZ_sgn_gt {x y : Int} (h : sgn x ≠ sgn y) (h2 : ¬ sgn x < sgn y) : cmpZ x y = 1 := by
 unfold sgn at h h2; unfold cmpZ
 repeat' split at h
 all_goals (repeat' split)
 all_goals (repeat' split at h2)
 all_goals omega
theorem sgn_lo (x : Int) : -1 ≤ sgn x ∧ sgn x ≤ 1 := by unfold sgn; (repeat' split) <;> omega
theorem more_hi {m n i c : Nat} {r : List Nat} (hc : c ≤ 1) (hv : val r + 1000000000 ^ i * c = val ((digs m).take i) + val ((digs n).take i)) (hi : i ≤ max (digs m).length (digs n).length ∨ (i = max (digs m).length (digs n).length + 1 ∧ c = 0 ∧ 1000000000 ^ (max (digs m).length (digs n).length) ≤ m + n)) (hg : i < (digs m).length ∨ i < (digs n).length ∨ 0 < c) :
  i + 1 ≤ max (digs m).length (digs n).length ∨ (i + 1 = max (digs m).length (digs n).length + 1 ∧ ((digs m).getD i 0 + (digs n).getD i 0 + c) / 1000000000 = 0 ∧ 1000000000 ^ (max (digs m).length (digs n).length) ≤ m + n) := by
 by_cases hk : i + 1 ≤ max (digs m).length (digs n).length
 ·exact Or.inl hk
 ·refine Or.inr ⟨by omega, ?_, ?_⟩
  ·rw [getD_ge (xs := digs m) (by omega), getD_ge (xs := digs n) (by omega)]; omega
  ·have hik : i = max (digs m).length (digs n).length := by omega
   have hc1 : c = 1 := by omega
   rw [val_take_all (xs := digs m) (by omega), val_take_all (xs := digs n) (by omega), val_digs, val_digs, hc1] at hv
   rw [← hik]; omega
theorem val_set : ∀ {xs : List Nat} {i : Nat} (v : Nat), i < xs.length → val (xs.set i v) + 1000000000 ^ i * xs.getD i 0 = val xs + 1000000000 ^ i * v
 | [], i, v, h => by simp at h
 | x :: xs, 0, v, h => by simp [val]; omega
 | x :: xs, i + 1, v, h => by
  have ih := val_set (xs := xs) (i := i) v (by simpa using h)
  have e : (x :: xs).getD (i + 1) 0 = xs.getD i 0 := by simp [List.getD]
  rw [List.set_cons_succ, val, val, e, Nat.pow_succ, Nat.mul_comm (1000000000 ^ i) 1000000000, Nat.mul_assoc, Nat.mul_assoc]
  omega
theorem Dig.mulb {a b : List Nat} (ha : Dig a) (hb : Dig b) (i k : Nat) : a.getD i 0 * b.getD k 0 ≤ 999999998000000001 := by
 have h1 := ha.getD i
 have h2 := hb.getD k
 have := Nat.mul_le_mul (show a.getD i 0 ≤ 999999999 by omega) (show b.getD k 0 ≤ 999999999 by omega)
 omega
theorem mul_step {o b : List Nat} {i k c x ai P : Nat} (hk : i + k < o.length) (hv : val o + 1000000000 ^ (i + k) * c = P + 1000000000 ^ i * (ai * val (b.take k))) (hx : x = o.getD (i + k) 0 + ai * b.getD k 0 + c) :
  val (o.set (i + k) (x % 1000000000)) + 1000000000 ^ (i + (k + 1)) * (x / 1000000000) = P + 1000000000 ^ i * (ai * val (b.take (k + 1))) := by
 have h1 := val_set (x % 1000000000) hk
 have h2 := carry (i + k) x
 have e : 1000000000 ^ (i + k) * x = 1000000000 ^ (i + k) * o.getD (i + k) 0 + 1000000000 ^ (i + k) * (ai * b.getD k 0) + 1000000000 ^ (i + k) * c := by rw [hx, Nat.mul_add, Nat.mul_add]
 rw [val_take_succ, Nat.mul_add, Nat.mul_add]
 have e2 : 1000000000 ^ i * (ai * (1000000000 ^ k * b.getD k 0)) = 1000000000 ^ (i + k) * (ai * b.getD k 0) := by
  rw [Nat.pow_add, Nat.mul_left_comm ai, Nat.mul_assoc]
 rw [e2, show i + (k + 1) = i + k + 1 by omega]
 omega
theorem val_take_le (xs : List Nat) (k : Nat) : val (xs.take k) ≤ val xs := by
 by_cases h : k ≤ xs.length
 ·rw [val_split xs h]; omega
 ·rw [val_take_all (by omega)]; omega
theorem mul_k {o : List Nat} {m n i k c : Nat} (hv : val o + 1000000000 ^ (i + k) * c = val ((digs m).take i) * n + 1000000000 ^ i * ((digs m).getD i 0 * val ((digs n).take k))) (hc : 0 < c) : k ≤ (digs n).length := by
 have h1 : val ((digs m).take (i + 1)) < 1000000000 ^ (i + 1) := by
  have h := val_lt ((digs_dig m).take (i + 1))
  have h2 : 1000000000 ^ ((digs m).take (i + 1)).length ≤ 1000000000 ^ (i + 1) := Nat.pow_le_pow_right (by decide) (by simp; omega)
  omega
 have h2 := digs_hi n
 have h3 : val ((digs n).take k) ≤ n := by have := val_take_le (digs n) k; rwa [val_digs] at this
 have h4 : 1000000000 ^ i * ((digs m).getD i 0 * val ((digs n).take k)) ≤ 1000000000 ^ i * ((digs m).getD i 0 * n) := Nat.mul_le_mul_left _ (Nat.mul_le_mul_left _ h3)
 have h5 : val ((digs m).take i) * n + 1000000000 ^ i * ((digs m).getD i 0 * n) = val ((digs m).take (i + 1)) * n := by rw [val_take_succ, Nat.add_mul, Nat.mul_assoc]
 have h6 : 1000000000 ^ (i + k) * 1 ≤ 1000000000 ^ (i + k) * c := Nat.mul_le_mul_left _ hc
 have h7 : val ((digs m).take (i + 1)) * n < 1000000000 ^ (i + 1) * 1000000000 ^ (digs n).length := Nat.mul_lt_mul'' h1 h2
 rw [← Nat.pow_add] at h7
 rcases Nat.lt_or_ge (digs n).length k with h | h
 ·have : 1000000000 ^ (i + 1 + (digs n).length) ≤ 1000000000 ^ (i + k) := Nat.pow_le_pow_right (by decide) (by omega)
  omega
 ·exact h
theorem mul_end {o : List Nat} {m n i k : Nat} (hk : (digs n).length ≤ k) (hv : val o + 1000000000 ^ (i + k) * 0 = val ((digs m).take i) * n + 1000000000 ^ i * ((digs m).getD i 0 * val ((digs n).take k))) : val o = val ((digs m).take (i + 1)) * n := by
 rw [val_take_all hk, val_digs] at hv
 rw [val_take_succ, Nat.add_mul, Nat.mul_assoc]
 omega
theorem val_repl (k : Nat) : val (List.replicate k 0) = 0 := by
 induction k with
 | zero => rfl
 | succ k ih => rw [List.replicate_succ, val, ih]
theorem Dig.repl (k : Nat) : Dig (List.replicate k 0) := fun x hx => by rw [List.eq_of_mem_replicate hx]; decide
theorem of_step {r : List Nat} {x n : Nat} (h : r ++ digs x = digs n) (hx : 0 < x) : (r ++ [x % 1000000000]) ++ digs (x / 1000000000) = digs n := by
 rw [← h, digs_pos hx]; simp
theorem of_end {r : List Nat} {x n : Nat} (h : r ++ digs x = digs n) (hx : ¬ 0 < x) : r = digs n := by
 rw [← h, show x = 0 by omega, digs_zero]; simp
theorem digs_len_small {n : Nat} (h : n < 1000000000000000000000000000) : (digs n).length ≤ 3 := digs_len_of_lt (by simpa using h)
theorem of_len {r : List Nat} {x n : Nat} (h : r ++ digs x = digs n) (hx : 0 < x) (hn : n < 1000000000000000000000000000) : r.length + 1 ≤ 3 := by
 have h1 := congrArg List.length h
 have h2 := digs_len_small hn
 have h3 : (digs x).length ≠ 0 := fun e => by have := digs_len_zero.1 e; omega
 simp at h1; omega
theorem drop_set_succ {xs : List Nat} {j v : Nat} : (xs.set j v).drop (j + 1) = xs.drop (j + 1) := by
 rw [List.drop_set]; simp
theorem drop_set_at {xs : List Nat} {j v : Nat} (h : j < xs.length) : val ((xs.set j v).drop j) = v + 1000000000 * val (xs.drop (j + 1)) := by
 rw [val_drop_succ (by simpa using h), drop_set_succ]
 congr 1
 rw [List.getD_eq_getElem?_getD, List.getElem?_set]; simp [h]
theorem div_step {a o : List Nat} {j d r x : Nat} (hj : j < a.length) (hl : o.length = a.length) (hd : 0 < d) (hv : val (a.drop (j + 1)) = d * val (o.drop (j + 1)) + r) (hx : x = r * 1000000000 + a.getD j 0) :
  val (a.drop j) = d * val ((o.set j (x / d)).drop j) + x % d := by
 rw [val_drop_succ hj, drop_set_at (by omega), hv, Nat.mul_add d]
 have := Nat.div_add_mod x d
 have e : 1000000000 * (d * val (o.drop (j + 1)) + r) = d * (1000000000 * val (o.drop (j + 1))) + r * 1000000000 := by rw [Nat.mul_add, Nat.mul_left_comm, Nat.mul_comm r]
 omega
theorem div_dig {r d x a : Nat} (hr : r < d) (ha : a < 1000000000) (hx : x = r * 1000000000 + a) : x / d < 1000000000 := by
 rw [Nat.div_lt_iff_lt_mul (by omega)]
 have : (r + 1) * 1000000000 ≤ d * 1000000000 := Nat.mul_le_mul_right _ hr
 omega
theorem div_end {m d r : Nat} {o : List Nat} (hr : r < d) (hv : val ((digs m).drop 0) = d * val (o.drop 0) + r) : val o = m / d ∧ r = m % d := by
 simp only [List.drop_zero, val_digs] at hv
 constructor
 ·rw [hv, Nat.mul_add_div (by omega), Nat.div_eq_of_lt hr]; rfl
 ·rw [hv, Nat.mul_add_mod, Nat.mod_eq_of_lt hr]
def decs (n : Nat) : List Nat := if h : n = 0 then [] else (48 + n % 10) :: decs (n / 10)
termination_by n
decreasing_by omega
theorem decs_zero : decs 0 = [] := by rw [decs]; simp
theorem decs_pos {n : Nat} (h : 0 < n) : decs n = (48 + n % 10) :: decs (n / 10) := by rw [decs]; simp [Nat.ne_of_gt h]
theorem text_step {bk : List Nat} {n p k hi : Nat} (hk : k < 9) (hM : 0 < p + 10 ^ (9 - k) * hi) (h : bk ++ decs (p + 10 ^ (9 - k) * hi) = decs n) : (bk ++ [48 + p % 10]) ++ decs (p / 10 + 10 ^ (9 - (k + 1)) * hi) = decs n := by
 rw [← h, decs_pos hM]
 have e : 10 ^ (9 - k) * hi = 10 * (10 ^ (9 - (k + 1)) * hi) := by
  rw [← Nat.mul_assoc, show 9 - k = (9 - (k + 1)) + 1 by omega, Nat.pow_succ, Nat.mul_comm 10]
 rw [e, show (p + 10 * (10 ^ (9 - (k + 1)) * hi)) % 10 = p % 10 by omega, show (p + 10 * (10 ^ (9 - (k + 1)) * hi)) / 10 = p / 10 + 10 ^ (9 - (k + 1)) * hi by omega]
 simp
theorem val_drop_pos {n j : Nat} (h : j < (digs n).length) : 0 < val ((digs n).drop j) := by
 have hne : (digs n).drop j ≠ [] := by simp; omega
 refine val_pos_of_trim hne fun hx => ?_
 rw [List.getLast_drop]
 exact digs_trim n _
theorem decs_len_lt {n : Nat} : ∀ {k : Nat}, n < 10 ^ k → (decs n).length ≤ k := by
 induction n using Nat.strongRecOn with
 | _ n ih =>
  intro k hk
  by_cases h : n = 0
  ·subst h; rw [decs_zero]; simp
  ·rw [decs_pos (by omega)]
   cases k with
   | zero => simp at hk; omega
   | succ k =>
    have := ih (n / 10) (by omega) (k := k) (by rw [Nat.div_lt_iff_lt_mul (by decide), ← Nat.pow_succ]; exact hk)
    simpa using this
theorem decs_len_le (n : Nat) : (decs n).length ≤ 9 * (digs n).length := by
 refine decs_len_lt ?_
 have := digs_hi n
 rw [show (1000000000 : Nat) = 10 ^ 9 by rfl, ← Nat.pow_mul] at this
 exact this
def ndig (n : Nat) : Nat := if n = 0 then 1 else (decs n).length
theorem decs_up {x y : Nat} (hy : 0 < y) : ∀ {k : Nat} {p : Nat}, p < 10 ^ k → (decs (p + 10 ^ k * y)).length = k + (decs y).length
 | 0, p, hp => by simp at hp; subst hp; simp
 | k + 1, p, hp => by
  have hpos : 0 < 10 ^ (k + 1) * y := Nat.mul_pos (Nat.pow_pos (by decide)) hy
  have e : 10 ^ (k + 1) * y = 10 * (10 ^ k * y) := by rw [Nat.pow_succ, Nat.mul_comm (10 ^ k) 10, Nat.mul_assoc]
  rw [decs_pos (by omega), List.length_cons, e, show (p + 10 * (10 ^ k * y)) / 10 = p / 10 + 10 ^ k * y by omega, decs_up hy (x := x) (k := k) (by rw [Nat.div_lt_iff_lt_mul (by decide), ← Nat.pow_succ]; exact hp)]
  omega
theorem ndig_top {n : Nat} (h : 0 < n) : (decs n).length = 9 * ((digs n).length - 1) + (decs ((digs n).getD ((digs n).length - 1) 0)).length := by
 have hl : (digs n).length ≠ 0 := fun e => by have := digs_len_zero.1 e; omega
 have hs := val_split (digs n) (j := (digs n).length - 1) (by omega)
 rw [val_digs, val_drop_succ (by omega), val_drop_all (xs := digs n) (j := (digs n).length - 1 + 1) (by omega)] at hs
 have hp := val_drop_pos (n := n) (j := (digs n).length - 1) (by omega)
 rw [val_drop_succ (by omega), val_drop_all (xs := digs n) (j := (digs n).length - 1 + 1) (by omega)] at hp
 have hlt := val_lt ((digs_dig n).take ((digs n).length - 1))
 rw [List.length_take, Nat.min_eq_left (by omega)] at hlt
 simp only [Nat.mul_zero, Nat.add_zero] at hs hp
 rw [show (1000000000 : Nat) ^ ((digs n).length - 1) = 10 ^ (9 * ((digs n).length - 1)) by rw [Nat.pow_mul]] at hs hlt
 have := decs_up (x := 0) hp hlt
 rw [← hs] at this
 exact this
def sg (neg : Bool) (n : Nat) : Int := if neg = true then -(n : Int) else n
end Go.Mth

namespace Go.Mth
open Go.Ab
def txtL (z : Int) : List Nat := if z = 0 then [48] else (if z < 0 then [45] else []) ++ (decs z.natAbs).reverse
def txt (z : Int) : ByteArray := strN (txtL z)
def AllB (l : List Nat) : Prop := ∀ x ∈ l, x < 256
theorem byts_strN {l : List Nat} (h : AllB l) : byts (strN l) = l := by
 unfold byts strN
 rw [strOfNums_data, List.map_map, List.map_map]
 conv => rhs; rw [← List.map_id l]
 refine List.map_congr_left fun x hx => ?_
 have := h x hx
 simp only [Function.comp, Int.toNat_natCast, id_eq]
 exact UInt8.toNat_ofNat_of_lt' this
theorem strN_byts (a : ByteArray) : strN (byts a) = a := by
 unfold byts strN strOfNums
 rw [List.map_map, List.map_map]
 have : (a.data.toList.map (((fun n : Int => UInt8.ofNat n.toNat) ∘ (fun x : Nat => (x : Int))) ∘ UInt8.toNat)) = a.data.toList := by
  conv => rhs; rw [← List.map_id a.data.toList]
  refine List.map_congr_left fun x _ => ?_
  simp
 rw [this]
theorem byts_inj {a b : ByteArray} (h : byts a = byts b) : a = b := by rw [← strN_byts a, ← strN_byts b, h]
theorem byt_byts (a : ByteArray) (i : Nat) : byt a i = (byts a).getD i 0 := by
 unfold byt byts
 simp only [List.getD_eq_getElem?_getD, List.getElem?_map]
 cases a.data.toList[i]? <;> simp
theorem toList_loop (a : ByteArray) : ∀ (n i : Nat) (r : List UInt8), a.size - i = n → ByteArray.toList.loop a i r = r.reverse ++ a.data.toList.drop i := by
 intro n
 induction n with
 | zero =>
  intro i r h
  rw [ByteArray.toList.loop]
  have : ¬ i < a.size := by omega
  simp only [this, if_false]
  rw [List.drop_of_length_le (by simp; have : a.size = a.data.size := rfl; omega)]
  simp
 | succ n ih =>
  intro i r h
  rw [ByteArray.toList.loop]
  have hi : i < a.size := by omega
  simp only [hi, if_true]
  rw [ih (i + 1) _ (by omega)]
  have hi' : i < a.data.toList.length := by simpa using hi
  rw [List.drop_eq_getElem_cons hi']
  simp only [List.reverse_cons, List.append_assoc, List.cons_append, List.nil_append]
  congr 2
  simp [ByteArray.get!, getElem!_pos a.data i (by simpa using hi)]
theorem toList_data (a : ByteArray) : a.toList = a.data.toList := by
 unfold ByteArray.toList
 rw [toList_loop a _ 0 [] rfl]; simp
theorem str_eq {a b : ByteArray} : a.toList = b.toList ↔ a = b := by
 rw [toList_data, toList_data]
 constructor
 ·intro h
  refine byts_inj ?_
  unfold byts; rw [h]
 ·intro h; rw [h]
theorem str_nil {a : ByteArray} : a.toList = ByteArray.toList { data := #[] } ↔ a.size = 0 := by
 rw [str_eq]
 constructor
 ·intro h; subst h; rfl
 ·intro h
  refine byts_inj ?_
  have : (byts a).length = 0 := by rw [byts_len]; exact h
  rw [List.eq_nil_of_length_eq_zero this]; rfl
theorem txt_zero : txt 0 = { data := #[48] } := rfl
theorem txt_fin {z : Int} {b : List Nat} (hz : z.natAbs ≠ 0) (hb : b = decs z.natAbs ++ if z < 0 then [45] else []) : txt z = strN b.reverse := by
 unfold txt txtL
 rw [if_neg (by omega), hb]
 split <;> simp
theorem rev_step {b : List Nat} {j : Nat} (h : 0 < j) (hj : j ≤ b.length) : (b.drop j).reverse ++ [b.getD (j - 1) 0] = (b.drop (j - 1)).reverse := by
 rw [List.drop_eq_getElem_cons (i := j - 1) (by omega), List.reverse_cons, Nat.sub_add_cancel h, List.getD_eq_getElem?_getD, List.getElem?_eq_getElem (by omega)]
 rfl
theorem drop_hi {n i : Nat} (hi : i < (digs n).length) : val ((digs n).drop i) = (digs n).getD i 0 + 10 ^ (9 - 0) * val ((digs n).drop (i + 1)) := by rw [val_drop_succ hi]
theorem bk_len {bk : List Nat} {n M : Nat} (h : bk ++ decs M = decs n) (hM : 0 < M) (hn : (digs n).length ≤ 1000000000) : bk.length + 1 ≤ 9000000000 := by
 have h1 := congrArg List.length h
 have h2 := decs_len_le n
 rw [decs_pos hM] at h1
 simp at h1
 omega
theorem bk_end {bk : List Nat} {n i : Nat} (h : bk ++ decs (val ((digs n).drop i)) = decs n) (hi : (digs n).length ≤ i) : bk = decs n := by
 rw [val_drop_all hi, decs_zero] at h; simpa using h
def sgnAt (a : ByteArray) : Nat := if byt a 0 = 45 then 1 else 0
def OkS (a : ByteArray) : Prop := sgnAt a < a.size ∧ a.size - sgnAt a ≤ 2000 ∧ ¬ (byt a (sgnAt a) = 48 ∧ 1 < a.size) ∧ ∀ i, sgnAt a ≤ i → i < a.size → 48 ≤ byt a i ∧ byt a i ≤ 57
open Classical in
noncomputable def okS (a : ByteArray) : Bool := decide (OkS a)
theorem okS_yes {a : ByteArray} (h : OkS a) : okS a = true := by unfold okS; simp [h]
theorem okS_no {a : ByteArray} (h : ¬ OkS a) : okS a = false := by unfold okS; simp [h]
theorem okS_iff {a : ByteArray} : okS a = true ↔ OkS a := by unfold okS; simp
attribute [irreducible] okS
theorem byt_nil {a : ByteArray} (h : a.size = 0) (i : Nat) : byt a i = 0 := by
 rw [byt_byts]; exact getD_ge (by rw [byts_len]; omega)
def dvk (a : ByteArray) (s : Nat) : Nat → Nat
 | 0 => 0
 | k + 1 => 10 * dvk a s k + (byt a (s + k) - 48)
theorem dvk_add (a : ByteArray) (s j : Nat) : ∀ k, dvk a s (j + k) = dvk a s j * 10 ^ k + dvk a (s + j) k
 | 0 => by simp [dvk]
 | k + 1 => by
  rw [← Nat.add_assoc, dvk, dvk_add a s j k, dvk, Nat.pow_succ, Nat.add_assoc s j k, Nat.mul_add]
  have e : 10 * (dvk a s j * 10 ^ k) = dvk a s j * (10 ^ k * 10) := by rw [Nat.mul_comm 10, Nat.mul_assoc]
  omega
theorem dvk_lt {a : ByteArray} {s : Nat} : ∀ {k : Nat}, (∀ i, s ≤ i → i < s + k → 48 ≤ byt a i ∧ byt a i ≤ 57) → dvk a s k < 10 ^ k
 | 0, _ => by simp [dvk]
 | k + 1, h => by
  have h1 := dvk_lt (a := a) (s := s) (k := k) fun i h1 h2 => h i h1 (by omega)
  have h2 := h (s + k) (by omega) (by omega)
  rw [dvk, Nat.pow_succ]; omega
def numS (a : ByteArray) : Int := sg (decide (byt a 0 = 45)) (dvk a (sgnAt a) (a.size - sgnAt a))
theorem parse_step {L : List Nat} {a : ByteArray} {e s n : Nat} (hse : s ≤ e) (hen : e ≤ n) (hl : L.length * 9 = n - e) (hv : val L = dvk a e (n - e)) : val (L ++ [dvk a s (e - s)]) = dvk a s (n - s) := by
 have h := dvk_add a s (e - s) (n - e)
 rw [show e - s + (n - e) = n - s by omega, show s + (e - s) = e by omega, ← hv, ← hl, Nat.mul_comm L.length 9, Nat.pow_mul] at h
 rw [val_snoc, h, Nat.mul_comm]
 simp only [Nat.reducePow]
 omega
theorem extract_size (a : ByteArray) {l h : Nat} (hl : l ≤ h) (hh : h ≤ a.size) : (a.extract l h).size = h - l := by
 rw [ByteArray.size_extract]; omega
theorem byt_extract (a : ByteArray) {l h i : Nat} (hi : l + i < h) (hh : h ≤ a.size) : byt (a.extract l h) i = byt a (l + i) := by
 have h1 : (a.extract l h).data.toList = (a.data.toList.drop l).take (h - l) := by
  simp [ByteArray.data_extract, Array.toList_extract, List.extract_eq_take_drop]
 unfold byt
 rw [h1]
 simp only [List.getD_eq_getElem?_getD]
 rw [List.getElem?_take_of_lt (by omega), List.getElem?_drop]
theorem dvk_congr {a b : ByteArray} {s t : Nat} : ∀ {k : Nat}, (∀ i, i < k → byt a (s + i) = byt b (t + i)) → dvk a s k = dvk b t k
 | 0, _ => rfl
 | k + 1, h => by rw [dvk, dvk, dvk_congr fun i hi => h i (by omega), h k (by omega)]
theorem txtL_all (z : Int) : AllB (txtL z) := by
 have hd : ∀ n, AllB (decs n) := fun n => by
  induction n using Nat.strongRecOn with
  | _ n ih =>
   by_cases h : n = 0
   ·subst h; rw [decs_zero]; intro x hx; cases hx
   ·rw [decs_pos (by omega)]
    intro x hx
    rcases List.mem_cons.1 hx with e | e
    ·omega
    ·exact ih (n / 10) (by omega) x e
 unfold txtL
 intro x hx
 split at hx
 ·simp at hx; omega
 ·rcases List.mem_append.1 hx with e | e
  ·split at e
   ·simp at e; omega
   ·cases e
  ·exact hd _ x (List.mem_reverse.1 e)
theorem byts_txt (z : Int) : byts (txt z) = txtL z := byts_strN (txtL_all z)
theorem txt_size (x : Nat) : (txt (x : Int)).size = ndig x := by
 rw [← byts_len, byts_txt]
 unfold txtL ndig
 by_cases h : x = 0
 ·subst h; rfl
 ·rw [if_neg (by omega), if_neg h, if_neg (by omega)]; simp
theorem ndig_small {x : Nat} (h : x < 1000000000) : ndig x ≤ 9 := by
 unfold ndig
 split
 ·decide
 ·exact decs_len_lt (k := 9) h
theorem decs_pad {y : Nat} (hy : 0 < y) : ∀ {k p : Nat}, p < 10 ^ k → decs (p + 10 ^ k * y) = decs p ++ List.replicate (k - (decs p).length) 48 ++ decs y
 | 0, p, hp => by simp at hp; subst hp; simp [decs_zero]
 | k + 1, p, hp => by
  have e : 10 ^ (k + 1) * y = 10 * (10 ^ k * y) := by rw [Nat.pow_succ, Nat.mul_comm (10 ^ k) 10, Nat.mul_assoc]
  have hpos : 0 < 10 ^ k * y := Nat.mul_pos (Nat.pow_pos (by decide)) hy
  have hq : p / 10 < 10 ^ k := by rw [Nat.div_lt_iff_lt_mul (by decide), ← Nat.pow_succ]; exact hp
  rw [decs_pos (n := p + 10 ^ (k + 1) * y) (by omega), e, show (p + 10 * (10 ^ k * y)) % 10 = p % 10 by omega, show (p + 10 * (10 ^ k * y)) / 10 = p / 10 + 10 ^ k * y by omega, decs_pad hy hq]
  by_cases h : p = 0
  ·subst h; simp [decs_zero, List.replicate_succ]
  ·rw [decs_pos (n := p) (by omega)]; simp
theorem str_step {n j : Nat} {out : List Nat} (hj : 0 < j) (hjl : j ≤ (digs n).length) (ho : out = (decs (val ((digs n).drop j))).reverse) :
  (if j < (digs n).length then out ++ List.replicate (9 - ndig ((digs n).getD (j - 1) 0)) 48 else out) ++ txtL ((digs n).getD (j - 1) 0 : Nat) = (decs (val ((digs n).drop (j - 1)))).reverse := by
 have hp := (digs_dig n).getD (j - 1)
 have e := val_drop_succ (xs := digs n) (j := j - 1) (by omega)
 rw [Nat.sub_add_cancel hj] at e
 have hL : ∀ p : Nat, p ≠ 0 → txtL (p : Int) = (decs p).reverse := fun p h => by unfold txtL; rw [if_neg (by omega), if_neg (by omega)]; simp
 split
 ·rename_i h
  have hpos := val_drop_pos h
  have := decs_pad hpos (k := 9) (p := (digs n).getD (j - 1) 0) hp
  rw [show (10 : Nat) ^ 9 = 1000000000 by rfl, ← e] at this
  rw [this, ho]
  by_cases h0 : (digs n).getD (j - 1) 0 = 0
  ·rw [h0]; simp [decs_zero, ndig, txtL]
  ·rw [hL _ h0]; unfold ndig; rw [if_neg h0]; simp
 ·rename_i h
  have hd : val ((digs n).drop j) = 0 := val_drop_all (by omega)
  have hpos := val_drop_pos (n := n) (j := j - 1) (by omega)
  rw [hd, Nat.mul_zero, Nat.add_zero] at e
  rw [e] at hpos
  rw [ho, hd, decs_zero, e, hL _ (by omega)]; simp
theorem get_byt {a : ByteArray} {i : Nat} (h : i < a.size) : (a.get! i).toNat = byt a i := by
 have h' : i < a.data.toList.length := by simpa using h
 unfold byt
 rw [List.getD_eq_getElem?_getD, List.getElem?_eq_getElem h']
 simp [ByteArray.get!, getElem!_pos a.data i (by simpa using h)]
theorem utf8_lo {a : ByteArray} {pos : Nat} (hp : pos < a.size) (h : byt a pos < 128) : Utf8.decode a pos = (byt a pos, 1) := by
 have e : (a.get! (pos + 0)).toNat = byt a pos := get_byt hp
 simp only [Utf8.decode, e, h, if_true]
theorem utf8_hi {a : ByteArray} {pos : Nat} (hp : pos < a.size) (h : 128 ≤ byt a pos) : 128 ≤ (Utf8.decode a pos).1 := by
 have e : (a.get! (pos + 0)).toNat = byt a pos := get_byt hp
 have h' : ¬ byt a pos < 128 := by omega
 simp only [Utf8.decode, e, h', if_false]
 split
 ·split
  ·assumption
  ·decide
 ·split
  ·split
   ·rename_i hh; simp only [Bool.and_eq_true, decide_eq_true_eq] at hh; omega
   ·decide
  ·split
   ·split
    ·rename_i hh; simp only [Bool.and_eq_true, decide_eq_true_eq] at hh; omega
    ·decide
   ·decide
theorem utf8_dig {a : ByteArray} {pos : Nat} (hp : pos < a.size) (h : (Utf8.decode a pos).1 < 128) : Utf8.decode a pos = (byt a pos, 1) := by
 rcases Nat.lt_or_ge (byt a pos) 128 with e | e
 ·exact utf8_lo hp e
 ·have := utf8_hi hp e; omega
end Go.Mth

namespace Go.Mth
open Go.Ab
structure MapM where
 mod : Int
 mul : List Int
 add : List Int
 deriving DecidableEq
def mapV (m : MapM) : AV := .agg [.lit (.int .i64 m.mod), .sl 1 (is .i64 m.mul), .sl 1 (is .i64 m.add)]
def OkM (m : MapM) : Prop := 2 ≤ m.mod ∧ m.mod ≤ 12 ∧ (m.mul.length : Int) = m.mod ∧ (m.add.length : Int) = m.mod ∧ ∀ r : Nat, (r : Int) < m.mod → 1 ≤ m.mul.getD r 0 ∧ m.mul.getD r 0 ≤ 999 ∧ -999999 ≤ m.add.getD r 0 ∧ m.add.getD r 0 ≤ 999999 ∧ Int.tmod (m.mul.getD r 0 * r + m.add.getD r 0) m.mod = 0
open Classical in
noncomputable def okM (m : MapM) : Bool := decide (OkM m)
theorem okM_yes {a : MapM} (h : OkM a) : okM a = true := by unfold okM; simp [h]
theorem okM_no {a : MapM} (h : ¬ OkM a) : okM a = false := by unfold okM; simp [h]
theorem okM_iff {a : MapM} : okM a = true ↔ OkM a := by unfold okM; simp
attribute [irreducible] okM
theorem mulb {a r : Int} (h1 : 1 ≤ a) (h2 : a ≤ 999) (h3 : 0 ≤ r) (h4 : r ≤ 12) : 0 ≤ a * r ∧ a * r ≤ 11988 := by
 have e1 : a * r ≤ 999 * r := Int.mul_le_mul_of_nonneg_right h2 h3
 have e2 : 0 ≤ a * r := Int.mul_nonneg (by omega) h3
 omega
def stepZ (m : MapM) (z : Int) : Int := (m.mul.getD (z % m.mod).toNat 0 * z + m.add.getD (z % m.mod).toNat 0) / m.mod
def Fit (z : Int) : Prop := ndig z.natAbs ≤ 2000
instance (z : Int) : Decidable (Fit z) := inferInstanceAs (Decidable (ndig z.natAbs ≤ 2000))
def runZ (m : MapM) : Nat → Int → Int
 | 0, z => z
 | k + 1, z => if Fit z then runZ m k (stepZ m z) else z
def orbZ (m : MapM) : Nat → Int → List Int
 | 0, z => [z]
 | k + 1, z => if Fit z then z :: orbZ m k (stepZ m z) else [z]
def fallZ (m : MapM) (n : Int) : Nat → Int → Nat → Nat × Int × Nat
 | 0, _, _ => (0, 0, 4)
 | k + 1, x, i => if Fit (stepZ m x) then if stepZ m x < n then (i, stepZ m x, 0) else fallZ m n k (stepZ m x) (i + 1) else (0, 0, 3)
theorem digs_len_mul (a b : Nat) : (digs (a * b)).length ≤ (digs a).length + (digs b).length := by
 refine digs_len_of_lt ?_
 rw [Nat.pow_add]
 exact Nat.mul_lt_mul'' (digs_hi a) (digs_hi b)
theorem digs_len_add (a b : Nat) : (digs (a + b)).length ≤ max (digs a).length (digs b).length + 1 := by
 refine digs_len_of_lt ?_
 have h1 := digs_hi a
 have h2 := digs_hi b
 have h3 : 1000000000 ^ (digs a).length ≤ 1000000000 ^ max (digs a).length (digs b).length := Nat.pow_le_pow_right (by decide) (by omega)
 have h4 : 1000000000 ^ (digs b).length ≤ 1000000000 ^ max (digs a).length (digs b).length := Nat.pow_le_pow_right (by decide) (by omega)
 rw [Nat.pow_succ]; omega
theorem len_mulZ (a b : Int) : (digs (a * b).natAbs).length ≤ (digs a.natAbs).length + (digs b.natAbs).length := by
 rw [Int.natAbs_mul]; exact digs_len_mul _ _
theorem len_addZ (a b : Int) : (digs (a + b).natAbs).length ≤ max (digs a.natAbs).length (digs b.natAbs).length + 1 := by
 have h := digs_len_add a.natAbs b.natAbs
 have := digs_len_le (Int.natAbs_add_le a b)
 omega
theorem len_divZ (z : Int) {d : Int} (hd : 2 ≤ d) : (digs (z / d).natAbs).length ≤ (digs z.natAbs).length + 1 := by
 have h1 := Int.emod_nonneg z (show d ≠ 0 by omega)
 have h2 := Int.emod_lt_of_pos z (show 0 < d by omega)
 have h3 := Int.mul_ediv_add_emod z d
 have h4 : (z / d).natAbs ≤ z.natAbs + 1 := by
  by_cases hz : 0 ≤ z
  ·have := Int.ediv_nonneg hz (show 0 ≤ d by omega)
   have : z / d ≤ z := Int.ediv_le_self _ hz
   omega
  ·have e : z ≤ z / d := by
    have h5 : z / d < 0 := Int.ediv_neg_of_neg_of_pos (by omega) (by omega)
    have h6 : d * (z / d + 1) ≤ 2 * (z / d + 1) := Int.mul_le_mul_of_nonpos_right hd (by omega)
    rw [Int.mul_add, Int.mul_one] at h6
    omega
   have : z / d < 0 := Int.ediv_neg_of_neg_of_pos (by omega) (by omega)
   omega
 have h5 := digs_len_le h4
 have h6 := digs_len_add z.natAbs 1
 have h7 := digs_len_small (n := 1) (by decide)
 have h8 : (digs 1).length = 1 := by rw [digs_pos (by decide), show 1 / 1000000000 = 0 by rfl, digs_zero]; rfl
 rcases Nat.eq_zero_or_pos z.natAbs with h0 | h0
 ·rw [h0] at h5; rw [Nat.zero_add, h8] at h5; omega
 ·have : (digs z.natAbs).length ≠ 0 := fun e => by have := digs_len_zero.1 e; omega
  omega
theorem fit_len {z : Int} (h : Fit z) : (digs z.natAbs).length ≤ 300 := by
 unfold Fit ndig at h
 split at h
 ·rename_i h0; rw [h0, digs_zero]; simp
 ·rename_i h0
  rw [ndig_top (by omega)] at h
  omega
theorem small_len {z : Int} (h : z.natAbs ≤ 999999) : (digs z.natAbs).length ≤ 1 := digs_len_of_lt (by omega)
theorem step_len {m : MapM} (hm : OkM m) {z : Int} {k : Nat} (hz : (digs z.natAbs).length ≤ k) (hk : 1 ≤ k) : (digs (stepZ m z).natAbs).length ≤ k + 3 := by
 obtain ⟨o1, o2, o3, o4, o5⟩ := hm
 have hr0 := Int.emod_nonneg z (b := m.mod) (by omega)
 have hr1 := Int.emod_lt_of_pos z (b := m.mod) (by omega)
 have hr := o5 (z % m.mod).toNat (by omega)
 unfold stepZ
 have h1 := len_divZ (m.mul.getD (z % m.mod).toNat 0 * z + m.add.getD (z % m.mod).toNat 0) o1
 have h2 := len_addZ (m.mul.getD (z % m.mod).toNat 0 * z) (m.add.getD (z % m.mod).toNat 0)
 have h3 := len_mulZ (m.mul.getD (z % m.mod).toNat 0) z
 have h4 := small_len (z := m.mul.getD (z % m.mod).toNat 0) (by omega)
 have h5 := small_len (z := m.add.getD (z % m.mod).toNat 0) (by omega)
 omega
theorem cmpZ_lt {x y : Int} : cmpZ x y < 0 ↔ x < y := by unfold cmpZ; split <;> (try split) <;> omega
def toldS (z : Int) : ByteArray := if Fit z then txt z else { data := #[] }
def toldE (z : Int) : Nat := if Fit z then 0 else 3
def noM : MapM := ⟨0, [], []⟩
def kinM (q c : Int) : MapM := ⟨2, [1, q], [0, c]⟩
def kinOk (q c : Int) : Prop := 1 ≤ q ∧ q ≤ 999 ∧ -999999 ≤ c ∧ c ≤ 999999 ∧ Int.tmod q 2 ≠ 0 ∧ Int.tmod c 2 ≠ 0
instance (q c : Int) : Decidable (kinOk q c) := inferInstanceAs (Decidable (1 ≤ q ∧ q ≤ 999 ∧ -999999 ≤ c ∧ c ≤ 999999 ∧ Int.tmod q 2 ≠ 0 ∧ Int.tmod c 2 ≠ 0))
theorem fit_of_pow {n k : Nat} (h : n < 10 ^ k) (hk : k ≤ 2000) (h1 : 1 ≤ k) : ndig n ≤ 2000 := by
 unfold ndig
 split
 ·decide
 ·exact Nat.le_trans (decs_len_lt h) hk
end Go.Mth

namespace Go.Proofs
open Go.Shelf
def Tryz.lays125_ren : Go.Shelf.Ren := ⟨fun | 125 => 49 | 128 => 82 | 129 => 83 | n => n, fun | 46 => 99 | 3 => 3 | 51 => 93 | 53 => 92 | 4 => 4 | 5 => 5 | 9 => 9 | n => n, fun | n => n⟩
theorem Tryz.lays125 : Go.Proofs.Lays.n125 Tryz.prog Tryz.lays125_ren := {
 mixed := by kernel_rfl
 f125 := Tryz.func49.trans (congrArg some (by kernel_rfl))
 f128 := Tryz.func82.trans (congrArg some (by kernel_rfl))
 f129 := Tryz.func83.trans (congrArg some (by kernel_rfl))
 t3 := Tryz.underlying3
 a3 := Tryz.isAgg3
 z3 := Tryz.sizeOf3
 v3 := Tryz.zeroValue3
 t4 := Tryz.underlying4
 a4 := Tryz.isAgg4
 z4 := Tryz.sizeOf4
 v4 := Tryz.zeroValue4
 t5 := Tryz.underlying5
 a5 := Tryz.isAgg5
 z5 := Tryz.sizeOf5
 v5 := Tryz.zeroValue5
 t9 := Tryz.underlying9
 a9 := Tryz.isAgg9
 z9 := Tryz.sizeOf9
 v9 := Tryz.zeroValue9
 t46 := Tryz.underlying99
 a46 := Tryz.isAgg99
 z46 := Tryz.sizeOf99
 v46 := Tryz.zeroValue99
 t51 := Tryz.underlying93
 a51 := Tryz.isAgg93
 z51 := Tryz.sizeOf93
 v51 := Tryz.zeroValue93
 t53 := Tryz.underlying92
 a53 := Tryz.isAgg92
 z53 := Tryz.sizeOf92
 v53 := Tryz.zeroValue92 }
theorem Tryz.bits_Len (x : Int) (w : World) (h0 : 0 ≤ x) (h1 : x ≤ 18446744073709551615) :
  Calls Tryz.prog 49 #[.int .u64 x] w fun e w' => e = .returned (.int .i64 (Lib.bitLen x.toNat)) ∧ w' = w := Any.bits_Len Tryz.lays125 x w h0 h1
def Tryz.laysM171_ren : Go.Shelf.Ren := ⟨fun | 171 => 50 | 243 => 84 | 246 => 109 | 283 => 122 | 284 => 123 | 285 => 124 | 286 => 125 | 129 => 83 | 317 => 131 | 318 => 132 | 319 => 133 | 320 => 134 | 337 => 136 | 338 => 137 | n => n, fun | 3 => 3 | 9 => 9 | 2 => 2 | 4 => 4 | 171 => 170 | 0 => 0 | 53 => 92 | 37 => 100 | 5 => 5 | 173 => 172 | 212 => 183 | 51 => 93 | 20 => 20 | 213 => 184 | 46 => 99 | 232 => 190 | 233 => 191 | n => n, fun | 17 => 2 | 18 => 3 | 19 => 4 | n => n⟩
theorem Tryz.laysM171 : Go.Proofs.LaysM.n171 Tryz.prog Tryz.laysM171_ren := {
 mixed := by kernel_rfl
 f129 := Tryz.func83.trans (congrArg some (by kernel_rfl))
 f171 := Tryz.func50.trans (congrArg some (by kernel_rfl))
 f243 := Tryz.func84.trans (congrArg some (by kernel_rfl))
 f246 := Tryz.func109.trans (congrArg some (by kernel_rfl))
 f283 := Tryz.func122.trans (congrArg some (by kernel_rfl))
 f284 := Tryz.func123.trans (congrArg some (by kernel_rfl))
 f285 := Tryz.func124.trans (congrArg some (by kernel_rfl))
 f286 := Tryz.func125.trans (congrArg some (by kernel_rfl))
 f317 := Tryz.func131.trans (congrArg some (by kernel_rfl))
 f318 := Tryz.func132.trans (congrArg some (by kernel_rfl))
 f319 := Tryz.func133.trans (congrArg some (by kernel_rfl))
 f320 := Tryz.func134.trans (congrArg some (by kernel_rfl))
 f337 := Tryz.func136.trans (congrArg some (by kernel_rfl))
 f338 := Tryz.func137.trans (congrArg some (by kernel_rfl))
 t0 := Tryz.underlying0
 a0 := Tryz.isAgg0
 z0 := Tryz.sizeOf0
 v0 := Tryz.zeroValue0
 t2 := Tryz.underlying2
 a2 := Tryz.isAgg2
 z2 := Tryz.sizeOf2
 v2 := Tryz.zeroValue2
 t3 := Tryz.underlying3
 a3 := Tryz.isAgg3
 z3 := Tryz.sizeOf3
 v3 := Tryz.zeroValue3
 t4 := Tryz.underlying4
 a4 := Tryz.isAgg4
 z4 := Tryz.sizeOf4
 v4 := Tryz.zeroValue4
 t5 := Tryz.underlying5
 a5 := Tryz.isAgg5
 z5 := Tryz.sizeOf5
 v5 := Tryz.zeroValue5
 t9 := Tryz.underlying9
 a9 := Tryz.isAgg9
 z9 := Tryz.sizeOf9
 v9 := Tryz.zeroValue9
 t20 := Tryz.underlying20
 a20 := Tryz.isAgg20
 z20 := Tryz.sizeOf20
 v20 := Tryz.zeroValue20
 t37 := Tryz.underlying100
 a37 := Tryz.isAgg100
 z37 := Tryz.sizeOf100
 v37 := Tryz.zeroValue100
 t46 := Tryz.underlying99
 a46 := Tryz.isAgg99
 z46 := Tryz.sizeOf99
 v46 := Tryz.zeroValue99
 t51 := Tryz.underlying93
 a51 := Tryz.isAgg93
 z51 := Tryz.sizeOf93
 v51 := Tryz.zeroValue93
 t53 := Tryz.underlying92
 a53 := Tryz.isAgg92
 z53 := Tryz.sizeOf92
 v53 := Tryz.zeroValue92
 t171 := Tryz.underlying170
 a171 := Tryz.isAgg170
 z171 := Tryz.sizeOf170
 v171 := Tryz.zeroValue170
 t173 := Tryz.underlying172
 a173 := Tryz.isAgg172
 z173 := Tryz.sizeOf172
 v173 := Tryz.zeroValue172
 t212 := Tryz.underlying183
 a212 := Tryz.isAgg183
 z212 := Tryz.sizeOf183
 v212 := Tryz.zeroValue183
 t213 := Tryz.underlying184
 a213 := Tryz.isAgg184
 z213 := Tryz.sizeOf184
 t232 := Tryz.underlying190
 a232 := Tryz.isAgg190
 z232 := Tryz.sizeOf190
 v232 := Tryz.zeroValue190
 t233 := Tryz.underlying191
 a233 := Tryz.isAgg191
 z233 := Tryz.sizeOf191
 v233 := Tryz.zeroValue191
 g17 := by kernel_rfl
 g18 := by kernel_rfl
 g19 := by kernel_rfl
 i0 := by kernel_rfl
 i2 := by kernel_rfl
 i3 := by kernel_rfl
 i4 := by kernel_rfl
 i5 := by kernel_rfl
 i9 := by kernel_rfl
 i20 := by kernel_rfl
 i37 := by kernel_rfl
 i46 := by kernel_rfl
 i51 := by kernel_rfl
 i53 := by kernel_rfl
 i171 := by kernel_rfl
 i173 := by kernel_rfl
 i212 := by kernel_rfl
 i232 := by kernel_rfl
 i233 := by kernel_rfl
 m17 := by kernel_rfl
 m18 := by kernel_rfl
 m19 := by kernel_rfl }
open Go.RowKit Go.Sort Go.Lib in
theorem Tryz.strconv_Itoa (n : Int) (h0 : -9223372036854775808 ≤ n) (h1 : n ≤ 9223372036854775807) (w : World) (htab : Lib.TabIs Tryz.prog w "internal/strconv.uint64pow10" .u64 Lib.pow10Tab) :
  Calls Tryz.prog 50 #[.int .i64 n] w fun e w' => e = .returned (.string ⟨(Lib.itoa n).toArray⟩) ∧ ∃ k os, w' = grow (w.drewN k) os := Any.strconv_Itoa Tryz.laysM171 n h0 h1 w htab
def Tryz.lays287_ren : Go.Shelf.Ren := ⟨fun | 287 => 85 | 321 => 110 | 322 => 111 | n => n, fun | 9 => 9 | 3 => 3 | 53 => 92 | 75 => 103 | 4 => 4 | 167 => 158 | 5 => 5 | 46 => 99 | 37 => 100 | 0 => 0 | 21 => 21 | 80 => 61 | n => n, fun | n => n⟩
theorem Tryz.lays287 : Go.Proofs.Lays.n287 Tryz.prog Tryz.lays287_ren := {
 mixed := by kernel_rfl
 f287 := Tryz.func85.trans (congrArg some (by kernel_rfl))
 f321 := Tryz.func110.trans (congrArg some (by kernel_rfl))
 f322 := Tryz.func111.trans (congrArg some (by kernel_rfl))
 t0 := Tryz.underlying0
 a0 := Tryz.isAgg0
 z0 := Tryz.sizeOf0
 v0 := Tryz.zeroValue0
 t3 := Tryz.underlying3
 a3 := Tryz.isAgg3
 z3 := Tryz.sizeOf3
 v3 := Tryz.zeroValue3
 t4 := Tryz.underlying4
 a4 := Tryz.isAgg4
 z4 := Tryz.sizeOf4
 v4 := Tryz.zeroValue4
 t5 := Tryz.underlying5
 a5 := Tryz.isAgg5
 z5 := Tryz.sizeOf5
 v5 := Tryz.zeroValue5
 t9 := Tryz.underlying9
 a9 := Tryz.isAgg9
 z9 := Tryz.sizeOf9
 v9 := Tryz.zeroValue9
 t21 := Tryz.underlying21
 a21 := Tryz.isAgg21
 z21 := Tryz.sizeOf21
 v21 := Tryz.zeroValue21
 t37 := Tryz.underlying100
 a37 := Tryz.isAgg100
 z37 := Tryz.sizeOf100
 v37 := Tryz.zeroValue100
 t46 := Tryz.underlying99
 a46 := Tryz.isAgg99
 z46 := Tryz.sizeOf99
 v46 := Tryz.zeroValue99
 t53 := Tryz.underlying92
 a53 := Tryz.isAgg92
 z53 := Tryz.sizeOf92
 v53 := Tryz.zeroValue92
 t75 := Tryz.underlying103
 a75 := Tryz.isAgg103
 z75 := Tryz.sizeOf103
 v75 := Tryz.zeroValue103
 t167 := Tryz.underlying158
 a167 := Tryz.isAgg158
 z167 := Tryz.sizeOf158
 v167 := Tryz.zeroValue158 }
open Go.RowKit in
theorem Tryz.internal_strconv_ParseUint_10_b32 (t : ByteArray) (hne : t.size ≠ 0) (hmax : t.size ≤ 9223372036854775806) (w : World) :
  Calls Tryz.prog 85 #[.string t, .int .i64 10, .int .i64 32] w fun e w' => e = .returned (Lib.uintTupleM 158 4294967295 (Lib.parseUintM 4294967295 0 t.data.toList)) ∧ w' = Lib.bytesWorld w 5 t := Any.internal_strconv_ParseUint_10_b32 Tryz.lays287 t hne hmax w
end Go.Proofs

namespace Go.Ab
open Go.RowKit
theorem post_nrm {C : Ctx} {fn : Func} {res : AV} {σ : St} (h : ∃ vs, ResOk C σ fn.results.toList vs ∧ closedL vs = true ∧ res = packR vs) : postF C fn res .normal σ := h
theorem row_ns {e sz : Nat} {k : IntKind} {a b : List Nat} (h : b = a) : some (AO.row e sz (ns k b)) = some (AO.row e sz (ns k a)) := by rw [h]
theorem ns_congr {k : IntKind} {a b : List Nat} (h : a = b) : AV.sl 1 (ns k a) = AV.sl 1 (ns k b) := by rw [h]
theorem bp_congr {p q : Prop} [Decidable p] [Decidable q] (h : p ↔ q) : bp p = bp q := by unfold bp; rw [dec_eq h]
theorem bl_bp {b : Bool} {q : Prop} [Decidable q] (h : b = true ↔ q) : AV.lit (.bool b) = bp q := by
 unfold bp; congr 2; cases b <;> simp_all
theorem awp_seqJ {C : Ctx} {n : Nat} {Q : Exit → St → Prop} {σ : St} {x y : Code} (J : St → Prop) (h1 : awp C n x (thenK (fun σ2 => ∃ σ3, J σ3 ∧ Wk C n σ2 σ3) Q) σ) (h2 : ∀ σ3, J σ3 → awp C n y Q σ3) : awp C n (.seq x y) Q σ := by
 refine awp_seq fun K hK => ?_
 refine awp_mono h1 fun e σ2 hq => ?_
 cases e with
 | normal =>
  obtain ⟨σ3, hj, hw⟩ := hq
  exact hK _ (awp_wk hw (h2 σ3 hj))
 | _ => exact hq
open Go.Mth
def intK (k : IntKind) (z : Int) : AV := .agg [bp (z < 0), .sl 1 (ns k (digs z.natAbs))]
def intR (z : Int) : AV := intK .i64 z
def intW (z : Int) : AV := intK .u32 z
abbrev oZ (t : TypeId) (k : IntKind) (z : Int) : AO := .var t [bp (z < 0), .sl 1 (ns k (digs z.natAbs))]
abbrev oM (t : TypeId) (m : MapM) : AO := .var t [.lit (.int .i64 m.mod), .sl 1 (is .i64 m.mul), .sl 1 (is .i64 m.add)]
theorem sg_abs (neg : Bool) (n : Nat) : (sg neg n).natAbs = n := by cases neg <;> simp [sg]
theorem sg_neg (neg : Bool) (n : Nat) : sg neg n < 0 ↔ neg = true ∧ 0 < n := by cases neg <;> simp [sg]
theorem intK_eq {k : IntKind} {b : AV} {l : List Nat} {z : Int} (hb : b = bp (z < 0)) (hl : l = digs z.natAbs) : AV.agg [b, .sl 1 (ns k l)] = intK k z := by subst hb; subst hl; rfl
theorem trim_fin {k : IntKind} {neg : Bool} {xs : List Nat} {n : Nat} (hx : Dig xs) (hn : n ≤ xs.length) (hv : val (xs.take n) = val xs) (h : n = 0 ∨ xs.getD (n - 1) 0 ≠ 0) :
  AV.agg [AV.lit (.bool (neg && decide (0 < n))), .sl 1 (ns k ((xs.drop 0).take (n - 0)))] = intK k (sg neg (val xs)) := by
 have e := trim_digs hx hn hv h
 have hlen : n = (digs (val xs)).length := by rw [← e]; simp; omega
 refine intK_eq (bl_bp ?_) (by rw [sg_abs, List.drop_zero, Nat.sub_zero]; exact e)
 rw [sg_neg]
 have h0 : n = 0 ↔ val xs = 0 := by rw [hlen]; exact digs_len_zero
 simp only [Bool.and_eq_true, decide_eq_true_eq]
 constructor
 ·rintro ⟨h1, h2⟩; exact ⟨h1, by omega⟩
 ·rintro ⟨h1, h2⟩; exact ⟨h1, by omega⟩
theorem minus_fin1 {k : IntKind} {z : Int} (h : ¬ z < 0) : AV.agg [bp (0 < (digs z.natAbs).length), .sl 1 (ns k (digs z.natAbs))] = intK k (-z) :=
 intK_eq (bp_congr (by have := digs_len_zero (n := z.natAbs); omega)) (by rw [Int.natAbs_neg])
theorem minus_fin2 {k : IntKind} {z : Int} (h : ¬ ¬ z < 0) : AV.agg [AV.lit (.bool false), .sl 1 (ns k (digs z.natAbs))] = intK k (-z) :=
 intK_eq (bl_bp (b := false) (by constructor <;> intro h' <;> first | cases h' | (exfalso; omega))) (by rw [Int.natAbs_neg])
theorem sg_add {x y : Int} (h : decide (x < 0) = decide (y < 0)) : x + y = sg (decide (x < 0)) (x.natAbs + y.natAbs) := by
 have h' : x < 0 ↔ y < 0 := by simpa using h
 unfold sg; split <;> rename_i h2 <;> simp at h2 <;> omega
theorem sg_sub1 {x y : Int} (h : ¬ decide (x < 0) = decide (y < 0)) (hc : y.natAbs ≤ x.natAbs) : x + y = sg (decide (x < 0)) (x.natAbs - y.natAbs) := by
 have h' : ¬ (x < 0 ↔ y < 0) := by simpa using h
 unfold sg; split <;> rename_i h2 <;> simp at h2 <;> omega
theorem sg_sub2 {x y : Int} (h : ¬ decide (x < 0) = decide (y < 0)) (hc : x.natAbs ≤ y.natAbs) : x + y = sg (decide (y < 0)) (y.natAbs - x.natAbs) := by
 have h' : ¬ (x < 0 ↔ y < 0) := by simpa using h
 unfold sg; split <;> rename_i h2 <;> simp at h2 <;> omega
theorem sg_mul (x y : Int) : x * y = sg (decide (decide (x < 0) ≠ decide (y < 0))) (x.natAbs * y.natAbs) := by
 unfold sg
 rw [Int.natCast_mul]
 by_cases hx : x < 0 <;> by_cases hy : y < 0 <;> simp [hx, hy]
 ·rw [show (x.natAbs : Int) = -x by omega, show (y.natAbs : Int) = -y by omega, Int.neg_mul_neg]
 ·rw [show (x.natAbs : Int) = -x by omega, show (y.natAbs : Int) = y by omega, Int.neg_mul, Int.neg_neg]
 ·rw [show (x.natAbs : Int) = x by omega, show (y.natAbs : Int) = -y by omega, Int.mul_neg, Int.neg_neg]
 ·rw [show (x.natAbs : Int) = x by omega, show (y.natAbs : Int) = y by omega]
theorem tup_eq2 {a b c d : AV} (h : a = b) (h2 : c = d) : AV.tup [a, c] = AV.tup [b, d] := by rw [h, h2]
theorem fdiv {z d Q R : Int} (hd : 0 < d) (h : R + d * Q = z) (h0 : 0 ≤ R) (h1 : R < d) : z / d = Q ∧ z % d = R := (Int.ediv_emod_unique hd).2 ⟨h, h0, h1⟩
theorem part1 {z : Int} {d q r : Nat} (hz : ¬ z < 0) (hd : 0 < d) (hq : q = z.natAbs / d) (hr : r = z.natAbs % d) : z / (d : Int) = sg false q ∧ z % (d : Int) = (r : Int) := by
 have h := Nat.div_add_mod z.natAbs d
 rw [← hq, ← hr] at h
 have h1 := Nat.mod_lt z.natAbs hd
 refine fdiv (by omega) ?_ (by omega) (by omega)
 have : ((d * q + r : Nat) : Int) = z := by omega
 simp only [sg, Bool.false_eq_true, if_false]
 rw [← this]; simp; omega
theorem part2 {z : Int} {d q r : Nat} (hz : z < 0) (hd : 0 < d) (hq : q = z.natAbs / d) (hr : r = z.natAbs % d) (h0 : r = 0) : z / (d : Int) = -(q : Int) ∧ z % (d : Int) = 0 := by
 have h := Nat.div_add_mod z.natAbs d
 rw [← hq, ← hr] at h
 refine fdiv (by omega) ?_ (by omega) (by omega)
 have : ((d * q + r : Nat) : Int) = -z := by omega
 rw [h0] at this
 rw [Int.mul_neg]; simp at this; omega
theorem part3 {z : Int} {d q r : Nat} (hz : z < 0) (hd : 0 < d) (hq : q = z.natAbs / d) (hr : r = z.natAbs % d) (h0 : r ≠ 0) : z / (d : Int) = -(q : Int) - 1 ∧ z % (d : Int) = (d : Int) - r := by
 have h := Nat.div_add_mod z.natAbs d
 have h1 := Nat.mod_lt z.natAbs hd
 rw [← hq, ← hr] at h
 refine fdiv (by omega) ?_ (by omega) (by omega)
 have : ((d * q + r : Nat) : Int) = -z := by omega
 rw [Int.mul_sub, Int.mul_neg]; simp at this; omega
theorem len_div {z : Int} {d q : Nat} (hq : q = z.natAbs / d) (hz : (digs z.natAbs).length ≤ 1000000000) (neg : Bool) : (digs (sg neg q).natAbs).length ≤ 1000000000 := by
 rw [sg_abs, hq]
 have := digs_len_le (Nat.div_le_self z.natAbs d)
 omega
theorem len_one : (digs (1 : Int).natAbs).length ≤ 1000000000 := by have := digs_len_small (n := (1 : Int).natAbs) (by decide); omega
theorem bl_eq {a b : Bool} (h : a = b) : AV.lit (.bool a) = AV.lit (.bool b) := by rw [h]
def rcells (zs : List Int) : List AV := zs.flatMap fun z => [bp (z < 0), .sl 1 (ns .i64 (digs z.natAbs))]
end Go.Ab
namespace Go.Proofs.YtaeknciienkijaaGreatDoor
open Go Go.Ab
theorem mixedT : Tryz.prog.follows .mixedOrders = true := by kernel_rfl
def TabG (H : Heap) : Prop := ∃ t fr, H 2 = some (.cells (Lib.pow10Tab.map fun z => Value.int .u64 z).toArray t fr)
noncomputable def cx : Ctx := ⟨Tryz.prog, TabG, fun H H' hle ⟨t, fr, h⟩ => ⟨t, fr, hle _ _ h⟩, mixedT, []⟩
theorem tabIs {H : Heap} {w : World} (hG : TabG H) (hH : ∀ b o, H b = some o → w.heap[b]? = some o) : Lib.TabIs Tryz.prog w "internal/strconv.uint64pow10" .u64 Lib.pow10Tab := by
 obtain ⟨t, fr, h⟩ := hG
 have e : Tryz.prog.globalNamed "internal/strconv.uint64pow10" = some 2 := by kernel_rfl
 unfold Lib.TabIs World.var?
 rw [e, Option.bind_some, hH _ _ h]
end Go.Proofs.YtaeknciienkijaaGreatDoor

namespace Go.Ab
open Go.RowKit

def postW (C : Ctx) (fn : Func) (f2 : FuncId) (t1 : TypeId) (cs1 : List AV) (t2 : TypeId) (cs2 : List AV) : Exit → St → Prop
 | .ret, σ => ∃ t id1 id2, fn.results = #[.tmp t] ∧ id1 ≠ id2 ∧ look σ.slots t = .clo f2 [.ref id1 0, .ref id2 0] ∧ lookO σ.objs id1 = some (.var t1 cs1) ∧ lookO σ.objs id2 = some (.var t2 cs2)
 | _, _ => False
theorem entry_rep {C : Ctx} {n : Nat} {w0 : World} {H : Heap} {L : Loc} {args : List AV} {vals : List Value} (hn : args.length ≤ n) (hr : RepL H args L vals) :
  (vals.toArray ++ Array.replicate (n - vals.toArray.size) undef).size = n ∧ ∀ i, RepV H (look (ent 0 args) i) L ((vals.toArray ++ Array.replicate (n - vals.toArray.size) undef).getD i undef) := by
 have hlen := hr.length
 refine ⟨by simp; omega, fun i => ?_⟩
 rw [look_ent]
 simp only [Nat.zero_le, if_true, Nat.sub_zero]
 cases hi : args[i]? with
 | none => simp [RepV]
 | some x =>
  obtain ⟨v, hv1, hv2⟩ := hr.get hi
  have hlt : i < vals.length := (List.getElem?_eq_some_iff.1 hv1).1
  simp only [Option.getD_some, Array.getD_eq_getD_getElem?]
  rw [Array.getElem?_append_left (by simpa using hlt)]
  simpa [hv1] using hv2
theorem entry_Rep {C : Ctx} (hmk : C.marks = []) {n : Nat} {H : Heap} {L : Loc} {w : World} {args : List AV} {vals : List Value} (hG : C.G H) (hH : ∀ b o, H b = some o → w.heap[b]? = some o) (hn : args.length ≤ n) (hr : RepL H args L vals) :
  Rep C n w H L (entry args).sem { tmps := vals.toArray ++ Array.replicate (n - vals.toArray.size) undef, defers := [] } w := by
 obtain ⟨h1, h2⟩ := entry_rep (C := C) (w0 := w) hn hr
 exact ⟨hG, hH, h1, h2, fun id o ho => by simp [entry, St.sem, lookO] at ho, fun id id' o o' g x x' _ ho => by simp [entry, St.sem, lookO] at ho, Bel.refl _ _, hmk.symm⟩
theorem ecallsW_of_awp {C : Ctx} {f : FuncId} {fn : Func} {c : Code} {args : List AV} {f2 : FuncId} {t1 t2 : TypeId} {cs1 cs2 : List AV} (hf : C.P.funcs[f]? = some fn) (hb : fn.body = some c) (hn : args.length ≤ fn.ntmps) (hc1 : closedL cs1 = true) (hc2 : closedL cs2 = true)
  (h : awp C fn.ntmps c (postW C fn f2 t1 cs1 t2 cs2) (entry args)) (hmk : C.marks = [] := by rfl) : ECallsW C f args f2 t1 cs1 t2 cs2 := by
 intro H L vals w hG hH hr
 refine calls_of_wp hf hb ((wpIn_wide (n := 0)).1 ?_)
 have hrep := entry_Rep hmk hG hH hn hr
 refine wpIn_mono (h w H L _ w hrep none) fun e a' w' hp => ?_
 obtain ⟨σ', H', L', hx, hr', hq⟩ := hp
 cases e with
 | ret =>
  obtain ⟨t, id1, id2, hres, hne, hs, ho1, ho2⟩ := hq
  have hsl := hr'.slot t
  rw [show σ'.sem.ρ t = look σ'.slots t from rfl, hs] at hsl
  simp only [RepV, RepL] at hsl
  obtain ⟨vs, hv, v1, r1, rfl, ⟨x1, g1, hl1, hg1, rfl⟩, v2, r2, rfl, ⟨x2, g2, hl2, hg2, rfl⟩, rfl⟩ := hsl
  obtain ⟨g1', vs1, hl1', hh1, hr1, hone1, hB1, hn1⟩ := hr'.objs id1 _ ho1
  obtain ⟨g2', vs2, hl2', hh2, hr2, hone2, hB2, hn2⟩ := hr'.objs id2 _ ho2
  rw [hl1] at hl1'
  rw [hl2] at hl2'
  cases hl1'
  cases hl2'
  have hg := hr'.apart id1 id2 _ _ g1' _ _ hne ho1 ho2 hl1 hl2 rfl
  simp [ownB] at hg1 hg2 hg
  subst hg1
  subst hg2
  refine ⟨hr'.defers.trans hmk, _, ?_, H', g1', g2', vs1, vs2, rfl, hx, hr'.heap, hr'.below, fun e => hg e.symm, hB1, hB2, hn1, hn2, hh1, hh2, RepL.closed hc1 hr1, RepL.closed hc2 hr2, hone1, hone2⟩
  have hm : (fn.results.mapM (resOne a'.tmps)).run C.P w' = .ok #[a'.tmps.getD t undef] w' := by
   rw [hres, Array.mapM_eq_mapM_toList]
   simp [resOne]
  show (do let vs ← fn.results.mapM (resOne a'.tmps); pure (if h : vs.size = 1 then vs[0] else .tuple vs) : Sem Value).run C.P w' = _
  simp only [Sem.run_bind, hm, Result.andThen_ok, Sem.run_pure]
  rw [dif_pos (by rfl)]
  simp [hv]
 | _ => exact hq.elim

/-! ### Ghosts, and frames over the same memory -/
section
variable {C : Ctx} {n : Nat} {w0 : World} {H : Heap} {L : Loc} {S : SS} {a : Act} {w : World}
theorem Rep.pinned (h : Rep C n w0 H L S a w) {id : Nat} (hf : S.Fresh id) {cs : List AV} {us : List Value} (hr : RepL H cs L us) (hn : hasL id cs = false) :
  Rep C n w0 H (L.set id (some (.tuple #[]))) { ρ := S.ρ, μ := fun i => if i = id then some (.pin cs us) else S.μ i } a w :=
 h.new hf (Bel.refl _ _) (fun g hg => by simp [ownB] at hg) ⟨by simp [Loc.set], RepL.setL hn hr⟩ h.heap
theorem Rep.frame (h : Rep C n w0 H L S a w) (mk : List Deferred) {n' : Nat} {a' : Act} (hs : a'.tmps.size = n') (hd : a'.defers = mk) {ρ : Nat → AV} (hρ : ∀ i, RepV H (ρ i) L (a'.tmps.getD i undef)) : Rep { C with marks := mk } n' w0 H L ⟨ρ, S.μ⟩ a' w :=
 ⟨h.glob, h.heap, hs, hρ, h.objs, h.apart, h.below, hd⟩
end
def valsOf : List (Nat × AV) → List AV
 | [] => []
 | (_, v) :: r => v :: valsOf r
theorem valsOf_has {id : Nat} : ∀ {so : List (Nat × AV)}, so.all (fun p => !p.2.has id) = true → hasL id (valsOf so) = false
 | [], _ => rfl
 | (i, v) :: r, h => by
  simp only [List.all_cons, Bool.and_eq_true, Bool.not_eq_true'] at h
  simp only [valsOf, hasL, h.1, valsOf_has h.2, Bool.or_self]
theorem slots_rep {H : Heap} {L : Loc} {t : Nat → Value} : ∀ {so : List (Nat × AV)}, (∀ p ∈ so, RepV H p.2 L (t p.1)) → RepL H (valsOf so) L (so.map fun p => t p.1)
 | [], _ => by simp [valsOf, RepL]
 | (i, v) :: r, h => by
  simp only [valsOf, List.map_cons, RepL]
  exact ⟨_, _, rfl, h (i, v) (by simp), slots_rep fun p hp => h p (by simp [hp])⟩
theorem slots_of {H : Heap} {L : Loc} {t : Nat → Value} : ∀ {so : List (Nat × AV)}, RepL H (valsOf so) L (so.map fun p => t p.1) → ∀ i, RepV H (look so i) L (t i)
 | [], _, i => by simp [look, RepV]
 | (j, v) :: r, h, i => by
  simp only [valsOf, List.map_cons, RepL] at h
  obtain ⟨x, y, e, h1, h2⟩ := h
  cases e
  simp only [look]
  cases hb : Nat.beq j i with
  | true => have := Nat.eq_of_beq_eq_true hb; subst this; exact h1
  | false => exact slots_of h2 i
def pinA (so : List (Nat × AV)) (tmps : Array Value) : AO := .pin (valsOf so) (so.map fun p => tmps.getD p.1 undef)
def parS : List Nat → List AV → List (Nat × AV) → List (Nat × AV)
 | p :: ps, v :: vs, s => parS ps vs ((p, v) :: s)
 | _, _, s => s
theorem par_rep {H : Heap} {L : Loc} : ∀ (ps : List Nat) (asx : List AV) (vals : List Value) (s : List (Nat × AV)) (tmps : Array Value), RepL H asx L vals → (∀ p ∈ ps, p < tmps.size) → asx.length = ps.length → (∀ i, RepV H (look s i) L (tmps.getD i undef)) →
  ∀ i, RepV H (look (parS ps asx s) i) L (((ps.zip vals).foldl (fun (t : Array Value) (p : Nat × Value) => t.setIfInBounds p.1 p.2) tmps).getD i undef)
 | [], [], vals, s, tmps, hr, hp, hl, hs => by simpa [parS] using hs
 | p :: ps, [], vals, s, tmps, hr, hp, hl, hs => by simp at hl
 | [], a :: asx, vals, s, tmps, hr, hp, hl, hs => by simp at hl
 | p :: ps, a :: asx, vals, s, tmps, hr, hp, hl, hs => by
  simp only [RepL] at hr
  obtain ⟨v, r, rfl, h1, h2⟩ := hr
  simp only [parS, List.zip_cons_cons, List.foldl_cons]
  refine par_rep ps asx r _ _ h2 (fun q hq => by simpa using hp q (by simp [hq])) (by simpa using hl) fun i => ?_
  have hlt := hp p (by simp)
  simp only [look]
  cases hb : Nat.beq p i with
  | true => have := Nat.eq_of_beq_eq_true hb; subst this; simpa [Array.getD_eq_getD_getElem?, hlt] using h1
  | false =>
   have := Nat.ne_of_beq_eq_false hb
   have h3 := hs i
   simpa [Array.getD_eq_getD_getElem?, Array.getElem?_setIfInBounds_ne this] using h3
theorem foldl_size : ∀ (l : List (Nat × Value)) (tmps : Array Value), (l.foldl (fun (t : Array Value) (p : Nat × Value) => t.setIfInBounds p.1 p.2) tmps).size = tmps.size
 | [], _ => rfl
 | p :: l, tmps => by simp [foldl_size l]

/-! ### One round -/
def lrec (fn : FuncId) (tmps : Array Value) (ps : Array Tmp) (assign body : Code) (D : Nat) (st : LoopState) (pe : Option Code) : Loop := { state := st, pending := pe, fn := fn, tmps := tmps, params := ps, assign := assign, body := body, defers := D }
def YldAt (C : Ctx) (nI : Nat) (l : Nat) (asx : List AV) (σ : St) (K : Bool → St → Prop) : Prop :=
 ∀ (w0 : World) (H : Heap) (L : Loc) (a : Act) (w : World) (vals : List Value), Rep C nI w0 H L σ.sem a w → RepL H asx L vals →
  ∃ fn tmps assign body, (Instr.yield l vals.toArray).run C.P w = .ok (.round l fn tmps assign body) w ∧
   RoundIn (fen none) 0 C.P l fn tmps assign body w fun e w' => ∃ b σ' H' L', e = .returned (.bool b) ∧ Ext w0.heap.size H H' ∧ Rep C nI w0 H' L' (St.sem σ') a w' ∧ K b σ'
theorem YldAt.wk {C : Ctx} {nI l : Nat} {asx : List AV} {σ σ1 : St} {K : Bool → St → Prop} (hw : Wk C nI σ σ1) (hc : closedL asx = true) (h : YldAt C nI l asx σ1 K) : YldAt C nI l asx σ K := fun w0 H L a w vals hr hv => by
 obtain ⟨H1, L1, hx, hr1⟩ := hw w0 H L a w hr
 obtain ⟨fn, tmps, assign, body, h1, h2⟩ := h w0 H1 L1 a w vals hr1 (RepL.closed hc (RepL.mono hx.1 (Loc.le_refl _) hv))
 exact ⟨fn, tmps, assign, body, h1, h2.mono fun e w' ⟨b, σ', H', L', a1, a2, a3, a4⟩ => ⟨b, σ', H', L', a1, hx.trans a2, a3, a4⟩⟩
theorem YldAt.mono {C : Ctx} {nI l : Nat} {asx : List AV} {σ : St} {K K' : Bool → St → Prop} (h : YldAt C nI l asx σ K) (hk : ∀ b σ, K b σ → K' b σ) : YldAt C nI l asx σ K' := fun w0 H L a w vals hr hv => by
 obtain ⟨fn, tmps, assign, body, h1, h2⟩ := h w0 H L a w vals hr hv
 exact ⟨fn, tmps, assign, body, h1, h2.mono fun e w' ⟨b, σ', H', L', a1, a2, a3, a4⟩ => ⟨b, σ', H', L', a1, a2, a3, hk _ _ a4⟩⟩

def awpRound (C : Ctx) (n : Nat) (assign body : Code) (o o' : Obj) (pl : AO) (Q : Exit → St → Prop) (σ : St) : Prop :=
 awp C n assign (thenK (fun σ1 => ∃ s1 m1, Wk C n σ1 ⟨s1, (9001, .blk o) :: m1⟩ ∧ lookO m1 9004 = some pl ∧ awp C n body Q ⟨s1, (9001, .blk o') :: m1⟩) (fun _ _ => False)) σ
def pinL (l : Nat) (D : Nat) : AO := .pin [.ref 9001 0, .ref 9002 0] [.pointer (some ⟨l, 0, none⟩), .pointer (some ⟨D, 0, none⟩)]
def roundQ (C : Ctx) (n : Nat) (o' : Obj) (pI : AO) (l D : Nat) (KN : List (Nat × AO) → Prop) (KX : Code → List (Nat × AO) → Prop) : Exit → St → Prop
 | .normal, σ => ∃ m', Wk C n σ ⟨[], (9005, pI) :: (9001, .blk o') :: m'⟩ ∧ lookO m' 9004 = some (pinL l D) ∧ lookO m' 9005 = none ∧ KN m'
 | .ret, σ => ∃ m', Wk C n σ ⟨[], (9005, pI) :: (9001, .blk o') :: m'⟩ ∧ lookO m' 9004 = some (pinL l D) ∧ lookO m' 9005 = none ∧ KX .ret m'
 | .exit id, σ => ∃ m', Wk C n σ ⟨[], (9005, pI) :: (9001, .blk o') :: m'⟩ ∧ lookO m' 9004 = some (pinL l D) ∧ lookO m' 9005 = none ∧ KX (.exit id) m'
 | _, _ => False

theorem mu_sem (s : List (Nat × AV)) (m : List (Nat × AO)) (i : Nat) : (St.sem ⟨s, m⟩).μ i = lookO m i := rfl
theorem pinL_loc {C : Ctx} {n : Nat} {w0 : World} {H : Heap} {L : Loc} {S : SS} {a : Act} {w : World} (hr : Rep C n w0 H L S a w) {l D : Nat} (h : S.μ 9004 = some (pinL l D)) {o : Obj} (ho : S.μ 9001 = some (.blk o)) :
  L 9001 = some (.pointer (some ⟨l, 0, none⟩)) ∧ w.heap[l]? = some o ∧ w0.heap.size ≤ l ∧ H l = none := by
 obtain ⟨_, hp⟩ := hr.objs 9004 _ h
 simp only [RepL] at hp
 obtain ⟨v, r, e, hv, _⟩ := hp
 cases e
 simp only [RepV] at hv
 obtain ⟨x, g, h1, h2, h3⟩ := hv
 obtain ⟨g', k1, k2, k3, k4⟩ := hr.objs 9001 _ ho
 rw [h1] at k1
 cases k1
 simp [ownB] at h2 h3
 subst h2
 subst h3
 exact ⟨h1, k2, k3, k4⟩
theorem lookO_hd (i : Nat) (o : AO) (m : List (Nat × AO)) : lookO ((i, o) :: m) i = some o := by simp [lookO]

theorem Rep.putRec {C : Ctx} {n : Nat} {w0 : World} {H : Heap} {L : Loc} {s : List (Nat × AV)} {m : List (Nat × AO)} {a : Act} {w : World} {o : Obj} {l D : Nat} (hr : Rep C n w0 H L (St.sem ⟨s, m⟩) a w) (h1 : lookO m 9001 = some (.blk o)) (h4 : lookO m 9004 = some (pinL l D)) (o' : Obj) (m' : List (Nat × AO))
  (hm : ∀ i, lookO m' i = if i = 9001 then some (.blk o') else lookO m i) : Rep C n w0 H L (St.sem ⟨s, m'⟩) a (w.putObj l o') := by
 obtain ⟨hl, hh, hB, hH⟩ := pinL_loc hr h4 h1
 have hlt := (Array.getElem?_eq_some_iff.1 hh).1
 have hw := hr.wrote (ob' := .blk o') h1 hl rfl (w' := w.putObj l o') (fun k hk => World.putObj_heap_other hk) ⟨rfl, rfl, rfl, by simp, fun k hk => World.putObj_heap_other (by omega), Nat.le_refl _⟩ ⟨l, hl, World.putObj_heap_same hlt, hB, hH⟩
 have e : (St.sem ⟨s, m'⟩) = { ρ := (St.sem ⟨s, m⟩).ρ, μ := fun i => if i = 9001 then some (.blk o') else (St.sem ⟨s, m⟩).μ i } := by
  unfold St.sem
  congr 1
  funext i
  exact hm i
 rw [e]
 exact hw

theorem nod_look : ∀ {so : List (Nat × AV)}, nodB (so.map (·.1)) = true → ∀ p ∈ so, look so p.1 = p.2
 | [], _, p, hp => by cases hp
 | (i, v) :: r, h, p, hp => by
  simp only [List.map_cons, nodB, Bool.and_eq_true] at h
  simp only [look]
  rcases List.mem_cons.1 hp with e | e
  ·subst e; simp
  ·have h1 := List.all_eq_true.1 h.1 p.1 (List.mem_map_of_mem e)
   simp only [Bool.not_eq_true'] at h1
   rw [h1]
   exact nod_look h.2 p e
theorem marks_nil {C : Ctx} (h : C.marks = []) : { C with marks := [] } = C := by cases C; simp at h; subst h; rfl
theorem Rep.frameS {C : Ctx} {n n' : Nat} {w0 : World} {H : Heap} {L : Loc} {S : SS} {a a' : Act} {w : World} (h : Rep C n w0 H L S a w) (mk : List Deferred) (hs : a'.tmps.size = n') (hd : a'.defers = mk) {s : List (Nat × AV)} (hρ : ∀ i, RepV H (look s i) L (a'.tmps.getD i undef))
  {m : List (Nat × AO)} (hm : ∀ i o, lookO m i = some o → S.μ i = some o) : Rep { C with marks := mk } n' w0 H L (St.sem ⟨s, m⟩) a' w := (h.frame mk hs hd hρ).fewer hm

theorem yldAt_of_round {C : Ctx} (hmk : C.marks = []) {nI n : Nat} {l D D' : Nat} {asx : List AV} {sI so : List (Nat × AV)} {m : List (Nat × AO)} {fn : FuncId} {tmps : Array Value} {ps : Array Tmp} {assign body : Code} {KN : List (Nat × AO) → Prop} {KX : Code → List (Nat × AO) → Prop}
  (hn : tmps.size = n) (hps : ∀ p ∈ ps.toList, p < n) (hl : asx.length = ps.toList.length) (hcl : closedL asx = true) (hnd : nodB (sI.map (·.1)) = true) (h3 : lookO m 9003 = some (pinA so tmps)) (h4 : lookO m 9004 = some (pinL l D')) (hfr : St.freshB ⟨sI, (9001, .blk (.loop (lrec fn tmps ps assign body D .ready none))) :: m⟩ 9005 = true)
  (hbody : ∀ us : List Value, awpRound C n assign body (.loop (lrec fn tmps ps assign body D .ready none)) (.loop (lrec fn tmps ps assign body D .busy none)) (pinL l D') (roundQ C n (.loop (lrec fn tmps ps assign body D .busy none)) (.pin (valsOf sI) us) l D' KN KX)
   ⟨parS ps.toList asx so, (9005, .pin (valsOf sI) us) :: (9001, .blk (.loop (lrec fn tmps ps assign body D .ready none))) :: m⟩) :
  YldAt C nI l asx ⟨sI, (9001, .blk (.loop (lrec fn tmps ps assign body D .ready none))) :: m⟩ fun b σ' =>
   (b = true ∧ ∃ m', σ' = ⟨sI, (9001, .blk (.loop (lrec fn tmps ps assign body D .ready none))) :: m'⟩ ∧ KN m') ∨ (b = false ∧ ∃ c m', σ' = ⟨sI, (9001, .blk (.loop (lrec fn tmps ps assign body D .done (some c)))) :: m'⟩ ∧ KX c m') := by
 intro w0 H L a w vals hr hv
 have hlv := hv.length
 have hfs := fresh_sem hfr
 have hall : sI.all (fun p => !p.2.has 9005) = true := by
  simp only [St.freshB, Bool.and_eq_true] at hfr
  exact hfr.1
 obtain ⟨hl1, hh, hB, hH⟩ := pinL_loc hr (l := l) (D := D') (by rw [mu_sem]; exact h4) (o := .loop (lrec fn tmps ps assign body D .ready none)) (by rw [mu_sem]; exact lookO_hd _ _ _)
 refine ⟨fn, _, assign, body, run_yield hh (by show vals.toArray.size = ps.size; simp; rw [hlv, hl]; simp), ?_⟩
 have hpin := hr.pinned (id := 9005) hfs (cs := valsOf sI) (us := sI.map fun p => a.tmps.getD p.1 undef) (slots_rep (t := fun i => a.tmps.getD i undef) fun p hp => by
  have := hr.slot p.1
  rw [show (St.sem ⟨sI, _⟩).ρ p.1 = look sI p.1 from rfl, nod_look hnd p hp] at this
  exact this) (valsOf_has hall)
 have hμ3 : (St.sem ⟨sI, (9001, .blk (.loop (lrec fn tmps ps assign body D .ready none))) :: m⟩).μ 9003 = some (pinA so tmps) := by
  rw [mu_sem]
  exact h3
 have hso := (hpin.objs 9003 (pinA so tmps) (by simpa using hμ3)).2
 have hpar := par_rep ps.toList asx vals so tmps (RepL.closed (L' := L.set 9005 (some (.tuple #[]))) hcl hv) (fun p hp => by rw [hn]; exact hps p hp) hl (slots_of (t := fun i => tmps.getD i undef) hso)
 have hzip : (Array.foldl (fun (t : Array Value) (p : Nat × Value) => t.setIfInBounds p.1 p.2) tmps (ps.zip vals.toArray)) = (ps.toList.zip vals).foldl (fun (t : Array Value) (p : Nat × Value) => t.setIfInBounds p.1 p.2) tmps := by
  rw [← Array.foldl_toList, Array.toList_zip]
 have hrd := hpin.frameS (n' := n) (a' := { tmps := (ps.toList.zip vals).foldl (fun (t : Array Value) (p : Nat × Value) => t.setIfInBounds p.1 p.2) tmps, defers := [] }) [] (by rw [foldl_size]; exact hn) rfl hpar
  (m := (9005, .pin (valsOf sI) (sI.map fun p => a.tmps.getD p.1 undef)) :: (9001, .blk (.loop (lrec fn tmps ps assign body D .ready none))) :: m) (fun i o hi => by
   show (if i = 9005 then _ else (St.sem ⟨sI, _⟩).μ i) = _
   rw [mu_sem]
   rw [lookO] at hi
   by_cases h5 : i = 9005
   ·subst h5; simpa using hi
   ·rw [beq_ne (fun e => h5 e.symm)] at hi; simpa [h5] using hi)
 rw [marks_nil hmk] at hrd
 refine roundIn_of_wpIn trivial ?_
 show assign.wpIn (fen (some l)) 0 C.P _ { tmps := (Array.foldl (fun (t : Array Value) (p : Nat × Value) => t.setIfInBounds p.1 p.2) tmps (ps.zip vals.toArray)), defers := [] } w
 rw [hzip]
 refine wpIn_mono (hbody _ w0 H _ _ w hrd (some l)) ?_
 rintro e a1 w1 ⟨σ1, H1, L1, hx1, hr1, hq⟩
 cases e with
 | normal =>
  obtain ⟨s1, m1, hwk, h41, hb⟩ := hq
  obtain ⟨H2, L2, hx2, hr2⟩ := hwk w0 H1 L1 a1 w1 hr1
  have h42 : lookO ((9001, AO.blk (.loop (lrec fn tmps ps assign body D .ready none))) :: m1) 9004 = some (pinL l D') := by exact h41
  obtain ⟨hl2, hh2, hB2, hH2⟩ := pinL_loc hr2 (by rw [mu_sem]; exact h42) (o := .loop (lrec fn tmps ps assign body D .ready none)) (by rw [mu_sem]; exact lookO_hd _ _ _)
  refine ⟨_, run_beginRound hh2 rfl, ?_⟩
  have hr3 := hr2.putRec (lookO_hd _ _ _) h42 (.loop (lrec fn tmps ps assign body D .busy none)) ((9001, .blk (.loop (lrec fn tmps ps assign body D .busy none))) :: m1) (fun i => by
   by_cases h : i = 9001
   ·subst h; simp [lookO]
   ·simp [lookO, beq_ne (fun e => h e.symm), h])
  refine wpIn_mono (hb w0 H2 L2 a1 _ hr3 (some l)) ?_
  rintro e a2 w2 ⟨σ2, H3, L3, hx3, hr4, hq⟩
  have fin : ∀ (jump : Option Code) (m' : List (Nat × AO)), Wk C n σ2 ⟨[], (9005, .pin (valsOf sI) (sI.map fun p => a.tmps.getD p.1 undef)) :: (9001, .blk (.loop (lrec fn tmps ps assign body D .busy none))) :: m'⟩ → lookO m' 9004 = some (pinL l D') → lookO m' 9005 = none →
    ∃ w4 H4 L4, (Instr.endRound l jump).run C.P w2 = .ok (.bool jump.isNone) w4 ∧ Ext w0.heap.size H H4 ∧ Rep C nI w0 H4 L4 (St.sem ⟨sI, (9001, .blk (.loop (lrec fn tmps ps assign body D (if jump.isNone then .ready else .done) jump))) :: m'⟩) a w4 := by
   intro jump m' hwk2 h43 h45
   obtain ⟨H4, L4, hx4, hr5⟩ := hwk2 w0 H3 L3 a2 w2 hr4
   have h44 : lookO ((9005, AO.pin (valsOf sI) (sI.map fun p => a.tmps.getD p.1 undef)) :: (9001, .blk (.loop (lrec fn tmps ps assign body D .busy none))) :: m') 9004 = some (pinL l D') := by exact h43
   obtain ⟨hl5, hh5, hB5, hH5⟩ := pinL_loc hr5 (by rw [mu_sem]; exact h44) (o := .loop (lrec fn tmps ps assign body D .busy none)) (by rw [mu_sem]; rfl)
   have hback := (hr5.objs 9005 (.pin (valsOf sI) (sI.map fun p => a.tmps.getD p.1 undef)) (by rw [mu_sem]; exact lookO_hd _ _ _)).2
   have hr6 := hr5.frameS (n' := nI) (a' := a) C.marks hr.size hr.defers (slots_of (t := fun i => a.tmps.getD i undef) hback) (m := (9001, .blk (.loop (lrec fn tmps ps assign body D .busy none))) :: m') (fun i o hi => by
    rw [mu_sem]
    by_cases h5 : i = 9005
    ·subst h5
     have hdup : lookO m' 9005 = some o := hi
     rw [h45] at hdup
     cases hdup
    ·rw [lookO, beq_ne (fun e => h5 e.symm)]; exact hi)
   have hr7 := Rep.putRec (C := C) hr6 (lookO_hd _ _ _) (l := l) (D := D') (by exact h43) (.loop (lrec fn tmps ps assign body D (if jump.isNone then .ready else .done) jump)) ((9001, .blk (.loop (lrec fn tmps ps assign body D (if jump.isNone then .ready else .done) jump))) :: m') (fun i => by
    by_cases h : i = 9001
    ·subst h; simp [lookO]
    ·simp [lookO, beq_ne (fun e => h e.symm), h])
   exact ⟨_, H4, L4, run_endRound jump hh5, (((hx1.trans hx2).trans hx3).trans hx4), hr7⟩
  cases e with
  | normal =>
   obtain ⟨m', hwk2, h43, h45, hK⟩ := hq
   obtain ⟨w4, H4, L4, hrun, hx4, hr7⟩ := fin none m' hwk2 h43 h45
   exact ⟨_, w4, hrun, true, _, H4, L4, rfl, hx4, hr7, .inl ⟨rfl, m', rfl, hK⟩⟩
  | ret =>
   obtain ⟨m', hwk2, h43, h45, hK⟩ := hq
   obtain ⟨w4, H4, L4, hrun, hx4, hr7⟩ := fin (some .ret) m' hwk2 h43 h45
   exact ⟨_, w4, hrun, false, _, H4, L4, rfl, hx4, hr7, .inr ⟨rfl, .ret, m', rfl, hK⟩⟩
  | exit id =>
   obtain ⟨m', hwk2, h43, h45, hK⟩ := hq
   obtain ⟨w4, H4, L4, hrun, hx4, hr7⟩ := fin (some (.exit id)) m' hwk2 h43 h45
   exact ⟨_, w4, hrun, false, _, H4, L4, rfl, hx4, hr7, .inr ⟨rfl, .exit id, m', rfl, hK⟩⟩
  | goto t => exact hq.elim
  | panic c => exact hq.elim
  | outgrown => exact hq.elim
 | exit id => exact hq.elim
 | goto t => exact hq.elim
 | ret => exact hq.elim
 | panic c => exact hq.elim
 | outgrown => exact hq.elim

/-! ### The iterator's region that calls yield -/
theorem lex_prefix {C : Ctx} {n : Nat} {w0 : World} {ops : Array Oper} {Q : Exit → Act → World → Prop} (r : Option Nat) (rest : List Nat) : ∀ (os : List Oper) (i : Nat) (S S' : SS) (es : List Eff) (H : Heap) (L : Loc) (a : Act) (w : World), (ops.toList.drop i).take os.length = os → Trace C ops S os es S' → Rep C n w0 H L S a w → (∀ o ∈ os, ∀ d, o.dst = some d → d < n) →
  (∀ a' w' H' L', Ext w0.heap.size H H' → Rep C n w0 H' L' S' a' w' → wpOpsIn (fen r) 0 C.P ops Q rest a' w') → wpOpsIn (fen r) 0 C.P ops Q (List.range' i os.length ++ rest) a w
 | [], i, S, S', es, H, L, a, w, hos, ht, hr, hd, hQ => by
  cases ht
  simp only [List.length_nil, List.range'_zero, List.nil_append]
  exact hQ a w H L (Ext.refl _ _) hr
 | o :: os, i, S, S', es, H, L, a, w, hos, ht, hr, hd, hQ => by
  cases ht with
  | cons h hf t =>
   simp only [List.length_cons, List.range'_succ, List.cons_append]
   rw [wpOpsIn_cons]
   have hi : ops[i]? = some o := by
    have := congrArg (·[0]?) hos
    simp only [List.length_cons, List.getElem?_take, List.getElem?_drop, Nat.add_zero, List.getElem?_cons_zero, Array.getElem?_toList] at this
    simpa using this
   have hos' : (ops.toList.drop (i + 1)).take os.length = os := by
    have := congrArg (List.drop 1) hos
    simpa [List.drop_take] using this
   refine h.sound hi hr (hd o (by simp)) hf (fun a' w' H' L' hx hr' => ?_) r
   exact lex_prefix r rest os (i + 1) _ S' _ H' L' a' w' hos' t hr' (fun o' ho' => hd o' (by simp [ho'])) fun a2 w2 H2 L2 hx2 hr2 => hQ a2 w2 H2 L2 (hx.trans hx2) hr2

theorem awp_regionY {C : Ctx} {n : Nat} {Q : Exit → St → Prop} {σ : St} {id : Nat} {ops : Array Oper} (os : List Oper) (d : Nat) {y : Operand} {args : Array Operand} {tys : Array TypeId} {t : TypeId} {p : String} {af : Array Edge} (l : Nat) (asx : List AV)
  (hops : ops.toList = os ++ [⟨some d, .call { callee := .value y, args := args, argTypes := tys }, t, p, af, none⟩]) (hd : dstsB n ops.toList = true)
  (h : aops C ops σ os fun _ σ' => σ'.ev y = .lit (.func (.yield l) #[] #[]) ∧ args.toList.map σ'.sem.ev = asx ∧ YldAt C n l asx σ' fun b σ2 => Q .normal ⟨(d, .lit (.bool b)) :: σ2.slots, σ2.objs⟩) :
  awp C n (.region id ops false) Q σ := fun w0 H L a w hr r => by
 obtain ⟨es, σ', ht, hy, has, hY⟩ := h
 have hdst := dsts_spec hd
 refine wpIn_region ?_
 rw [List.range_eq_range']
 have hsz : ops.size = os.length + 1 := by
  have := congrArg List.length hops
  simpa using this
 rw [hsz, List.range'_concat]
 refine lex_prefix (C := C) (n := n) (w0 := w0) r _ os 0 σ.sem σ'.sem es H L a w (by rw [hops]; simp) ht hr (fun o ho => hdst o (by rw [hops]; simp [ho])) fun a' w' H' L' hx hr' => ?_
 simp only [Nat.zero_add, Nat.one_mul]
 rw [wpOpsIn_cons]
 have hi : ops[os.length]? = some ⟨some d, .call { callee := .value y, args := args, argTypes := tys }, t, p, af, none⟩ := by
  rw [← Array.getElem?_toList, hops]
  simp
 unfold wpOpIn
 simp only [hi]
 rw [if_pos (by simp [Region.wanted])]
 have hyv := hr'.ev y
 rw [ev_sem, hy] at hyv
 simp only [RepV] at hyv
 have hargs : ∀ (xs : List Operand), RepL H' (xs.map σ'.sem.ev) L' (xs.map a'.eval) := by
  intro xs
  induction xs with
  | nil => simp only [List.map_nil, RepL]
  | cons x xs ih => simp only [List.map_cons, RepL]; exact ⟨_, _, rfl, hr'.ev x, ih⟩
 have hal := hargs args.toList
 rw [has] at hal
 obtain ⟨fn, tmps, assign, body, hrun, hround⟩ := hY w0 H' L' a' w' _ hr' hal
 have e1 : (List.map a'.eval args.toList).toArray = args.map a'.eval := by apply Array.ext'; rw [Array.toList_map]
 rw [e1] at hrun
 have hex : (execOp a'.eval ⟨some d, .call { callee := .value y, args := args, argTypes := tys }, t, p, af, none⟩).run C.P w' = .ok (.round l fn tmps assign body) w' := by
  unfold execOp
  simp only [resolve, hyv, Deferred.ofValue, invoke, Sem.run_bind, Sem.run_pure, Result.andThen_ok, Array.empty_append, Array.append_empty, hrun]
 refine ⟨fun _ _ => trivial, ?_⟩
 rw [semAt_of hex (fun d hd => by cases hd)]
 refine ⟨fen_depth, RoundIn.mono (F := fen r) hround ?_⟩
 rintro e w2 ⟨b, σ2, H2, L2, rfl, hx2, hr2, hq⟩
 have hdn : d < n := hdst ⟨some d, .call { callee := .value y, args := args, argTypes := tys }, t, p, af, none⟩ (by rw [hops]; simp) d rfl
 have hv := hr2.val (dst := some d) (fun d' hd' => by cases hd'; exact hdn) (x := .lit (.bool b)) (v := .bool b) (by simp [RepV]) [] []
 rw [← sem_app] at hv
 exact ⟨_, H2, L2, hx.trans hx2, hv, hq⟩

/-! ### The outer function -/
def mark (D : Nat) : Deferred := { target := .collected D, args := #[] }
def awpT (C : Ctx) (n : Nat) (mk : List Deferred) (c : Code) (Q : List Deferred → Exit → St → Prop) (σ : St) : Prop :=
 ∀ w0 H L a w, Rep { C with marks := mk } n w0 H L σ.sem a w → c.wpIn (fen none) 0 C.P (fun e a w => ∃ mk', Post { C with marks := mk' } n w0 H (Q mk') e a w) a w
def thenKT (K : List Deferred → St → Prop) (Q : List Deferred → Exit → St → Prop) : List Deferred → Exit → St → Prop
 | mk, .normal, σ => K mk σ
 | mk, e, σ => Q mk e σ
def inBlkT (id : Nat) (Q : List Deferred → Exit → St → Prop) : List Deferred → Exit → St → Prop
 | mk, .exit i, σ => bif Nat.beq i id then Q mk .normal σ else Q mk (.exit i) σ
 | mk, e, σ => Q mk e σ
section
variable {C : Ctx} {n : Nat} {mk : List Deferred} {Q : List Deferred → Exit → St → Prop} {σ : St}
theorem awpT_lift {c : Code} (h : awp { C with marks := mk } n c (Q mk) σ) : awpT C n mk c Q σ := fun w0 H L a w hr => wpIn_mono (h w0 H L a w hr none) fun e a w hp => ⟨mk, hp⟩
theorem awpT_wk {c : Code} {σ' : St} (hw : Wk { C with marks := mk } n σ σ') (h : awpT C n mk c Q σ') : awpT C n mk c Q σ := fun w0 H L a w hr => by
 obtain ⟨H', L', hx, hr'⟩ := hw w0 H L a w hr
 exact wpIn_mono (h w0 H' L' a w hr') fun e a w ⟨mk', hp⟩ => ⟨mk', hp.ext hx⟩
theorem awpT_seq {x y : Code} (h : ∀ K : List Deferred → St → Prop, (∀ mk σ, awpT C n mk y Q σ → K mk σ) → awpT C n mk x (thenKT K Q) σ) : awpT C n mk (.seq x y) Q σ := fun w0 H L a w hr => by
 refine wpIn_seq (wpIn_mono (h (fun mk σ => awpT C n mk y Q σ) (fun _ _ h => h) w0 H L a w hr) fun e a w hp => ?_)
 obtain ⟨mk', σ', H', L', hx, hr', hq⟩ := hp
 cases e with
 | normal => exact wpIn_mono (hq w0 H' L' a w hr') fun e a w ⟨mk2, hp⟩ => ⟨mk2, hp.ext hx⟩
 | _ => exact ⟨mk', σ', H', L', hx, hr', hq⟩
theorem awpT_block {id : Nat} {c : Code} (h : awpT C n mk c (inBlkT id Q) σ) : awpT C n mk (.block id c) Q σ := fun w0 H L a w hr => by
 refine wpIn_block (wpIn_mono (h w0 H L a w hr) fun e a w hp => ?_)
 obtain ⟨mk', σ', H', L', hx, hr', hq⟩ := hp
 cases e with
 | exit i =>
  simp only [Exit.inBlock]
  simp only [inBlkT] at hq
  by_cases hi : i = id
  ·subst hi
   simp at hq
   simp only [if_true]
   exact ⟨mk', σ', H', L', hx, hr', hq⟩
  ·simp only [beq_ne hi, cond_false] at hq
   simp only [hi, if_false]
   exact ⟨mk', σ', H', L', hx, hr', hq⟩
 | _ => exact ⟨mk', σ', H', L', hx, hr', hq⟩
end

def jumpQ (Q : Exit → St → Prop) (σ : St) : Option Code → Prop
 | none => Q .normal σ
 | some .ret => Q .ret σ
 | some (.exit id) => Q (.exit id) σ
 | _ => False

theorem Rep.blkS {C : Ctx} {n : Nat} {w0 : World} {H : Heap} {L : Loc} {s : List (Nat × AV)} {m : List (Nat × AO)} {a : Act} {w : World} (hr : Rep C n w0 H L (St.sem ⟨s, m⟩) a w) {id : Nat} (hf : St.freshB ⟨s, m⟩ id = true) (o : Obj) :
  Rep C n w0 H (L.set id (some (.pointer (some ⟨w.heap.size, 0, none⟩)))) (St.sem ⟨s, (id, .blk o) :: m⟩) a (w.alloc o) := by
 have hnone : H w.heap.size = none := by
  cases hh : H w.heap.size with
  | none => rfl
  | some ob => have := (Array.getElem?_eq_some_iff.1 (hr.heap _ _ hh)).1; omega
 have hnew := hr.new (id := id) (ob := .blk o) (x := .pointer (some ⟨w.heap.size, 0, none⟩)) (w' := w.alloc o) (fresh_sem hf) (alloc_below w _) (fun g hg => by simp [ownB] at hg; omega)
  ⟨w.heap.size, by simp [Loc.set], by rw [heap_alloc_new], hr.below.size, hnone⟩
  (fun b ob hb => by rw [(alloc_below w _).block b (Array.getElem?_eq_some_iff.1 (hr.heap _ _ hb)).1]; exact hr.heap _ _ hb)
 exact hnew.fewer fun i o' hi => by
  have hi' : lookO ((id, .blk o) :: m) i = some o' := hi
  simp only [lookO] at hi'
  by_cases h : i = id
  ·subst h; simpa using hi'
  ·rw [beq_ne (fun e => h e.symm)] at hi'; simp only [h, if_false]; exact hi'
theorem Rep.pinS {C : Ctx} {n : Nat} {w0 : World} {H : Heap} {L : Loc} {s : List (Nat × AV)} {m : List (Nat × AO)} {a : Act} {w : World} (hr : Rep C n w0 H L (St.sem ⟨s, m⟩) a w) {id : Nat} (hf : St.freshB ⟨s, m⟩ id = true) {cs : List AV} {us : List Value} (hp : RepL H cs L us) (hn : hasL id cs = false) :
  Rep C n w0 H (L.set id (some (.tuple #[]))) (St.sem ⟨s, (id, .pin cs us) :: m⟩) a w :=
 (hr.pinned (fresh_sem hf) hp hn).fewer fun i o' hi => by
  have hi' : lookO ((id, .pin cs us) :: m) i = some o' := hi
  simp only [lookO] at hi'
  by_cases h : i = id
  ·subst h; simpa using hi'
  ·rw [beq_ne (fun e => h e.symm)] at hi'; simp only [h, if_false]; exact hi'
theorem run_callFunc {P : Program} {f : FuncId} (hc : callable P f = true) (args : Array Value) (w : World) : (callFunc f args).run P w = .ok (.enter f args) w := by
 obtain ⟨hb, hnm⟩ := callable_spec hc
 cases hf : P.funcs[f]? with
 | none => simp [hf] at hb
 | some fn =>
  have hb' : fn.body.isNone = false := by
   have : fn.body.isSome = true := by simpa [hf] using hb
   cases hbb : fn.body <;> simp_all
  have hn' : (fn.name == "runtime.NumGoroutine") = false := by simpa [hf] using hnm
  simp only [callFunc, Sem.run_bind, Sem.run_pure, Result.andThen_ok, run_program, hf, hn', hb', Bool.false_eq_true, if_false]
theorem RepL.cons {H : Heap} {L : Loc} {x : AV} {v : Value} {xs : List AV} {vs : List Value} (h : RepV H x L v) (k : RepL H xs L vs) : RepL H (x :: xs) L (v :: vs) := by
 simp only [RepL]
 exact ⟨_, _, rfl, h, k⟩
theorem clo_has {σ : St} {id : Nat} {gf : FuncId} {caps : List AV} (g : Operand) (hf : σ.sem.Fresh id) (hg : σ.ev g = .clo gf caps) : hasL id caps = false := by
 have := ev_has hf g
 rw [ev_sem, hg] at this
 exact this
theorem freshB_cons {s : List (Nat × AV)} {m : List (Nat × AO)} {id i : Nat} {o : AO} (h : St.freshB ⟨s, m⟩ id = true) (hi : Nat.beq i id = false) (ho : o.has id = false) : St.freshB ⟨s, (i, o) :: m⟩ id = true := by
 simp only [St.freshB, Bool.and_eq_true, List.all_cons, hi, ho, Bool.not_false] at h ⊢
 exact ⟨h.1, ⟨trivial, trivial⟩, h.2⟩

theorem awpT_range {C : Ctx} (hmk : C.marks = []) {n : Nat} {Q : List Deferred → Exit → St → Prop} {σ : St} {g : Operand} {ps : Array Tmp} {assign body : Code} {gf : FuncId} {caps : List AV} {fnI : Func} {cI : Code} {so : List (Nat × AV)}
  (hs : subS σ so) (hf : C.P.funcs[gf]? = some fnI) (hb : fnI.body = some cI) (hcall : callable C.P gf = true) (hnI : caps.length + 1 ≤ fnI.ntmps) (hres : fnI.results = #[]) (hg : σ.ev g = .clo gf caps) (hnd : nodB (so.map (·.1)) = true)
  (hfr : (σ.freshB 9001 && σ.freshB 9002 && σ.freshB 9003 && σ.freshB 9004) = true) (hso : so.all (fun p => !p.2.has 9003 && !p.2.has 9004) = true)
  (X : (fn : FuncId) → (tmps : Array Value) → (D l : Nat) → Option Code → List (Nat × AO) → Prop)
  (hit : ∀ (fn : FuncId) (tmps : Array Value) (D l : Nat), tmps.size = n → awp C fnI.ntmps cI (fun e σ2 => (e = .normal ∨ e = .ret) ∧ ∃ st pe m', st ≠ LoopState.busy ∧ X fn tmps D l pe m' ∧ lookO m' 9001 = none ∧ lookO m' 9003 = none ∧
    Wk C fnI.ntmps σ2 ⟨[], (9001, .blk (.loop (lrec fn tmps ps assign body D st pe))) :: (9002, .blk (.deferred (some []))) :: (9003, pinA so tmps) :: (9004, pinL l D) :: m'⟩)
   ⟨ent 0 (.lit (.func (.yield l) #[] #[]) :: caps), (9004, pinL l D) :: (9003, pinA so tmps) :: (9001, .blk (.loop (lrec fn tmps ps assign body D .ready none))) :: (9002, .blk (.deferred (some []))) :: σ.objs⟩)
  (hQ : ∀ (fn : FuncId) (tmps : Array Value) (D l : Nat) pe m', X fn tmps D l pe m' → jumpQ (Q [mark D]) ⟨so, (9002, .blk (.deferred (some []))) :: (9004, pinL l D) :: m'⟩ pe) : awpT C n [] (.rangeFunc g ps assign body) Q σ := by
 intro w0 H L a w hr
 rw [marks_nil hmk] at hr
 have hdef : a.defers = [] := hr.defers.trans hmk
 simp only [Bool.and_eq_true] at hfr
 obtain ⟨⟨⟨f1, f2⟩, f3⟩, f4⟩ := hfr
 obtain ⟨s, m⟩ := σ
 have hgv := hr.ev g
 rw [ev_sem, hg] at hgv
 simp only [RepV] at hgv
 obtain ⟨vs, hgv, hcaps⟩ := hgv
 have hc1 : hasL 9001 caps = false := clo_has g (fresh_sem f1) hg
 have hc2 : hasL 9002 caps = false := clo_has g (fresh_sem f2) hg
 have hc3 : hasL 9003 caps = false := clo_has g (fresh_sem f3) hg
 have hc4 : hasL 9004 caps = false := clo_has g (fresh_sem f4) hg
 have hcaps4 := RepL.setL (y := some (.tuple #[])) hc4 (RepL.setL (y := some (.tuple #[])) hc3 (RepL.setL (y := some (.pointer (some ⟨w.heap.size + 1, 0, none⟩))) hc1 (RepL.setL (y := some (.pointer (some ⟨w.heap.size, 0, none⟩))) hc2 hcaps)))
 refine wpIn_rangeFunc ?_
 intro fn hfn
 show ∃ l mark w₁ d w₁' f args w₂, (Instr.enterLoop fn a.tmps ps assign body none).run C.P w = _ ∧ _
 -- the two blocks, and the ghosts
 have r1 := hr.blkS f2 (.deferred (some []))
 have r2 := r1.blkS (freshB_cons f1 rfl rfl) (.loop (lrec fn a.tmps ps assign body w.heap.size .ready none))
 rw [World.size_alloc] at r2
 have hslot2 : ∀ p ∈ so, RepV H p.2 ((L.set 9002 (some (.pointer (some ⟨w.heap.size, 0, none⟩)))).set 9001 (some (.pointer (some ⟨w.heap.size + 1, 0, none⟩)))) (a.tmps.getD p.1 undef) := fun p hp => by
  have h1 := r2.slot p.1
  rw [show (St.sem ⟨s, _⟩).ρ p.1 = look s p.1 from rfl] at h1
  rw [show look s p.1 = p.2 from subS_mem hs hp] at h1
  exact h1
 have hno3 : so.all (fun p => !p.2.has 9003) = true := List.all_eq_true.2 fun p hp => by
  have := List.all_eq_true.1 hso p hp
  simp only [Bool.and_eq_true] at this
  exact this.1
 have hno4 : so.all (fun p => !p.2.has 9004) = true := List.all_eq_true.2 fun p hp => by
  have := List.all_eq_true.1 hso p hp
  simp only [Bool.and_eq_true] at this
  exact this.2
 have r3 := r2.pinS (id := 9003) (freshB_cons (freshB_cons f3 rfl rfl) rfl rfl) (slots_rep (t := fun i => a.tmps.getD i undef) hslot2) (valsOf_has hno3)
 have r4 := r3.pinS (id := 9004) (cs := [.ref 9001 0, .ref 9002 0]) (us := [.pointer (some ⟨w.heap.size + 1, 0, none⟩), .pointer (some ⟨w.heap.size, 0, none⟩)])
  (freshB_cons (freshB_cons (freshB_cons f4 rfl rfl) rfl rfl) rfl (valsOf_has hno4)) (by simp [RepL, RepV, Loc.set, ownB]) rfl
 obtain ⟨W1, hW1⟩ : ∃ W1, W1 = (w.alloc (.deferred (some []))).alloc (.loop (lrec fn a.tmps ps assign body w.heap.size .ready none)) := ⟨_, rfl⟩
 rw [← hW1] at r4
 refine ⟨w.heap.size + 1, [mark w.heap.size], W1, { target := .fn (.func gf) vs.toArray, args := #[.func (.yield (w.heap.size + 1)) #[] #[]] }, W1, gf, #[.func (.yield (w.heap.size + 1)) #[] #[]] ++ vs.toArray, W1, ?_, ?_, ?_, ?_, fen_depth, ?_⟩
 ·rw [hW1]
  exact run_enterLoop_outer fn a.tmps ps assign body
 ·simp only [resolve, hgv]
  simp [go_sem]
 ·intro f' hf'
  trivial
 ·simp only [invoke]
  exact run_callFunc hcall _ _
 ·-- the iterator
  have hcl := RepL.cons (x := .lit (.func (.yield (w.heap.size + 1)) #[] #[])) (v := .func (.yield (w.heap.size + 1)) #[] #[]) (by simp [RepV]) hcaps4
  obtain ⟨e1, e2⟩ := entry_rep (C := C) (n := fnI.ntmps) (w0 := w) (by simpa using hnI) hcl
  have ea : (Value.func (.yield (w.heap.size + 1)) #[] #[] :: vs).toArray = #[.func (.yield (w.heap.size + 1)) #[] #[]] ++ vs.toArray := by simp
  rw [ea] at e1 e2
  refine callsIn_of_wp hf hb trivial ?_
  have r5 := r4.frameS (n' := fnI.ntmps) (a' := { tmps := #[.func (.yield (w.heap.size + 1)) #[] #[]] ++ vs.toArray ++ Array.replicate (fnI.ntmps - (#[Value.func (.yield (w.heap.size + 1)) #[] #[]] ++ vs.toArray).size) undef, defers := [] }) C.marks e1 hmk.symm e2 (fun i o h => h)
  refine wpIn_mono (hit fn a.tmps w.heap.size (w.heap.size + 1) hr.size w0 H _ _ W1 r5 none) ?_
  rintro e a2 w2 ⟨σ2, H2, L2, hx2, hr2, he, st, pe, m', hst, hX, hn1, hn3, hwk⟩
  obtain ⟨H3, L3, hx3, hr3⟩ := hwk w0 H2 L2 a2 w2 hr2
  have hback := (hr3.objs 9003 (pinA so a.tmps) rfl).2
  obtain ⟨hl1, hh1, hB1, hH1⟩ := pinL_loc hr3 (l := w.heap.size + 1) (D := w.heap.size) rfl (o := .loop (lrec fn a.tmps ps assign body w.heap.size st pe)) rfl
  have r6 := Rep.putRec hr3 rfl (l := w.heap.size + 1) (D := w.heap.size) rfl (.loop (lrec fn a.tmps ps assign body w.heap.size .exhausted pe)) ((9001, .blk (.loop (lrec fn a.tmps ps assign body w.heap.size .exhausted pe))) :: (9002, .blk (.deferred (some []))) :: (9003, pinA so a.tmps) :: (9004, pinL (w.heap.size + 1) w.heap.size) :: m') (fun i => by
   by_cases h : i = 9001
   ·subst h; rfl
   ·simp [lookO, beq_ne (fun e => h e.symm), h])
  have r7 := r6.frameS (n' := n) (a' := { tmps := a.tmps, defers := [mark w.heap.size] }) [mark w.heap.size] hr.size rfl (slots_of (t := fun i => a.tmps.getD i undef) hback) (m := (9002, .blk (.deferred (some []))) :: (9004, pinL (w.heap.size + 1) w.heap.size) :: m') (fun i o hi => by
   rw [mu_sem]
   by_cases h1 : i = 9001
   ·subst h1
    have : lookO m' 9001 = some o := hi
    rw [hn1] at this
    cases this
   ·by_cases h3 : i = 9003
    ·subst h3
     have : lookO m' 9003 = some o := hi
     rw [hn3] at this
     cases this
    ·rw [lookO, beq_ne (fun e => h1 e.symm), cond_false]
     rw [lookO] at hi ⊢
     cases hb2 : Nat.beq 9002 i with
     | true => rw [hb2] at hi; exact hi
     | false =>
      rw [hb2] at hi
      simp only [cond_false] at hi ⊢
      rw [lookO, beq_ne (fun e => h3 e.symm), cond_false]
      exact hi)
  have hend := run_endLoop (P := C.P) hh1 (by simpa [lrec] using hst)
  have hJ := hQ fn a.tmps w.heap.size (w.heap.size + 1) pe m' hX
  have fin : rangePost (fen none) 0 C.P (w.heap.size + 1) (fun e a w => ∃ mk', Post { C with marks := mk' } n w0 H (Q mk') e a w) { a with defers := [mark w.heap.size] ++ a.defers } (.returned (.tuple #[])) w2 := by
   refine ⟨pe, _, hend, ?_⟩
   rw [hdef]
   have hx : Ext w0.heap.size H H3 := hx2.trans hx3
   cases pe with
   | none => exact ⟨[mark w.heap.size], _, H3, _, hx, r7, hJ⟩
   | some c =>
    cases c with
    | ret => exact wpIn_ret ⟨[mark w.heap.size], _, H3, _, hx, r7, hJ⟩
    | exit id => exact wpIn_exit ⟨[mark w.heap.size], _, H3, _, hx, r7, hJ⟩
    | _ => exact hJ.elim
  have hres0 : (results fnI a2.tmps).run C.P w2 = .ok (.tuple #[]) w2 := by
   have hm : (fnI.results.mapM (resOne a2.tmps)).run C.P w2 = .ok #[] w2 := by
    rw [hres, Array.mapM_eq_mapM_toList]
    simp
   show (do let vs ← fnI.results.mapM (resOne a2.tmps); pure (if h : vs.size = 1 then vs[0] else .tuple vs) : Sem Value).run C.P w2 = _
   simp only [Sem.run_bind, hm, Result.andThen_ok, Sem.run_pure]
   rfl
  rcases he with rfl | rfl
  ·exact ⟨hr2.defers.trans hmk, _, hres0, fin⟩
  ·exact ⟨hr2.defers.trans hmk, _, hres0, fin⟩

def postT (C : Ctx) (fn : Func) (res : AV) : List Deferred → Exit → St → Prop
 | [], e, σ => postF C fn res e σ
 | [d], .ret, σ => ∃ vs D l, d = mark D ∧ ResOk C σ fn.results.toList vs ∧ closedL vs = true ∧ res = packR vs ∧ lookO σ.objs 9002 = some (.blk (.deferred (some []))) ∧ lookO σ.objs 9004 = some (pinL l D)
 | [d], .normal, σ => ∃ vs D l, d = mark D ∧ ResOk C σ fn.results.toList vs ∧ closedL vs = true ∧ res = packR vs ∧ lookO σ.objs 9002 = some (.blk (.deferred (some []))) ∧ lookO σ.objs 9004 = some (pinL l D)
 | _, _, _ => False
theorem res_ends {C : Ctx} {fn : Func} {σ : St} {n : Nat} {w0 w : World} {H : Heap} {L : Loc} {a : Act} (hr : Rep C n w0 H L σ.sem a w) {vs : List AV} (hres : ResOk C σ fn.results.toList vs) (hcl : closedL vs = true) :
  ∃ v, (results fn a.tmps).run C.P w = .ok v w ∧ RepV H (packR vs) noLoc v := by
 obtain ⟨us, hrun, hrl⟩ := res_run hr _ _ hres
 have hlu := hrl.length
 refine ⟨if h : us.toArray.size = 1 then us.toArray[0] else .tuple us.toArray, ?_, ?_⟩
 ·show (do let vs ← fn.results.mapM (resOne a.tmps); pure (if h : vs.size = 1 then vs[0] else .tuple vs) : Sem Value).run C.P w = _
  have hm : (fn.results.mapM (resOne a.tmps)).run C.P w = .ok us.toArray w := by
   rw [Array.mapM_eq_mapM_toList]
   simp [hrun]
  simp only [Sem.run_bind, hm, Result.andThen_ok, Sem.run_pure]
 ·have hrc := RepL.closed (L' := noLoc) hcl hrl
  match vs, us, hrc, hlu with
  | [v], [u], hrc, _ =>
   simp only [packR]
   simp only [RepL] at hrc
   obtain ⟨x, r, e, hx, _⟩ := hrc
   cases e
   simpa using hx
  | [], us, hrc, hlu =>
   have : us = [] := List.eq_nil_of_length_eq_zero (by simpa using hlu)
   subst this
   simp only [packR, RepV]
   exact ⟨[], by simp, hrc⟩
  | v1 :: v2 :: vs, us, hrc, hlu =>
   simp only [packR, RepV]
   refine ⟨us, ?_, hrc⟩
   rw [dif_neg (by simp at hlu ⊢; omega)]
theorem ecalls_of_awpT {C : Ctx} {f : FuncId} {fn : Func} {c : Code} {args : List AV} {res : AV} (hf : C.P.funcs[f]? = some fn) (hb : fn.body = some c) (hn : args.length ≤ fn.ntmps) (h : awpT C fn.ntmps [] c (postT C fn res) (entry args)) (hmk : C.marks = [] := by rfl) : ECalls C f args res := by
 intro H L vals w hG hH hr
 have hrep := entry_Rep hmk hG hH hn hr
 rw [← marks_nil hmk] at hrep
 refine (callsIn_wide (n := 0)).1 ?_
 refine callsIn_of_wp_marks hf hb trivial ?_
 refine wpIn_mono (h w H L _ w hrep) fun e a' w' hp => ?_
 obtain ⟨mk', σ', H', L', hx, hr', hq⟩ := hp
 have fin0 : (∃ vs, ResOk C σ' fn.results.toList vs ∧ closedL vs = true ∧ res = packR vs) → mk' = [] → LeavesInM (fen none) 0 C.P fn a'.tmps (fun e w' => ∃ H' v, e = .returned v ∧ RepV H' res noLoc v ∧ Ext w.heap.size H H' ∧ (∀ b o, H' b = some o → w'.heap[b]? = some o) ∧ Bel w.heap.size w w') a'.defers .returning w' := by
  rintro ⟨vs, hres, hcl, rfl⟩ rfl
  rw [marks_nil hmk] at hr'
  obtain ⟨v, hrun, hv⟩ := res_ends hr' hres hcl
  rw [hr'.defers, hmk]
  exact ⟨v, hrun, H', v, rfl, hv, hx, hr'.heap, hr'.below⟩
 have fin1 : ∀ d, mk' = [d] → (∃ vs D l, d = mark D ∧ ResOk C σ' fn.results.toList vs ∧ closedL vs = true ∧ res = packR vs ∧ lookO σ'.objs 9002 = some (.blk (.deferred (some []))) ∧ lookO σ'.objs 9004 = some (pinL l D)) →
   LeavesInM (fen none) 0 C.P fn a'.tmps (fun e w' => ∃ H' v, e = .returned v ∧ RepV H' res noLoc v ∧ Ext w.heap.size H H' ∧ (∀ b o, H' b = some o → w'.heap[b]? = some o) ∧ Bel w.heap.size w w') a'.defers .returning w' := by
  rintro d rfl ⟨vs, D, l, rfl, hres, hcl, rfl, h2, h4⟩
  obtain ⟨_, hp⟩ := hr'.objs 9004 _ h4
  simp only [RepL] at hp
  obtain ⟨v1, r1, e1, _, v2, r2, e2, hv2, _⟩ := hp
  subst e2
  cases e1
  simp only [RepV] at hv2
  obtain ⟨x, g, k1, k2, k3⟩ := hv2
  obtain ⟨g', b1, b2, b3, b4⟩ := hr'.objs 9002 _ h2
  rw [k1] at b1
  cases b1
  simp [ownB] at k2 k3
  subst k2
  subst k3
  have hlt := (Array.getElem?_eq_some_iff.1 b2).1
  have hw := hr'.wrote (ob' := .blk (.deferred none)) h2 k1 rfl (w' := w'.putObj D (.deferred none)) (fun k hk => World.putObj_heap_other hk) ⟨rfl, rfl, rfl, by simp, fun k hk => World.putObj_heap_other (by omega), Nat.le_refl _⟩ ⟨D, k1, World.putObj_heap_same hlt, b3, b4⟩
  have hdf : a'.defers = [mark D] := hr'.defers
  have e9 : { ρ := σ'.sem.ρ, μ := fun i => if i = 9002 then some (AO.blk (.deferred none)) else σ'.sem.μ i } = (St.sem ⟨σ'.slots, (9002, .blk (.deferred none)) :: σ'.objs⟩) := by
   unfold St.sem
   congr 1
   funext i
   simp only [lookO]
   by_cases h : i = 9002
   ·subst h; rfl
   ·simp [h, beq_ne (fun e => h e.symm)]
  rw [e9] at hw
  have hres' : ResOk { C with marks := [mark D] } ⟨σ'.slots, (9002, .blk (.deferred none)) :: σ'.objs⟩ fn.results.toList vs := by
   have : ∀ (rs : List ResultVar) (vs : List AV), ResOk C σ' rs vs → ResOk { C with marks := [mark D] } ⟨σ'.slots, (9002, .blk (.deferred none)) :: σ'.objs⟩ rs vs := by
    intro rs
    induction rs with
    | nil => intro vs h; cases vs <;> exact h
    | cons r rs ih =>
     intro vs h
     cases vs with
     | nil => cases r <;> exact h.elim
     | cons v vs =>
      cases r with
      | tmp t => exact ⟨h.1, ih _ h.2⟩
      | cell t ty =>
       obtain ⟨⟨id, ob, a1, a2, a3, a4⟩, h5⟩ := h
       refine ⟨⟨id, ob, a1, ?_, a3, a4⟩, ih _ h5⟩
       simp only [lookO]
       by_cases hid : id = 9002
       ·subst hid
        rw [h2] at a2
        cases a2
        simp [AO.isIter] at a3
       ·rw [beq_ne (fun e => hid e.symm)]; exact a2
   exact this _ _ hres
  obtain ⟨v, hrun, hv⟩ := res_ends hw hres' hcl
  rw [hdf]
  refine ⟨by simp, .inl ⟨D, _, rfl, run_takeDeferred b2, ?_⟩⟩
  exact ⟨v, hrun, H', v, rfl, hv, hx, hw.heap, hw.below⟩
 match mk', e, hq with
 | [], .normal, hq => exact fin0 hq rfl
 | [], .ret, hq => exact fin0 hq rfl
 | [d], .ret, hq => exact fin1 d rfl hq
 | [d], .normal, hq => exact fin1 d rfl hq
 | [], .exit _, hq => exact hq.elim
 | [], .goto _, hq => exact hq.elim
 | [], .panic _, hq => exact hq.elim
 | [], .outgrown, hq => exact hq.elim
 | [_], .exit _, hq => exact hq.elim
 | [_], .goto _, hq => exact hq.elim
 | [_], .panic _, hq => exact hq.elim
 | [_], .outgrown, hq => exact hq.elim
 | _ :: _ :: _, .normal, hq => exact hq.elim
 | _ :: _ :: _, .ret, hq => exact hq.elim
 | _ :: _ :: _, .exit _, hq => exact hq.elim
 | _ :: _ :: _, .goto _, hq => exact hq.elim
 | _ :: _ :: _, .panic _, hq => exact hq.elim
 | _ :: _ :: _, .outgrown, hq => exact hq.elim

theorem Wk.nilIn {C : Ctx} {n : Nat} {σ : St} {i id ty e sz : Nat} (hs : lookO σ.objs i = some (.var ty [.lit (.slice none 0 0)])) (hf : σ.freshB id = true) (hsz : 0 < sz) : Wk C n σ ⟨σ.slots, (id, .row e sz []) :: (i, .var ty [.row id]) :: σ.objs⟩ := fun w0 H L a w hr => by
 have hne : i ≠ id := fun e => by
  subst e
  have := (fresh_sem hf).1
  rw [show σ.sem.μ i = lookO σ.objs i from rfl, hs] at this
  cases this
 have hnew := hr.new (id := id) (ob := .row e sz []) (x := .slice none 0 0) (w' := w) (fresh_sem hf) (Bel.refl _ _) (fun g hg => by simp [ownB] at hg)
  ⟨.slice none 0 0, [], 0, by simp [Loc.set], by simp, World.ownsRow_nil w _ e sz, by simp [RepL], by simp, hsz, by simp, fun g hg => by simp [ownB] at hg⟩ hr.heap
 have conv : ∀ j o, lookO ((id, .row e sz []) :: (i, .var ty [.row id]) :: σ.objs) j = some o → (j = i ∧ o = .var ty [.row id]) ∨ (j ≠ i ∧ (if j = id then some (AO.row e sz []) else σ.sem.μ j) = some o) := fun j o ho => by
  simp only [lookO] at ho
  by_cases h1 : j = id
  ·subst h1
   simp at ho
   exact .inr ⟨fun e => hne e.symm, by simp [ho]⟩
  ·rw [beq_ne (fun e => h1 e.symm)] at ho
   by_cases h2 : j = i
   ·subst h2
    simp at ho
    exact .inl ⟨rfl, ho.symm⟩
   ·rw [beq_ne (fun e => h2 e.symm)] at ho
    exact .inr ⟨h2, by simp only [h1, if_false]; exact ho⟩
 have hi0 := hnew.objs i (.var ty [.lit (.slice none 0 0)]) (by simp only [hne, if_false]; exact hs)
 refine ⟨H, L.set id (some (.slice none 0 0)), Ext.refl _ _, ⟨hnew.glob, hnew.heap, hnew.size, hnew.slot, fun j o ho => ?_, fun j k o o' g x x' hjk hj hk => ?_, hnew.below, hnew.defers⟩⟩
 ·rcases conv j o ho with ⟨rfl, rfl⟩ | ⟨h1, h2⟩
  ·obtain ⟨g, vs, a1, a2, a3, a4, a5, a6⟩ := hi0
   refine ⟨g, vs, a1, a2, ?_, a4, a5, a6⟩
   simp only [RepL, RepV] at a3 ⊢
   obtain ⟨v, r, rfl, rfl, rfl⟩ := a3
   exact ⟨_, [], rfl, ⟨by simp [Loc.set], rfl⟩, rfl⟩
  ·exact hnew.objs j o h2
 ·have conv' : ∀ j o, lookO ((id, .row e sz []) :: (i, .var ty [.row id]) :: σ.objs) j = some o → ∃ o', (if j = id then some (AO.row e sz []) else σ.sem.μ j) = some o' := fun j o ho => by
   rcases conv j o ho with ⟨rfl, rfl⟩ | ⟨h1, h2⟩
   ·exact ⟨_, by simp only [hne, if_false]; exact hs⟩
   ·exact ⟨_, h2⟩
  obtain ⟨o1, h1⟩ := conv' j o hj
  obtain ⟨o2, h2⟩ := conv' k o' hk
  exact hnew.apart j k o1 o2 g x x' hjk h1 h2
theorem postT_ret {C : Ctx} {fn : Func} {res : AV} {σ : St} {D l : Nat} (h : ∃ vs, ResOk C σ fn.results.toList vs ∧ closedL vs = true ∧ res = packR vs) (h2 : lookO σ.objs 9002 = some (.blk (.deferred (some [])))) (h4 : lookO σ.objs 9004 = some (pinL l D)) : postT C fn res [mark D] .ret σ := by
 obtain ⟨vs, h1, h3, h5⟩ := h
 exact ⟨vs, D, l, rfl, h1, h3, h5, h2, h4⟩
theorem Wk.subT {C : Ctx} {n : Nat} {s s' : List (Nat × AV)} {m m' : List (Nat × AO)} (hs : subS ⟨s, m⟩ s') (ho : ∀ i o, lookO m' i = some o → lookO m i = some o) : Wk C n ⟨s, m⟩ ⟨s', m'⟩ := fun w0 H L a w hr => by
 have hr' := hr.fewer (μ := lookO m') (fun i o hi => ho i o hi)
 refine ⟨H, L, Ext.refl _ _, ⟨hr'.glob, hr'.heap, hr'.size, fun i => ?_, hr'.objs, hr'.apart, hr'.below, hr'.defers⟩⟩
 rcases look_mem (l := s') (i := i) with h | h
 ·show RepV H (look s' i) L _
  rw [h]
  simp [RepV]
 ·have := hr.slot i
  show RepV H (look s' i) L _
  rw [← subS_mem hs h]
  exact this
theorem awp_regionYL {C : Ctx} {n : Nat} {Q : Exit → St → Prop} {σ : St} {id : Nat} {ops : Array Oper} (d : Nat) (y : Operand) (args : Array Operand) (tys : Array TypeId) (t : TypeId) (p : String) (af : Array Edge) (l : Nat) (asx : List AV)
  (hops : ops.toList.getLast? = some ⟨some d, .call { callee := .value y, args := args, argTypes := tys }, t, p, af, none⟩) (hd : dstsB n ops.toList = true)
  (h : aops C ops σ ops.toList.dropLast fun _ σ' => σ'.ev y = .lit (.func (.yield l) #[] #[]) ∧ args.toList.map σ'.sem.ev = asx ∧ YldAt C n l asx σ' fun b σ2 => Q .normal ⟨(d, .lit (.bool b)) :: σ2.slots, σ2.objs⟩) :
  awp C n (.region id ops false) Q σ := by
 obtain ⟨ys, hys⟩ := List.getLast?_eq_some_iff.1 hops
 exact awp_regionY ops.toList.dropLast d (y := y) (args := args) (tys := tys) (t := t) (p := p) (af := af) l asx (by rw [hys]; simp) hd h
end Go.Ab

namespace Go.Ab
open Go.ChangeShapes Go.WideShapes Go.ChangeAt Go.RowKit
open Go.ChangeMaps (open_string shut_string)

section
variable {H : Type} {enc : TypeId × Value → H} {P : Program}
theorem witness_laid {C : Checked} {os : Os} {f : FuncId} {fn : Func} {s : OpenSpec} {conds : List PathCond} {apart : Bool} {laid : List (String × DataW Unit)} (args : Array Value)
  (hv : ((World.laidAll C.prog os laid).forCall (fun _ _ => 0) ⟨#[], args, []⟩).variablesZipB C.prog = true)
  (hr : (((World.laidAll C.prog os laid).forCall (fun _ _ => 0) ⟨#[], args, []⟩).heap.toList.drop C.prog.globals.size).take ((begin C.prog (fun _ _ => 0) default).world.heap.size - C.prog.globals.size) =
   (begin C.prog (fun _ _ => 0) default).world.heap.toList.drop C.prog.globals.size)
  (hok : Input.okWideB C.prog ((World.laidAll C.prog os laid).forCall (fun _ _ => 0) ⟨#[], args, []⟩) f ⟨#[], args, []⟩ = true)
  (hrow : s.preRow enc C.prog fn conds apart laid ((World.laidAll C.prog os laid).forCall (fun _ _ => 0) ⟨#[], args, []⟩).memory args) :
  ∃ (w : World) (tape : Tape) (i : Input), w.os = os ∧ (w.forCall tape i).Shaped C.prog ∧ i.vars = [] ∧ Input.okWide C.prog (w.forCall tape i) .any w.heap.size f i ∧
   s.preRow enc C.prog fn conds apart laid (w.forCall tape i).memory i.args ∧ ({} : Assume).holds C.prog (lone (Frame.enter C.prog f i.args .normal) [] (w.forCall tape i)) :=
 ⟨World.laidAll C.prog os laid, fun _ _ => 0, ⟨#[], args, []⟩, World.laidAll_os _ _ _, World.shaped_of_ZipB hv hr, (Input.okWide_of_okWideB (base := 0) hok).1, (Input.okWide_of_okWideB hok).2, hrow, by
  exact ⟨fun h => absurd h Bool.false_ne_true, fun h => absurd h Bool.false_ne_true, fun h => absurd h Bool.false_ne_true, fun d h => absurd h (by simp), fun d h => absurd h (by simp), fun h => absurd h Bool.false_ne_true⟩⟩

theorem trodAll_back (hl : laidOutB P = true) {W W' : World} (hb : Below W.heap.size W W') : ∀ (ts : List TypeId) (vs : List Value) (ds : List (DataW H)) (ps : List MemPlace), (ts.all fun t => P.readableRec t && decide (t < P.types.size)) = true →
  DataW.TrodAll enc P W 0 (fun _ => true) true ts vs ds ps → (∀ x ∈ ps, x.block < W.heap.size) → DataW.TrodAll enc P W' 0 (fun b => decide (b < W.heap.size)) true ts vs ds ps
 | [], [], [], ps, _, h, _ => h
 | t :: ts, v :: vs, d :: ds, ps, hr, h, hlt => by
  obtain ⟨p, q, h1, h2, rfl⟩ := h
  simp only [List.all_cons, Bool.and_eq_true, decide_eq_true_eq] at hr
  exact ⟨p, q, Below.trod hl hr.1.1 hr.1.2 h1 hb (fun x hx => hlt x (by simp [hx])), trodAll_back hl hb ts vs ds q (by simpa using hr.2) h2 (fun x hx => hlt x (by simp [hx])), rfl⟩
 | [], [], _ :: _, _, _, h, _ => h.elim
 | [], _ :: _, _, _, _, h, _ => by cases ‹List (DataW H)› <;> exact h.elim
 | _ :: _, [], _, _, _, h, _ => by cases ‹List (DataW H)› <;> exact h.elim
 | _ :: _, _ :: _, [], _, _, h, _ => h.elim

def memOf (W : World) : Heap := fun b => W.heap[b]?

theorem post_true {f : Func} {s : ChangeSpec} {W W' : World} {args : Array Value} {ds gs : List (DataW H)} {before : List MemPlace} {tb : TypeId} (hW : DataW.Whole enc P f.params.toList s.vars false W args.toList ds gs before)
  (hl : laidOutB P = true) (hp : (f.params.toList.all fun t => P.readableRec t && decide (t < P.types.size)) = true) (hr : f.resultTypes = #[tb]) (htb : P.underlying tb = some .bool) (hvs : s.vars = [])
  (hs : (s.fn H (ds ++ gs)).results = [.lit (.bool true)] ∧ (s.fn H (ds ++ gs)).args = ds ∧ (s.fn H (ds ++ gs)).vars = []) (bel : Below W.heap.size W W') : s.post enc P f false true false false W args (.bool true) W' := by
 have hW' := hW
 obtain ⟨p, q, hA, hV, rfl, hfz, hnd⟩ := hW
 rw [hvs] at hV
 obtain ⟨rfl, rfl⟩ := trodVars_none hV
 refine ⟨ds, [], _, [], p, [], hW', ?_, ?_, ?_, bel.frame _, fun h => by cases h⟩
 ·rw [hs.1, hr]
  exact trodAll_mk1 (shut_bool htb _)
 ·rw [hs.2.1]
  exact trodAll_back hl bel _ _ _ _ hp hA fun x hx => hW'.lt x (by simp [hx])
 ·rw [hs.2.2, hvs]
  rfl

theorem lifted_of {C : Checked} {os : Os} (started : os.Started) {f : FuncId} {fn : Func} {s : ChangeSpec} {conds : List PathCond} {laid : List (String × DataW Unit)} {F : Stop.Interp} (Cx : Ctx) (hP : Cx.P = C.prog) (own : ownKnob C.prog.godebug = none) (noInit : C.prog.inits.idxOf? f = none)
  (hfn : C.prog.funcs[f]? = some fn) (witness : ∃ (w : World) (tape : Tape) (i : Input), w.os = os ∧ (w.forCall tape i).Shaped C.prog ∧ i.vars = [] ∧ Input.okWide C.prog (w.forCall tape i) .any w.heap.size f i ∧
   (OpenSpec.ofChange s).preRow enc C.prog fn conds false laid (w.forCall tape i).memory i.args ∧ ({} : Assume).holds C.prog (lone (Frame.enter C.prog f i.args .normal) [] (w.forCall tape i)))
  {tb : TypeId} (hl : laidOutB C.prog = true) (hp : (fn.params.toList.all fun t => C.prog.readableRec t && decide (t < C.prog.types.size)) = true) (hr : fn.resultTypes = #[tb]) (htb : C.prog.underlying tb = some .bool) (hvs : s.vars = [])
  (hs : ∀ ds : List (DataW H), ds.length = fn.params.size → (s.fn H ds).results = [.lit (.bool true)] ∧ (s.fn H ds).args = ds ∧ (s.fn H ds).vars = [])
  (hG : ∀ W : World, laidMetH C.prog laid W → Cx.G (memOf W))
  (hlaw : ∀ (W : World) (base : Nat) (args : Array Value) (ds : List (DataW H)) (ps : List MemPlace), (∀ (j : Nat) t v, fn.params[j]? = some t → args[j]? = some v → Value.okWide C.prog W .any base t v) → DataW.TrodAll enc C.prog W 0 (fun _ => true) true fn.params.toList args.toList ds ps →
   (DataW.weightsEach C.prog fn.params.toList ds).all (· ≤ reachBytes) = true → ∃ xs, RepL (memOf W) xs noLoc args.toList ∧ ECalls Cx f xs (.lit (.bool true))) :
  ReturnsInHanded {} C os f .any ((OpenSpec.ofChange s).preRow enc C.prog fn conds false laid) (((OpenSpec.ofChange s).at F).post enc C.prog fn false true false false) := by
 refine returnsInHanded_of_row (C := C) (s := OpenSpec.ofChange s) own started noInit hfn witness ?_
 intro W base args ds gs before hval hW _ _ hsz hL _ _
 have hW2 : DataW.Whole enc C.prog fn.params.toList s.vars false W args.toList ds gs before := hW
 have hsz2 : (DataW.weightsEach C.prog (fn.params.toList ++ s.plain.varTypes C.prog) (ds ++ gs)).all (· ≤ reachBytes) = true := hsz
 have hW3 := hW2
 obtain ⟨p, q, hA, hV, rfl, _, _⟩ := hW2
 rw [hvs] at hV
 obtain ⟨rfl, rfl⟩ := trodVars_none hV
 have hvt : s.plain.varTypes C.prog = [] := by
  unfold ChangeSpec.plain DataSpec.varTypes
  rw [hvs]
  rfl
 rw [hvt, List.append_nil, List.append_nil] at hsz2
 obtain ⟨xs, hrep, hcall⟩ := hlaw W base args ds p hval hA hsz2
 have hc := hcall (memOf W) noLoc args.toList W (hG W hL) (fun b o h => h) hrep
 rw [hP] at hc
 refine Calls.mono hc ?_
 rintro e W' ⟨H', v, rfl, hv, _, _, bel⟩
 simp only [RepV] at hv
 subst hv
 refine ⟨.bool true, rfl, ?_⟩
 have hlen : ds.length = fn.params.size := by
  have : ∀ (ts : List TypeId) (vs : List Value) (ds : List (DataW H)) (ps : List MemPlace), DataW.TrodAll enc C.prog W 0 (fun _ => true) true ts vs ds ps → ds.length = ts.length := by
   intro ts
   induction ts with
   | nil => intro vs ds ps h; cases vs <;> cases ds <;> first | rfl | exact h.elim
   | cons t ts ih =>
    intro vs ds ps h
    cases vs with
    | nil => cases ds <;> exact h.elim
    | cons v vs =>
     cases ds with
     | nil => exact h.elim
     | cons d ds =>
      obtain ⟨p, q, _, h2, _⟩ := h
      simp [ih vs ds q h2]
  simpa using this _ _ _ _ hA
 exact post_true hW3 hl hp hr htb hvs (by rw [List.append_nil]; exact hs ds hlen) bel.low
end
end Go.Ab

namespace Go.Proofs.YtaeknciienkijaaGreatDoor
open Go Go.Ab Go.Mth Go.ChangeShapes Go.WideShapes Go.ChangeAt Go.RowKit
open Go.ChangeMaps (open_string shut_string)
theorem ownT : ownKnob Tryz.prog.godebug = none := by kernel_rfl
theorem laidOutT : laidOutB Tryz.prog = true := by kernel_rfl
theorem gTab : Tryz.prog.globalNamed "internal/strconv.uint64pow10" = some 2 := by kernel_rfl
noncomputable def tyTab : TypeId := ((Tryz.prog.globals[2]?).map (·.type)).getD 0
theorem gTabType : (Tryz.prog.globals[2]?).map (·.type) = some tyTab := by kernel_rfl
noncomputable def elTab : TypeId := match Tryz.prog.underlying tyTab with | some (.array _ e) => e | _ => 0
theorem uTab : Tryz.prog.underlying tyTab = some (.array 20 elTab) := by kernel_rfl
theorem uElTab : Tryz.prog.underlying elTab = some (.int .u64) := by kernel_rfl
theorem cElTab : Tryz.prog.cellsOf elTab = 1 := by kernel_rfl
theorem cTab : Tryz.prog.cellsOf tyTab = 20 := by kernel_rfl
theorem var_mem {P : Program} {W : World} {name : String} {g : Nat} {a : Array Value} (hg : P.globalNamed name = some g) (h : W.var? P name = some a) : ∃ t fr, memOf W g = some (.cells a t fr) := by
 unfold World.var? at h
 rw [hg, Option.bind_some] at h
 unfold memOf
 split at h
 ·rename_i cs t fr hh
  cases h
  exact ⟨t, fr, hh⟩
 ·cases h
theorem u4T : Tryz.prog.underlying 4 = some .bool := by kernel_rfl
theorem reachB : reachBytes = 140737488351232 := by decide
end Go.Proofs.YtaeknciienkijaaGreatDoor

