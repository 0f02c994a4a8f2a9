/- Functions that hand back a closure over their own variables, and ranges over such a function. Over any program. -/
import Derived.Test.YtkngglpnejdicaaDoorAb14
import Derived.RangeFuncIn
import Derived.RangeFuncRecord
import Derived.RangeFuncLeaves
set_option linter.unusedVariables false
set_option linter.unusedSimpArgs false
namespace Go.Ab
open Go.RowKit

/-- How a function ends that hands back a closure. -/
def postW (C : Ctx) (fn : Func) (f2 : FuncId) (t1 : TypeId) (cs1 : List AV) (t2 : TypeId) (cs2 : List AV) : Exit → St → Prop
  | .ret, σ => ∃ t id1 id2, fn.results = #[.tmp t] ∧ id1 ≠ id2 ∧ look σ.slots t = .clo f2 [.ref id1 0, .ref id2 0] ∧ lookO σ.objs id1 = some (.var t1 cs1) ∧ lookO σ.objs id2 = some (.var t2 cs2)
  | _, _ => False
theorem entry_rep {C : Ctx} {n : Nat} {w0 : World} {H : Heap} {L : Loc} {args : List AV} {vals : List Value} (hn : args.length ≤ n) (hr : RepL H args L vals) :
    (vals.toArray ++ Array.replicate (n - vals.toArray.size) undef).size = n ∧ ∀ i, RepV H (look (ent 0 args) i) L ((vals.toArray ++ Array.replicate (n - vals.toArray.size) undef).getD i undef) := by
  have hlen := hr.length
  refine ⟨by simp; omega, fun i => ?_⟩
  rw [look_ent]
  simp only [Nat.zero_le, if_true, Nat.sub_zero]
  cases hi : args[i]? with
  | none => simp [RepV]
  | some x =>
    obtain ⟨v, hv1, hv2⟩ := hr.get hi
    have hlt : i < vals.length := (List.getElem?_eq_some_iff.1 hv1).1
    simp only [Option.getD_some, Array.getD_eq_getD_getElem?]
    rw [Array.getElem?_append_left (by simpa using hlt)]
    simpa [hv1] using hv2
theorem entry_Rep {C : Ctx} (hmk : C.marks = []) {n : Nat} {H : Heap} {L : Loc} {w : World} {args : List AV} {vals : List Value} (hG : C.G H) (hH : ∀ b o, H b = some o → w.heap[b]? = some o) (hn : args.length ≤ n) (hr : RepL H args L vals) :
    Rep C n w H L (entry args).sem { tmps := vals.toArray ++ Array.replicate (n - vals.toArray.size) undef, defers := [] } w := by
  obtain ⟨h1, h2⟩ := entry_rep (C := C) (w0 := w) hn hr
  exact ⟨hG, hH, h1, h2, fun id o ho => by simp [entry, St.sem, lookO] at ho, fun id id' o o' g x x' _ ho => by simp [entry, St.sem, lookO] at ho, Below.refl _ _, hmk.symm⟩
theorem ecallsW_of_awp {C : Ctx} {f : FuncId} {fn : Func} {c : Code} {args : List AV} {f2 : FuncId} {t1 t2 : TypeId} {cs1 cs2 : List AV} (hf : C.P.funcs[f]? = some fn) (hb : fn.body = some c) (hn : args.length ≤ fn.ntmps) (hc1 : closedL cs1 = true) (hc2 : closedL cs2 = true)
    (h : awp C fn.ntmps c (postW C fn f2 t1 cs1 t2 cs2) (entry args)) (hmk : C.marks = [] := by rfl) : ECallsW C f args f2 t1 cs1 t2 cs2 := by
  intro H L vals w hG hH hr
  refine calls_of_wp hf hb ((wpIn_wide (n := 0)).1 ?_)
  have hrep := entry_Rep hmk hG hH hn hr
  refine wpIn_mono (h w H L _ w hrep none) fun e a' w' hp => ?_
  obtain ⟨σ', H', L', hx, hr', hq⟩ := hp
  cases e with
  | ret =>
    obtain ⟨t, id1, id2, hres, hne, hs, ho1, ho2⟩ := hq
    have hsl := hr'.slot t
    rw [show σ'.sem.ρ t = look σ'.slots t from rfl, hs] at hsl
    simp only [RepV, RepL] at hsl
    obtain ⟨vs, hv, v1, r1, rfl, ⟨x1, g1, hl1, hg1, rfl⟩, v2, r2, rfl, ⟨x2, g2, hl2, hg2, rfl⟩, rfl⟩ := hsl
    obtain ⟨g1', vs1, hl1', hh1, hr1, hone1, hB1, hn1⟩ := hr'.objs id1 _ ho1
    obtain ⟨g2', vs2, hl2', hh2, hr2, hone2, hB2, hn2⟩ := hr'.objs id2 _ ho2
    rw [hl1] at hl1'
    rw [hl2] at hl2'
    cases hl1'
    cases hl2'
    have hg := hr'.apart id1 id2 _ _ g1' _ _ hne ho1 ho2 hl1 hl2 rfl
    simp [ownB] at hg1 hg2 hg
    subst hg1
    subst hg2
    refine ⟨hr'.defers.trans hmk, _, ?_, H', g1', g2', vs1, vs2, rfl, hx, hr'.heap, hr'.below, fun e => hg e.symm, hB1, hB2, hn1, hn2, hh1, hh2, RepL.closed hc1 hr1, RepL.closed hc2 hr2, hone1, hone2⟩
    have hm : (fn.results.mapM (resOne a'.tmps)).run C.P w' = .ok #[a'.tmps.getD t undef] w' := by
      rw [hres, Array.mapM_eq_mapM_toList]
      simp [resOne]
    show (do let vs ← fn.results.mapM (resOne a'.tmps); pure (if h : vs.size = 1 then vs[0] else .tuple vs) : Sem Value).run C.P w' = _
    simp only [Sem.run_bind, hm, Result.andThen_ok, Sem.run_pure]
    rw [dif_pos (by rfl)]
    simp [hv]
  | _ => exact hq.elim

/-! ### Ghosts, and frames over the same memory -/
section
variable {C : Ctx} {n : Nat} {w0 : World} {H : Heap} {L : Loc} {S : SS} {a : Act} {w : World}
theorem Rep.pinned (h : Rep C n w0 H L S a w) {id : Nat} (hf : S.Fresh id) {cs : List AV} {us : List Value} (hr : RepL H cs L us) (hn : hasL id cs = false) :
    Rep C n w0 H (L.set id (some (.tuple #[]))) { ρ := S.ρ, μ := fun i => if i = id then some (.pin cs us) else S.μ i } a w :=
  h.new hf (Below.refl _ _) (fun g hg => by simp [ownB] at hg) ⟨by simp [Loc.set], RepL.setL hn hr⟩ h.heap
theorem Rep.frame (h : Rep C n w0 H L S a w) (mk : List Deferred) {n' : Nat} {a' : Act} (hs : a'.tmps.size = n') (hd : a'.defers = mk) {ρ : Nat → AV} (hρ : ∀ i, RepV H (ρ i) L (a'.tmps.getD i undef)) : Rep { C with marks := mk } n' w0 H L ⟨ρ, S.μ⟩ a' w :=
  ⟨h.glob, h.heap, hs, hρ, h.objs, h.apart, h.below, hd⟩
end
def valsOf : List (Nat × AV) → List AV
  | [] => []
  | (_, v) :: r => v :: valsOf r
theorem valsOf_has {id : Nat} : ∀ {so : List (Nat × AV)}, so.all (fun p => !p.2.has id) = true → hasL id (valsOf so) = false
  | [], _ => rfl
  | (i, v) :: r, h => by
    simp only [List.all_cons, Bool.and_eq_true, Bool.not_eq_true'] at h
    simp only [valsOf, hasL, h.1, valsOf_has h.2, Bool.or_self]
theorem slots_rep {H : Heap} {L : Loc} {t : Nat → Value} : ∀ {so : List (Nat × AV)}, (∀ p ∈ so, RepV H p.2 L (t p.1)) → RepL H (valsOf so) L (so.map fun p => t p.1)
  | [], _ => by simp [valsOf, RepL]
  | (i, v) :: r, h => by
    simp only [valsOf, List.map_cons, RepL]
    exact ⟨_, _, rfl, h (i, v) (by simp), slots_rep fun p hp => h p (by simp [hp])⟩
theorem slots_of {H : Heap} {L : Loc} {t : Nat → Value} : ∀ {so : List (Nat × AV)}, RepL H (valsOf so) L (so.map fun p => t p.1) → ∀ i, RepV H (look so i) L (t i)
  | [], _, i => by simp [look, RepV]
  | (j, v) :: r, h, i => by
    simp only [valsOf, List.map_cons, RepL] at h
    obtain ⟨x, y, e, h1, h2⟩ := h
    cases e
    simp only [look]
    cases hb : Nat.beq j i with
    | true => have := Nat.eq_of_beq_eq_true hb; subst this; exact h1
    | false => exact slots_of h2 i
def pinA (so : List (Nat × AV)) (tmps : Array Value) : AO := .pin (valsOf so) (so.map fun p => tmps.getD p.1 undef)
def parS : List Nat → List AV → List (Nat × AV) → List (Nat × AV)
  | p :: ps, v :: vs, s => parS ps vs ((p, v) :: s)
  | _, _, s => s
theorem par_rep {H : Heap} {L : Loc} : ∀ (ps : List Nat) (as : List AV) (vals : List Value) (s : List (Nat × AV)) (tmps : Array Value), RepL H as L vals → (∀ p ∈ ps, p < tmps.size) → as.length = ps.length → (∀ i, RepV H (look s i) L (tmps.getD i undef)) →
    ∀ i, RepV H (look (parS ps as s) i) L (((ps.zip vals).foldl (fun (t : Array Value) (p : Nat × Value) => t.setIfInBounds p.1 p.2) tmps).getD i undef)
  | [], [], vals, s, tmps, hr, hp, hl, hs => by simpa [parS] using hs
  | p :: ps, [], vals, s, tmps, hr, hp, hl, hs => by simp at hl
  | [], a :: as, vals, s, tmps, hr, hp, hl, hs => by simp at hl
  | p :: ps, a :: as, vals, s, tmps, hr, hp, hl, hs => by
    simp only [RepL] at hr
    obtain ⟨v, r, rfl, h1, h2⟩ := hr
    simp only [parS, List.zip_cons_cons, List.foldl_cons]
    refine par_rep ps as r _ _ h2 (fun q hq => by simpa using hp q (by simp [hq])) (by simpa using hl) fun i => ?_
    have hlt := hp p (by simp)
    simp only [look]
    cases hb : Nat.beq p i with
    | true => have := Nat.eq_of_beq_eq_true hb; subst this; simpa [Array.getD_eq_getD_getElem?, hlt] using h1
    | false =>
      have := Nat.ne_of_beq_eq_false hb
      have h3 := hs i
      simpa [Array.getD_eq_getD_getElem?, Array.getElem?_setIfInBounds_ne this] using h3
theorem foldl_size : ∀ (l : List (Nat × Value)) (tmps : Array Value), (l.foldl (fun (t : Array Value) (p : Nat × Value) => t.setIfInBounds p.1 p.2) tmps).size = tmps.size
  | [], _ => rfl
  | p :: l, tmps => by simp [foldl_size l]

/-! ### One round -/
def lrec (fn : FuncId) (tmps : Array Value) (ps : Array Tmp) (assign body : Code) (D : Nat) (st : LoopState) (pe : Option Code) : Loop := { state := st, pending := pe, fn := fn, tmps := tmps, params := ps, assign := assign, body := body, defers := D }
/-- A call of yield: what it comes to. -/
def YldAt (C : Ctx) (nI : Nat) (l : Nat) (as : List AV) (σ : St) (K : Bool → St → Prop) : Prop :=
  ∀ (w0 : World) (H : Heap) (L : Loc) (a : Act) (w : World) (vals : List Value), Rep C nI w0 H L σ.sem a w → RepL H as L vals →
    ∃ fn tmps assign body, (Instr.yield l vals.toArray).run C.P w = .ok (.round l fn tmps assign body) w ∧
      RoundIn (fen none) 0 C.P l fn tmps assign body w fun e w' => ∃ b σ' H' L', e = .returned (.bool b) ∧ Ext w0.heap.size H H' ∧ Rep C nI w0 H' L' (St.sem σ') a w' ∧ K b σ'
theorem YldAt.wk {C : Ctx} {nI l : Nat} {as : List AV} {σ σ1 : St} {K : Bool → St → Prop} (hw : Wk C nI σ σ1) (hc : closedL as = true) (h : YldAt C nI l as σ1 K) : YldAt C nI l as σ K := fun w0 H L a w vals hr hv => by
  obtain ⟨H1, L1, hx, hr1⟩ := hw w0 H L a w hr
  obtain ⟨fn, tmps, assign, body, h1, h2⟩ := h w0 H1 L1 a w vals hr1 (RepL.closed hc (RepL.mono hx.1 (Loc.le_refl _) hv))
  exact ⟨fn, tmps, assign, body, h1, h2.mono fun e w' ⟨b, σ', H', L', a1, a2, a3, a4⟩ => ⟨b, σ', H', L', a1, hx.trans a2, a3, a4⟩⟩
theorem YldAt.mono {C : Ctx} {nI l : Nat} {as : List AV} {σ : St} {K K' : Bool → St → Prop} (h : YldAt C nI l as σ K) (hk : ∀ b σ, K b σ → K' b σ) : YldAt C nI l as σ K' := fun w0 H L a w vals hr hv => by
  obtain ⟨fn, tmps, assign, body, h1, h2⟩ := h w0 H L a w vals hr hv
  exact ⟨fn, tmps, assign, body, h1, h2.mono fun e w' ⟨b, σ', H', L', a1, a2, a3, a4⟩ => ⟨b, σ', H', L', a1, a2, a3, hk _ _ a4⟩⟩

/-- The assignments of a round, and its body: the record is made busy between them. -/
def awpRound (C : Ctx) (n : Nat) (assign body : Code) (o o' : Obj) (pl : AO) (Q : Exit → St → Prop) (σ : St) : Prop :=
  awp C n assign (thenK (fun σ1 => ∃ s1 m1, Wk C n σ1 ⟨s1, (9001, .blk o) :: m1⟩ ∧ lookO m1 9004 = some pl ∧ awp C n body Q ⟨s1, (9001, .blk o') :: m1⟩) (fun _ _ => False)) σ
def pinL (l : Nat) (D : Nat) : AO := .pin [.ref 9001 0, .ref 9002 0] [.pointer (some ⟨l, 0, none⟩), .pointer (some ⟨D, 0, none⟩)]
/-- How a round may end. -/
def roundQ (C : Ctx) (n : Nat) (o' : Obj) (pI : AO) (l D : Nat) (KN : List (Nat × AO) → Prop) (KX : Code → List (Nat × AO) → Prop) : Exit → St → Prop
  | .normal, σ => ∃ m', Wk C n σ ⟨[], (9005, pI) :: (9001, .blk o') :: m'⟩ ∧ lookO m' 9004 = some (pinL l D) ∧ lookO m' 9005 = none ∧ KN m'
  | .ret, σ => ∃ m', Wk C n σ ⟨[], (9005, pI) :: (9001, .blk o') :: m'⟩ ∧ lookO m' 9004 = some (pinL l D) ∧ lookO m' 9005 = none ∧ KX .ret m'
  | .exit id, σ => ∃ m', Wk C n σ ⟨[], (9005, pI) :: (9001, .blk o') :: m'⟩ ∧ lookO m' 9004 = some (pinL l D) ∧ lookO m' 9005 = none ∧ KX (.exit id) m'
  | _, _ => False

theorem mu_sem (s : List (Nat × AV)) (m : List (Nat × AO)) (i : Nat) : (St.sem ⟨s, m⟩).μ i = lookO m i := rfl
theorem pinL_loc {C : Ctx} {n : Nat} {w0 : World} {H : Heap} {L : Loc} {S : SS} {a : Act} {w : World} (hr : Rep C n w0 H L S a w) {l D : Nat} (h : S.μ 9004 = some (pinL l D)) {o : Obj} (ho : S.μ 9001 = some (.blk o)) :
    L 9001 = some (.pointer (some ⟨l, 0, none⟩)) ∧ w.heap[l]? = some o ∧ w0.heap.size ≤ l ∧ H l = none := by
  obtain ⟨_, hp⟩ := hr.objs 9004 _ h
  simp only [RepL] at hp
  obtain ⟨v, r, e, hv, _⟩ := hp
  cases e
  simp only [RepV] at hv
  obtain ⟨x, g, h1, h2, h3⟩ := hv
  obtain ⟨g', k1, k2, k3, k4⟩ := hr.objs 9001 _ ho
  rw [h1] at k1
  cases k1
  simp [ownB] at h2 h3
  subst h2
  subst h3
  exact ⟨h1, k2, k3, k4⟩
theorem lookO_hd (i : Nat) (o : AO) (m : List (Nat × AO)) : lookO ((i, o) :: m) i = some o := by simp [lookO]

/-- The record is rewritten. -/
theorem Rep.putRec {C : Ctx} {n : Nat} {w0 : World} {H : Heap} {L : Loc} {s : List (Nat × AV)} {m : List (Nat × AO)} {a : Act} {w : World} {o : Obj} {l D : Nat} (hr : Rep C n w0 H L (St.sem ⟨s, m⟩) a w) (h1 : lookO m 9001 = some (.blk o)) (h4 : lookO m 9004 = some (pinL l D)) (o' : Obj) (m' : List (Nat × AO))
    (hm : ∀ i, lookO m' i = if i = 9001 then some (.blk o') else lookO m i) : Rep C n w0 H L (St.sem ⟨s, m'⟩) a (w.putObj l o') := by
  obtain ⟨hl, hh, hB, hH⟩ := pinL_loc hr h4 h1
  have hlt := (Array.getElem?_eq_some_iff.1 hh).1
  have hw := hr.wrote (ob' := .blk o') h1 hl rfl (w' := w.putObj l o') (fun k hk => World.putObj_heap_other hk) ⟨rfl, rfl, rfl, by simp, fun k hk => World.putObj_heap_other (by omega)⟩ ⟨l, hl, World.putObj_heap_same hlt, hB, hH⟩
  have e : (St.sem ⟨s, m'⟩) = { ρ := (St.sem ⟨s, m⟩).ρ, μ := fun i => if i = 9001 then some (.blk o') else (St.sem ⟨s, m⟩).μ i } := by
    unfold St.sem
    congr 1
    funext i
    exact hm i
  rw [e]
  exact hw

theorem nod_look : ∀ {so : List (Nat × AV)}, nodB (so.map (·.1)) = true → ∀ p ∈ so, look so p.1 = p.2
  | [], _, p, hp => by cases hp
  | (i, v) :: r, h, p, hp => by
    simp only [List.map_cons, nodB, Bool.and_eq_true] at h
    simp only [look]
    rcases List.mem_cons.1 hp with e | e
    · subst e; simp
    · have h1 := List.all_eq_true.1 h.1 p.1 (List.mem_map_of_mem e)
      simp only [Bool.not_eq_true'] at h1
      rw [h1]
      exact nod_look h.2 p e
theorem marks_nil {C : Ctx} (h : C.marks = []) : { C with marks := [] } = C := by cases C; simp at h; subst h; rfl
/-- A frame told over a list of objects. -/
theorem Rep.frameS {C : Ctx} {n n' : Nat} {w0 : World} {H : Heap} {L : Loc} {S : SS} {a a' : Act} {w : World} (h : Rep C n w0 H L S a w) (mk : List Deferred) (hs : a'.tmps.size = n') (hd : a'.defers = mk) {s : List (Nat × AV)} (hρ : ∀ i, RepV H (look s i) L (a'.tmps.getD i undef))
    {m : List (Nat × AO)} (hm : ∀ i o, lookO m i = some o → S.μ i = some o) : Rep { C with marks := mk } n' w0 H L (St.sem ⟨s, m⟩) a' w := (h.frame mk hs hd hρ).fewer hm

/-- A call of yield, out of the round's walk. -/
theorem yldAt_of_round {C : Ctx} (hmk : C.marks = []) {nI n : Nat} {l D D' : Nat} {as : List AV} {sI so : List (Nat × AV)} {m : List (Nat × AO)} {fn : FuncId} {tmps : Array Value} {ps : Array Tmp} {assign body : Code} {KN : List (Nat × AO) → Prop} {KX : Code → List (Nat × AO) → Prop}
    (hn : tmps.size = n) (hps : ∀ p ∈ ps.toList, p < n) (hl : as.length = ps.toList.length) (hcl : closedL as = true) (hnd : nodB (sI.map (·.1)) = true) (h3 : lookO m 9003 = some (pinA so tmps)) (h4 : lookO m 9004 = some (pinL l D')) (hfr : St.freshB ⟨sI, (9001, .blk (.loop (lrec fn tmps ps assign body D .ready none))) :: m⟩ 9005 = true)
    (hbody : ∀ us : List Value, awpRound C n assign body (.loop (lrec fn tmps ps assign body D .ready none)) (.loop (lrec fn tmps ps assign body D .busy none)) (pinL l D') (roundQ C n (.loop (lrec fn tmps ps assign body D .busy none)) (.pin (valsOf sI) us) l D' KN KX)
      ⟨parS ps.toList as so, (9005, .pin (valsOf sI) us) :: (9001, .blk (.loop (lrec fn tmps ps assign body D .ready none))) :: m⟩) :
    YldAt C nI l as ⟨sI, (9001, .blk (.loop (lrec fn tmps ps assign body D .ready none))) :: m⟩ fun b σ' =>
      (b = true ∧ ∃ m', σ' = ⟨sI, (9001, .blk (.loop (lrec fn tmps ps assign body D .ready none))) :: m'⟩ ∧ KN m') ∨ (b = false ∧ ∃ c m', σ' = ⟨sI, (9001, .blk (.loop (lrec fn tmps ps assign body D .done (some c)))) :: m'⟩ ∧ KX c m') := by
  intro w0 H L a w vals hr hv
  have hlv := hv.length
  have hfs := fresh_sem hfr
  have hall : sI.all (fun p => !p.2.has 9005) = true := by
    simp only [St.freshB, Bool.and_eq_true] at hfr
    exact hfr.1
  obtain ⟨hl1, hh, hB, hH⟩ := pinL_loc hr (l := l) (D := D') (by rw [mu_sem]; exact h4) (o := .loop (lrec fn tmps ps assign body D .ready none)) (by rw [mu_sem]; exact lookO_hd _ _ _)
  refine ⟨fn, _, assign, body, run_yield hh (by show vals.toArray.size = ps.size; simp; rw [hlv, hl]; simp), ?_⟩
  have hpin := hr.pinned (id := 9005) hfs (cs := valsOf sI) (us := sI.map fun p => a.tmps.getD p.1 undef) (slots_rep (t := fun i => a.tmps.getD i undef) fun p hp => by
    have := hr.slot p.1
    rw [show (St.sem ⟨sI, _⟩).ρ p.1 = look sI p.1 from rfl, nod_look hnd p hp] at this
    exact this) (valsOf_has hall)
  have hμ3 : (St.sem ⟨sI, (9001, .blk (.loop (lrec fn tmps ps assign body D .ready none))) :: m⟩).μ 9003 = some (pinA so tmps) := by
    rw [mu_sem]
    exact h3
  have hso := (hpin.objs 9003 (pinA so tmps) (by simpa using hμ3)).2
  have hpar := par_rep ps.toList as vals so tmps (RepL.closed (L' := L.set 9005 (some (.tuple #[]))) hcl hv) (fun p hp => by rw [hn]; exact hps p hp) hl (slots_of (t := fun i => tmps.getD i undef) hso)
  have hzip : (Array.foldl (fun (t : Array Value) (p : Nat × Value) => t.setIfInBounds p.1 p.2) tmps (ps.zip vals.toArray)) = (ps.toList.zip vals).foldl (fun (t : Array Value) (p : Nat × Value) => t.setIfInBounds p.1 p.2) tmps := by
    rw [← Array.foldl_toList, Array.toList_zip]
  have hrd := hpin.frameS (n' := n) (a' := { tmps := (ps.toList.zip vals).foldl (fun (t : Array Value) (p : Nat × Value) => t.setIfInBounds p.1 p.2) tmps, defers := [] }) [] (by rw [foldl_size]; exact hn) rfl hpar
    (m := (9005, .pin (valsOf sI) (sI.map fun p => a.tmps.getD p.1 undef)) :: (9001, .blk (.loop (lrec fn tmps ps assign body D .ready none))) :: m) (fun i o hi => by
      show (if i = 9005 then _ else (St.sem ⟨sI, _⟩).μ i) = _
      rw [mu_sem]
      rw [lookO] at hi
      by_cases h5 : i = 9005
      · subst h5; simpa using hi
      · rw [beq_ne (fun e => h5 e.symm)] at hi; simpa [h5] using hi)
  rw [marks_nil hmk] at hrd
  refine roundIn_of_wpIn trivial ?_
  show assign.wpIn (fen (some l)) 0 C.P _ { tmps := (Array.foldl (fun (t : Array Value) (p : Nat × Value) => t.setIfInBounds p.1 p.2) tmps (ps.zip vals.toArray)), defers := [] } w
  rw [hzip]
  refine wpIn_mono (hbody _ w0 H _ _ w hrd (some l)) ?_
  rintro e a1 w1 ⟨σ1, H1, L1, hx1, hr1, hq⟩
  cases e with
  | normal =>
    obtain ⟨s1, m1, hwk, h41, hb⟩ := hq
    obtain ⟨H2, L2, hx2, hr2⟩ := hwk w0 H1 L1 a1 w1 hr1
    have h42 : lookO ((9001, AO.blk (.loop (lrec fn tmps ps assign body D .ready none))) :: m1) 9004 = some (pinL l D') := by exact h41
    obtain ⟨hl2, hh2, hB2, hH2⟩ := pinL_loc hr2 (by rw [mu_sem]; exact h42) (o := .loop (lrec fn tmps ps assign body D .ready none)) (by rw [mu_sem]; exact lookO_hd _ _ _)
    refine ⟨_, run_beginRound hh2 rfl, ?_⟩
    have hr3 := hr2.putRec (lookO_hd _ _ _) h42 (.loop (lrec fn tmps ps assign body D .busy none)) ((9001, .blk (.loop (lrec fn tmps ps assign body D .busy none))) :: m1) (fun i => by
      by_cases h : i = 9001
      · subst h; simp [lookO]
      · simp [lookO, beq_ne (fun e => h e.symm), h])
    refine wpIn_mono (hb w0 H2 L2 a1 _ hr3 (some l)) ?_
    rintro e a2 w2 ⟨σ2, H3, L3, hx3, hr4, hq⟩
    have fin : ∀ (jump : Option Code) (m' : List (Nat × AO)), Wk C n σ2 ⟨[], (9005, .pin (valsOf sI) (sI.map fun p => a.tmps.getD p.1 undef)) :: (9001, .blk (.loop (lrec fn tmps ps assign body D .busy none))) :: m'⟩ → lookO m' 9004 = some (pinL l D') → lookO m' 9005 = none →
        ∃ w4 H4 L4, (Instr.endRound l jump).run C.P w2 = .ok (.bool jump.isNone) w4 ∧ Ext w0.heap.size H H4 ∧ Rep C nI w0 H4 L4 (St.sem ⟨sI, (9001, .blk (.loop (lrec fn tmps ps assign body D (if jump.isNone then .ready else .done) jump))) :: m'⟩) a w4 := by
      intro jump m' hwk2 h43 h45
      obtain ⟨H4, L4, hx4, hr5⟩ := hwk2 w0 H3 L3 a2 w2 hr4
      have h44 : lookO ((9005, AO.pin (valsOf sI) (sI.map fun p => a.tmps.getD p.1 undef)) :: (9001, .blk (.loop (lrec fn tmps ps assign body D .busy none))) :: m') 9004 = some (pinL l D') := by exact h43
      obtain ⟨hl5, hh5, hB5, hH5⟩ := pinL_loc hr5 (by rw [mu_sem]; exact h44) (o := .loop (lrec fn tmps ps assign body D .busy none)) (by rw [mu_sem]; rfl)
      have hback := (hr5.objs 9005 (.pin (valsOf sI) (sI.map fun p => a.tmps.getD p.1 undef)) (by rw [mu_sem]; exact lookO_hd _ _ _)).2
      have hr6 := hr5.frameS (n' := nI) (a' := a) C.marks hr.size hr.defers (slots_of (t := fun i => a.tmps.getD i undef) hback) (m := (9001, .blk (.loop (lrec fn tmps ps assign body D .busy none))) :: m') (fun i o hi => by
        rw [mu_sem]
        by_cases h5 : i = 9005
        · subst h5
          have hdup : lookO m' 9005 = some o := hi
          rw [h45] at hdup
          cases hdup
        · rw [lookO, beq_ne (fun e => h5 e.symm)]; exact hi)
      have hr7 := Rep.putRec (C := C) hr6 (lookO_hd _ _ _) (l := l) (D := D') (by exact h43) (.loop (lrec fn tmps ps assign body D (if jump.isNone then .ready else .done) jump)) ((9001, .blk (.loop (lrec fn tmps ps assign body D (if jump.isNone then .ready else .done) jump))) :: m') (fun i => by
        by_cases h : i = 9001
        · subst h; simp [lookO]
        · simp [lookO, beq_ne (fun e => h e.symm), h])
      exact ⟨_, H4, L4, run_endRound jump hh5, (((hx1.trans hx2).trans hx3).trans hx4), hr7⟩
    cases e with
    | normal =>
      obtain ⟨m', hwk2, h43, h45, hK⟩ := hq
      obtain ⟨w4, H4, L4, hrun, hx4, hr7⟩ := fin none m' hwk2 h43 h45
      exact ⟨_, w4, hrun, true, _, H4, L4, rfl, hx4, hr7, .inl ⟨rfl, m', rfl, hK⟩⟩
    | ret =>
      obtain ⟨m', hwk2, h43, h45, hK⟩ := hq
      obtain ⟨w4, H4, L4, hrun, hx4, hr7⟩ := fin (some .ret) m' hwk2 h43 h45
      exact ⟨_, w4, hrun, false, _, H4, L4, rfl, hx4, hr7, .inr ⟨rfl, .ret, m', rfl, hK⟩⟩
    | exit id =>
      obtain ⟨m', hwk2, h43, h45, hK⟩ := hq
      obtain ⟨w4, H4, L4, hrun, hx4, hr7⟩ := fin (some (.exit id)) m' hwk2 h43 h45
      exact ⟨_, w4, hrun, false, _, H4, L4, rfl, hx4, hr7, .inr ⟨rfl, .exit id, m', rfl, hK⟩⟩
    | goto t => exact hq.elim
    | panic c => exact hq.elim
    | outgrown => exact hq.elim
  | exit id => exact hq.elim
  | goto t => exact hq.elim
  | ret => exact hq.elim
  | panic c => exact hq.elim
  | outgrown => exact hq.elim

/-! ### The iterator's region that calls yield -/
theorem lex_prefix {C : Ctx} {n : Nat} {w0 : World} {ops : Array Oper} {Q : Exit → Act → World → Prop} (r : Option Nat) (rest : List Nat) : ∀ (os : List Oper) (i : Nat) (S S' : SS) (es : List Eff) (H : Heap) (L : Loc) (a : Act) (w : World), (ops.toList.drop i).take os.length = os → Trace C ops S os es S' → Rep C n w0 H L S a w → (∀ o ∈ os, ∀ d, o.dst = some d → d < n) →
    (∀ a' w' H' L', Ext w0.heap.size H H' → Rep C n w0 H' L' S' a' w' → wpOpsIn (fen r) 0 C.P ops Q rest a' w') → wpOpsIn (fen r) 0 C.P ops Q (List.range' i os.length ++ rest) a w
  | [], i, S, S', es, H, L, a, w, hos, ht, hr, hd, hQ => by
    cases ht
    simp only [List.length_nil, List.range'_zero, List.nil_append]
    exact hQ a w H L (Ext.refl _ _) hr
  | o :: os, i, S, S', es, H, L, a, w, hos, ht, hr, hd, hQ => by
    cases ht with
    | cons h hf t =>
      simp only [List.length_cons, List.range'_succ, List.cons_append]
      rw [wpOpsIn_cons]
      have hi : ops[i]? = some o := by
        have := congrArg (·[0]?) hos
        simp only [List.length_cons, List.getElem?_take, List.getElem?_drop, Nat.add_zero, List.getElem?_cons_zero, Array.getElem?_toList] at this
        simpa using this
      have hos' : (ops.toList.drop (i + 1)).take os.length = os := by
        have := congrArg (List.drop 1) hos
        simpa [List.drop_take] using this
      refine h.sound hi hr (hd o (by simp)) hf (fun a' w' H' L' hx hr' => ?_) r
      exact lex_prefix r rest os (i + 1) _ S' _ H' L' a' w' hos' t hr' (fun o' ho' => hd o' (by simp [ho'])) fun a2 w2 H2 L2 hx2 hr2 => hQ a2 w2 H2 L2 (hx.trans hx2) hr2

theorem awp_regionY {C : Ctx} {n : Nat} {Q : Exit → St → Prop} {σ : St} {id : Nat} {ops : Array Oper} (os : List Oper) (d : Nat) {y : Operand} {args : Array Operand} {tys : Array TypeId} {t : TypeId} {p : String} {af : Array Edge} (l : Nat) (as : List AV)
    (hops : ops.toList = os ++ [⟨some d, .call { callee := .value y, args := args, argTypes := tys }, t, p, af, none⟩]) (hd : dstsB n ops.toList = true)
    (h : aops C ops σ os fun _ σ' => σ'.ev y = .lit (.func (.yield l) #[] #[]) ∧ args.toList.map σ'.sem.ev = as ∧ YldAt C n l as σ' fun b σ2 => Q .normal ⟨(d, .lit (.bool b)) :: σ2.slots, σ2.objs⟩) :
    awp C n (.region id ops false) Q σ := fun w0 H L a w hr r => by
  obtain ⟨es, σ', ht, hy, has, hY⟩ := h
  have hdst := dsts_spec hd
  refine wpIn_region ?_
  rw [List.range_eq_range']
  have hsz : ops.size = os.length + 1 := by
    have := congrArg List.length hops
    simpa using this
  rw [hsz, List.range'_concat]
  refine lex_prefix (C := C) (n := n) (w0 := w0) r _ os 0 σ.sem σ'.sem es H L a w (by rw [hops]; simp) ht hr (fun o ho => hdst o (by rw [hops]; simp [ho])) fun a' w' H' L' hx hr' => ?_
  simp only [Nat.zero_add, Nat.one_mul]
  rw [wpOpsIn_cons]
  have hi : ops[os.length]? = some ⟨some d, .call { callee := .value y, args := args, argTypes := tys }, t, p, af, none⟩ := by
    rw [← Array.getElem?_toList, hops]
    simp
  unfold wpOpIn
  simp only [hi]
  rw [if_pos (by simp [Region.wanted])]
  have hyv := hr'.ev y
  rw [ev_sem, hy] at hyv
  simp only [RepV] at hyv
  have hargs : ∀ (xs : List Operand), RepL H' (xs.map σ'.sem.ev) L' (xs.map a'.eval) := by
    intro xs
    induction xs with
    | nil => simp only [List.map_nil, RepL]
    | cons x xs ih => simp only [List.map_cons, RepL]; exact ⟨_, _, rfl, hr'.ev x, ih⟩
  have hal := hargs args.toList
  rw [has] at hal
  obtain ⟨fn, tmps, assign, body, hrun, hround⟩ := hY w0 H' L' a' w' _ hr' hal
  have e1 : (List.map a'.eval args.toList).toArray = args.map a'.eval := by apply Array.ext'; rw [Array.toList_map]
  rw [e1] at hrun
  have hex : (execOp a'.eval ⟨some d, .call { callee := .value y, args := args, argTypes := tys }, t, p, af, none⟩).run C.P w' = .ok (.round l fn tmps assign body) w' := by
    unfold execOp
    simp only [resolve, hyv, Deferred.ofValue, invoke, Sem.run_bind, Sem.run_pure, Result.andThen_ok, Array.empty_append, Array.append_empty, hrun]
  refine ⟨fun _ _ => trivial, ?_⟩
  rw [semAt_of hex (fun d hd => by cases hd)]
  refine ⟨fen_depth, RoundIn.mono (F := fen r) hround ?_⟩
  rintro e w2 ⟨b, σ2, H2, L2, rfl, hx2, hr2, hq⟩
  have hdn : d < n := hdst ⟨some d, .call { callee := .value y, args := args, argTypes := tys }, t, p, af, none⟩ (by rw [hops]; simp) d rfl
  have hv := hr2.val (dst := some d) (fun d' hd' => by cases hd'; exact hdn) (x := .lit (.bool b)) (v := .bool b) (by simp [RepV]) [] []
  rw [← sem_app] at hv
  exact ⟨_, H2, L2, hx.trans hx2, hv, hq⟩

/-! ### The outer function -/
def mark (D : Nat) : Deferred := { target := .collected D, args := #[] }
def awpT (C : Ctx) (n : Nat) (mk : List Deferred) (c : Code) (Q : List Deferred → Exit → St → Prop) (σ : St) : Prop :=
  ∀ w0 H L a w, Rep { C with marks := mk } n w0 H L σ.sem a w → c.wpIn (fen none) 0 C.P (fun e a w => ∃ mk', Post { C with marks := mk' } n w0 H (Q mk') e a w) a w
def thenKT (K : List Deferred → St → Prop) (Q : List Deferred → Exit → St → Prop) : List Deferred → Exit → St → Prop
  | mk, .normal, σ => K mk σ
  | mk, e, σ => Q mk e σ
def inBlkT (id : Nat) (Q : List Deferred → Exit → St → Prop) : List Deferred → Exit → St → Prop
  | mk, .exit i, σ => bif Nat.beq i id then Q mk .normal σ else Q mk (.exit i) σ
  | mk, e, σ => Q mk e σ
section
variable {C : Ctx} {n : Nat} {mk : List Deferred} {Q : List Deferred → Exit → St → Prop} {σ : St}
theorem awpT_lift {c : Code} (h : awp { C with marks := mk } n c (Q mk) σ) : awpT C n mk c Q σ := fun w0 H L a w hr => wpIn_mono (h w0 H L a w hr none) fun e a w hp => ⟨mk, hp⟩
theorem awpT_wk {c : Code} {σ' : St} (hw : Wk { C with marks := mk } n σ σ') (h : awpT C n mk c Q σ') : awpT C n mk c Q σ := fun w0 H L a w hr => by
  obtain ⟨H', L', hx, hr'⟩ := hw w0 H L a w hr
  exact wpIn_mono (h w0 H' L' a w hr') fun e a w ⟨mk', hp⟩ => ⟨mk', hp.ext hx⟩
theorem awpT_seq {x y : Code} (h : ∀ K : List Deferred → St → Prop, (∀ mk σ, awpT C n mk y Q σ → K mk σ) → awpT C n mk x (thenKT K Q) σ) : awpT C n mk (.seq x y) Q σ := fun w0 H L a w hr => by
  refine wpIn_seq (wpIn_mono (h (fun mk σ => awpT C n mk y Q σ) (fun _ _ h => h) w0 H L a w hr) fun e a w hp => ?_)
  obtain ⟨mk', σ', H', L', hx, hr', hq⟩ := hp
  cases e with
  | normal => exact wpIn_mono (hq w0 H' L' a w hr') fun e a w ⟨mk2, hp⟩ => ⟨mk2, hp.ext hx⟩
  | _ => exact ⟨mk', σ', H', L', hx, hr', hq⟩
theorem awpT_cond {c : Operand} {x y : Code} {b : Bool} (hc : σ.ev c = .lit (.bool b)) (ht : b = true → awpT C n mk x Q σ) (hf : b = false → awpT C n mk y Q σ) : awpT C n mk (.cond c x y) Q σ := fun w0 H L a w hr => by
  have he := hr.ev c
  rw [ev_sem, hc] at he
  simp only [RepV] at he
  exact wpIn_cond_split he (fun h => ht h w0 H L a w hr) (fun h => hf h w0 H L a w hr)
theorem awpT_block {id : Nat} {c : Code} (h : awpT C n mk c (inBlkT id Q) σ) : awpT C n mk (.block id c) Q σ := fun w0 H L a w hr => by
  refine wpIn_block (wpIn_mono (h w0 H L a w hr) fun e a w hp => ?_)
  obtain ⟨mk', σ', H', L', hx, hr', hq⟩ := hp
  cases e with
  | exit i =>
    simp only [Exit.inBlock]
    simp only [inBlkT] at hq
    by_cases hi : i = id
    · subst hi
      simp at hq
      simp only [if_true]
      exact ⟨mk', σ', H', L', hx, hr', hq⟩
    · simp only [beq_ne hi, cond_false] at hq
      simp only [hi, if_false]
      exact ⟨mk', σ', H', L', hx, hr', hq⟩
  | _ => exact ⟨mk', σ', H', L', hx, hr', hq⟩
end

/-- Where the jump that a round has left leads. -/
def jumpQ (Q : Exit → St → Prop) (σ : St) : Option Code → Prop
  | none => Q .normal σ
  | some .ret => Q .ret σ
  | some (.exit id) => Q (.exit id) σ
  | _ => False

theorem Rep.blkS {C : Ctx} {n : Nat} {w0 : World} {H : Heap} {L : Loc} {s : List (Nat × AV)} {m : List (Nat × AO)} {a : Act} {w : World} (hr : Rep C n w0 H L (St.sem ⟨s, m⟩) a w) {id : Nat} (hf : St.freshB ⟨s, m⟩ id = true) (o : Obj) :
    Rep C n w0 H (L.set id (some (.pointer (some ⟨w.heap.size, 0, none⟩)))) (St.sem ⟨s, (id, .blk o) :: m⟩) a (w.alloc o) := by
  have hnone : H w.heap.size = none := by
    cases hh : H w.heap.size with
    | none => rfl
    | some ob => have := (Array.getElem?_eq_some_iff.1 (hr.heap _ _ hh)).1; omega
  have hnew := hr.new (id := id) (ob := .blk o) (x := .pointer (some ⟨w.heap.size, 0, none⟩)) (w' := w.alloc o) (fresh_sem hf) (alloc_below w _) (fun g hg => by simp [ownB] at hg; omega)
    ⟨w.heap.size, by simp [Loc.set], by rw [heap_alloc_new], hr.below.size, hnone⟩
    (fun b ob hb => by rw [(alloc_below w _).block b (Array.getElem?_eq_some_iff.1 (hr.heap _ _ hb)).1]; exact hr.heap _ _ hb)
  exact hnew.fewer fun i o' hi => by
    have hi' : lookO ((id, .blk o) :: m) i = some o' := hi
    simp only [lookO] at hi'
    by_cases h : i = id
    · subst h; simpa using hi'
    · rw [beq_ne (fun e => h e.symm)] at hi'; simp only [h, if_false]; exact hi'
theorem Rep.pinS {C : Ctx} {n : Nat} {w0 : World} {H : Heap} {L : Loc} {s : List (Nat × AV)} {m : List (Nat × AO)} {a : Act} {w : World} (hr : Rep C n w0 H L (St.sem ⟨s, m⟩) a w) {id : Nat} (hf : St.freshB ⟨s, m⟩ id = true) {cs : List AV} {us : List Value} (hp : RepL H cs L us) (hn : hasL id cs = false) :
    Rep C n w0 H (L.set id (some (.tuple #[]))) (St.sem ⟨s, (id, .pin cs us) :: m⟩) a w :=
  (hr.pinned (fresh_sem hf) hp hn).fewer fun i o' hi => by
    have hi' : lookO ((id, .pin cs us) :: m) i = some o' := hi
    simp only [lookO] at hi'
    by_cases h : i = id
    · subst h; simpa using hi'
    · rw [beq_ne (fun e => h e.symm)] at hi'; simp only [h, if_false]; exact hi'
theorem run_callFunc {P : Program} {f : FuncId} (hc : callable P f = true) (args : Array Value) (w : World) : (callFunc f args).run P w = .ok (.enter f args) w := by
  obtain ⟨hb, hnm⟩ := callable_spec hc
  cases hf : P.funcs[f]? with
  | none => simp [hf] at hb
  | some fn =>
    have hb' : fn.body.isNone = false := by
      have : fn.body.isSome = true := by simpa [hf] using hb
      cases hbb : fn.body <;> simp_all
    have hn' : (fn.name == "runtime.NumGoroutine") = false := by simpa [hf] using hnm
    simp only [callFunc, Sem.run_bind, Sem.run_pure, Result.andThen_ok, run_program, hf, hn', hb', Bool.false_eq_true, if_false]
theorem RepL.cons {H : Heap} {L : Loc} {x : AV} {v : Value} {xs : List AV} {vs : List Value} (h : RepV H x L v) (k : RepL H xs L vs) : RepL H (x :: xs) L (v :: vs) := by
  simp only [RepL]
  exact ⟨_, _, rfl, h, k⟩
theorem clo_has {σ : St} {id : Nat} {gf : FuncId} {caps : List AV} (g : Operand) (hf : σ.sem.Fresh id) (hg : σ.ev g = .clo gf caps) : hasL id caps = false := by
  have := ev_has hf g
  rw [ev_sem, hg] at this
  exact this
theorem freshB_cons {s : List (Nat × AV)} {m : List (Nat × AO)} {id i : Nat} {o : AO} (h : St.freshB ⟨s, m⟩ id = true) (hi : Nat.beq i id = false) (ho : o.has id = false) : St.freshB ⟨s, (i, o) :: m⟩ id = true := by
  simp only [St.freshB, Bool.and_eq_true, List.all_cons, hi, ho, Bool.not_false] at h ⊢
  exact ⟨h.1, ⟨trivial, trivial⟩, h.2⟩

theorem awpT_range {C : Ctx} (hmk : C.marks = []) {n : Nat} {Q : List Deferred → Exit → St → Prop} {σ : St} {g : Operand} {ps : Array Tmp} {assign body : Code} {gf : FuncId} {caps : List AV} {fnI : Func} {cI : Code} {so : List (Nat × AV)}
    (hs : subS σ so) (hf : C.P.funcs[gf]? = some fnI) (hb : fnI.body = some cI) (hcall : callable C.P gf = true) (hnI : caps.length + 1 ≤ fnI.ntmps) (hres : fnI.results = #[]) (hg : σ.ev g = .clo gf caps) (hnd : nodB (so.map (·.1)) = true)
    (hfr : (σ.freshB 9001 && σ.freshB 9002 && σ.freshB 9003 && σ.freshB 9004) = true) (hso : so.all (fun p => !p.2.has 9003 && !p.2.has 9004) = true)
    (X : (fn : FuncId) → (tmps : Array Value) → (D l : Nat) → Option Code → List (Nat × AO) → Prop)
    (hit : ∀ (fn : FuncId) (tmps : Array Value) (D l : Nat), tmps.size = n → awp C fnI.ntmps cI (fun e σ2 => (e = .normal ∨ e = .ret) ∧ ∃ st pe m', st ≠ LoopState.busy ∧ X fn tmps D l pe m' ∧ lookO m' 9001 = none ∧ lookO m' 9003 = none ∧
        Wk C fnI.ntmps σ2 ⟨[], (9001, .blk (.loop (lrec fn tmps ps assign body D st pe))) :: (9002, .blk (.deferred (some []))) :: (9003, pinA so tmps) :: (9004, pinL l D) :: m'⟩)
      ⟨ent 0 (.lit (.func (.yield l) #[] #[]) :: caps), (9004, pinL l D) :: (9003, pinA so tmps) :: (9001, .blk (.loop (lrec fn tmps ps assign body D .ready none))) :: (9002, .blk (.deferred (some []))) :: σ.objs⟩)
    (hQ : ∀ (fn : FuncId) (tmps : Array Value) (D l : Nat) pe m', X fn tmps D l pe m' → jumpQ (Q [mark D]) ⟨so, (9002, .blk (.deferred (some []))) :: (9004, pinL l D) :: m'⟩ pe) : awpT C n [] (.rangeFunc g ps assign body) Q σ := by
  intro w0 H L a w hr
  rw [marks_nil hmk] at hr
  have hdef : a.defers = [] := hr.defers.trans hmk
  simp only [Bool.and_eq_true] at hfr
  obtain ⟨⟨⟨f1, f2⟩, f3⟩, f4⟩ := hfr
  obtain ⟨s, m⟩ := σ
  have hgv := hr.ev g
  rw [ev_sem, hg] at hgv
  simp only [RepV] at hgv
  obtain ⟨vs, hgv, hcaps⟩ := hgv
  have hc1 : hasL 9001 caps = false := clo_has g (fresh_sem f1) hg
  have hc2 : hasL 9002 caps = false := clo_has g (fresh_sem f2) hg
  have hc3 : hasL 9003 caps = false := clo_has g (fresh_sem f3) hg
  have hc4 : hasL 9004 caps = false := clo_has g (fresh_sem f4) hg
  have hcaps4 := RepL.setL (y := some (.tuple #[])) hc4 (RepL.setL (y := some (.tuple #[])) hc3 (RepL.setL (y := some (.pointer (some ⟨w.heap.size + 1, 0, none⟩))) hc1 (RepL.setL (y := some (.pointer (some ⟨w.heap.size, 0, none⟩))) hc2 hcaps)))
  refine wpIn_rangeFunc ?_
  intro fn hfn
  show ∃ l mark w₁ d w₁' f args w₂, (Instr.enterLoop fn a.tmps ps assign body none).run C.P w = _ ∧ _
  -- the two blocks, and the ghosts
  have r1 := hr.blkS f2 (.deferred (some []))
  have r2 := r1.blkS (freshB_cons f1 rfl rfl) (.loop (lrec fn a.tmps ps assign body w.heap.size .ready none))
  rw [World.size_alloc] at r2
  have hslot2 : ∀ p ∈ so, RepV H p.2 ((L.set 9002 (some (.pointer (some ⟨w.heap.size, 0, none⟩)))).set 9001 (some (.pointer (some ⟨w.heap.size + 1, 0, none⟩)))) (a.tmps.getD p.1 undef) := fun p hp => by
    have h1 := r2.slot p.1
    rw [show (St.sem ⟨s, _⟩).ρ p.1 = look s p.1 from rfl] at h1
    rw [show look s p.1 = p.2 from subS_mem hs hp] at h1
    exact h1
  have hno3 : so.all (fun p => !p.2.has 9003) = true := List.all_eq_true.2 fun p hp => by
    have := List.all_eq_true.1 hso p hp
    simp only [Bool.and_eq_true] at this
    exact this.1
  have hno4 : so.all (fun p => !p.2.has 9004) = true := List.all_eq_true.2 fun p hp => by
    have := List.all_eq_true.1 hso p hp
    simp only [Bool.and_eq_true] at this
    exact this.2
  have r3 := r2.pinS (id := 9003) (freshB_cons (freshB_cons f3 rfl rfl) rfl rfl) (slots_rep (t := fun i => a.tmps.getD i undef) hslot2) (valsOf_has hno3)
  have r4 := r3.pinS (id := 9004) (cs := [.ref 9001 0, .ref 9002 0]) (us := [.pointer (some ⟨w.heap.size + 1, 0, none⟩), .pointer (some ⟨w.heap.size, 0, none⟩)])
    (freshB_cons (freshB_cons (freshB_cons f4 rfl rfl) rfl rfl) rfl (valsOf_has hno4)) (by simp [RepL, RepV, Loc.set, ownB]) rfl
  obtain ⟨W1, hW1⟩ : ∃ W1, W1 = (w.alloc (.deferred (some []))).alloc (.loop (lrec fn a.tmps ps assign body w.heap.size .ready none)) := ⟨_, rfl⟩
  rw [← hW1] at r4
  refine ⟨w.heap.size + 1, [mark w.heap.size], W1, { target := .fn (.func gf) vs.toArray, args := #[.func (.yield (w.heap.size + 1)) #[] #[]] }, W1, gf, #[.func (.yield (w.heap.size + 1)) #[] #[]] ++ vs.toArray, W1, ?_, ?_, ?_, ?_, fen_depth, ?_⟩
  · rw [hW1]
    exact run_enterLoop_outer fn a.tmps ps assign body
  · simp only [resolve, hgv]
    simp [go_sem]
  · intro f' hf'
    trivial
  · simp only [invoke]
    exact run_callFunc hcall _ _
  · -- the iterator
    have hcl := RepL.cons (x := .lit (.func (.yield (w.heap.size + 1)) #[] #[])) (v := .func (.yield (w.heap.size + 1)) #[] #[]) (by simp [RepV]) hcaps4
    obtain ⟨e1, e2⟩ := entry_rep (C := C) (n := fnI.ntmps) (w0 := w) (by simpa using hnI) hcl
    have ea : (Value.func (.yield (w.heap.size + 1)) #[] #[] :: vs).toArray = #[.func (.yield (w.heap.size + 1)) #[] #[]] ++ vs.toArray := by simp
    rw [ea] at e1 e2
    refine callsIn_of_wp hf hb trivial ?_
    have r5 := r4.frameS (n' := fnI.ntmps) (a' := { tmps := #[.func (.yield (w.heap.size + 1)) #[] #[]] ++ vs.toArray ++ Array.replicate (fnI.ntmps - (#[Value.func (.yield (w.heap.size + 1)) #[] #[]] ++ vs.toArray).size) undef, defers := [] }) C.marks e1 hmk.symm e2 (fun i o h => h)
    refine wpIn_mono (hit fn a.tmps w.heap.size (w.heap.size + 1) hr.size w0 H _ _ W1 r5 none) ?_
    rintro e a2 w2 ⟨σ2, H2, L2, hx2, hr2, he, st, pe, m', hst, hX, hn1, hn3, hwk⟩
    obtain ⟨H3, L3, hx3, hr3⟩ := hwk w0 H2 L2 a2 w2 hr2
    have hback := (hr3.objs 9003 (pinA so a.tmps) rfl).2
    obtain ⟨hl1, hh1, hB1, hH1⟩ := pinL_loc hr3 (l := w.heap.size + 1) (D := w.heap.size) rfl (o := .loop (lrec fn a.tmps ps assign body w.heap.size st pe)) rfl
    have r6 := Rep.putRec hr3 rfl (l := w.heap.size + 1) (D := w.heap.size) rfl (.loop (lrec fn a.tmps ps assign body w.heap.size .exhausted pe)) ((9001, .blk (.loop (lrec fn a.tmps ps assign body w.heap.size .exhausted pe))) :: (9002, .blk (.deferred (some []))) :: (9003, pinA so a.tmps) :: (9004, pinL (w.heap.size + 1) w.heap.size) :: m') (fun i => by
      by_cases h : i = 9001
      · subst h; rfl
      · simp [lookO, beq_ne (fun e => h e.symm), h])
    have r7 := r6.frameS (n' := n) (a' := { tmps := a.tmps, defers := [mark w.heap.size] }) [mark w.heap.size] hr.size rfl (slots_of (t := fun i => a.tmps.getD i undef) hback) (m := (9002, .blk (.deferred (some []))) :: (9004, pinL (w.heap.size + 1) w.heap.size) :: m') (fun i o hi => by
      rw [mu_sem]
      by_cases h1 : i = 9001
      · subst h1
        have : lookO m' 9001 = some o := hi
        rw [hn1] at this
        cases this
      · by_cases h3 : i = 9003
        · subst h3
          have : lookO m' 9003 = some o := hi
          rw [hn3] at this
          cases this
        · rw [lookO, beq_ne (fun e => h1 e.symm), cond_false]
          rw [lookO] at hi ⊢
          cases hb2 : Nat.beq 9002 i with
          | true => rw [hb2] at hi; exact hi
          | false =>
            rw [hb2] at hi
            simp only [cond_false] at hi ⊢
            rw [lookO, beq_ne (fun e => h3 e.symm), cond_false]
            exact hi)
    have hend := run_endLoop (P := C.P) hh1 (by simpa [lrec] using hst)
    have hJ := hQ fn a.tmps w.heap.size (w.heap.size + 1) pe m' hX
    have fin : rangePost (fen none) 0 C.P (w.heap.size + 1) (fun e a w => ∃ mk', Post { C with marks := mk' } n w0 H (Q mk') e a w) { a with defers := [mark w.heap.size] ++ a.defers } (.returned (.tuple #[])) w2 := by
      refine ⟨pe, _, hend, ?_⟩
      rw [hdef]
      have hx : Ext w0.heap.size H H3 := hx2.trans hx3
      cases pe with
      | none => exact ⟨[mark w.heap.size], _, H3, _, hx, r7, hJ⟩
      | some c =>
        cases c with
        | ret => exact wpIn_ret ⟨[mark w.heap.size], _, H3, _, hx, r7, hJ⟩
        | exit id => exact wpIn_exit ⟨[mark w.heap.size], _, H3, _, hx, r7, hJ⟩
        | _ => exact hJ.elim
    have hres0 : (results fnI a2.tmps).run C.P w2 = .ok (.tuple #[]) w2 := by
      have hm : (fnI.results.mapM (resOne a2.tmps)).run C.P w2 = .ok #[] w2 := by
        rw [hres, Array.mapM_eq_mapM_toList]
        simp
      show (do let vs ← fnI.results.mapM (resOne a2.tmps); pure (if h : vs.size = 1 then vs[0] else .tuple vs) : Sem Value).run C.P w2 = _
      simp only [Sem.run_bind, hm, Result.andThen_ok, Sem.run_pure]
      rfl
    rcases he with rfl | rfl
    · exact ⟨hr2.defers.trans hmk, _, hres0, fin⟩
    · exact ⟨hr2.defers.trans hmk, _, hres0, fin⟩

/-- How a function ends that holds a range over a function. -/
def postT (C : Ctx) (fn : Func) (res : AV) : List Deferred → Exit → St → Prop
  | [], e, σ => postF C fn res e σ
  | [d], .ret, σ => ∃ vs D l, d = mark D ∧ ResOk C σ fn.results.toList vs ∧ closedL vs = true ∧ res = packR vs ∧ lookO σ.objs 9002 = some (.blk (.deferred (some []))) ∧ lookO σ.objs 9004 = some (pinL l D)
  | [d], .normal, σ => ∃ vs D l, d = mark D ∧ ResOk C σ fn.results.toList vs ∧ closedL vs = true ∧ res = packR vs ∧ lookO σ.objs 9002 = some (.blk (.deferred (some []))) ∧ lookO σ.objs 9004 = some (pinL l D)
  | _, _, _ => False
theorem res_ends {C : Ctx} {fn : Func} {σ : St} {n : Nat} {w0 w : World} {H : Heap} {L : Loc} {a : Act} (hr : Rep C n w0 H L σ.sem a w) {vs : List AV} (hres : ResOk C σ fn.results.toList vs) (hcl : closedL vs = true) :
    ∃ v, (results fn a.tmps).run C.P w = .ok v w ∧ RepV H (packR vs) noLoc v := by
  obtain ⟨us, hrun, hrl⟩ := res_run hr _ _ hres
  have hlu := hrl.length
  refine ⟨if h : us.toArray.size = 1 then us.toArray[0] else .tuple us.toArray, ?_, ?_⟩
  · show (do let vs ← fn.results.mapM (resOne a.tmps); pure (if h : vs.size = 1 then vs[0] else .tuple vs) : Sem Value).run C.P w = _
    have hm : (fn.results.mapM (resOne a.tmps)).run C.P w = .ok us.toArray w := by
      rw [Array.mapM_eq_mapM_toList]
      simp [hrun]
    simp only [Sem.run_bind, hm, Result.andThen_ok, Sem.run_pure]
  · have hrc := RepL.closed (L' := noLoc) hcl hrl
    match vs, us, hrc, hlu with
    | [v], [u], hrc, _ =>
      simp only [packR]
      simp only [RepL] at hrc
      obtain ⟨x, r, e, hx, _⟩ := hrc
      cases e
      simpa using hx
    | [], us, hrc, hlu =>
      have : us = [] := List.eq_nil_of_length_eq_zero (by simpa using hlu)
      subst this
      simp only [packR, RepV]
      exact ⟨[], by simp, hrc⟩
    | v1 :: v2 :: vs, us, hrc, hlu =>
      simp only [packR, RepV]
      refine ⟨us, ?_, hrc⟩
      rw [dif_neg (by simp at hlu ⊢; omega)]
theorem ecalls_of_awpT {C : Ctx} {f : FuncId} {fn : Func} {c : Code} {args : List AV} {res : AV} (hf : C.P.funcs[f]? = some fn) (hb : fn.body = some c) (hn : args.length ≤ fn.ntmps) (h : awpT C fn.ntmps [] c (postT C fn res) (entry args)) (hmk : C.marks = [] := by rfl) : ECalls C f args res := by
  intro H L vals w hG hH hr
  have hrep := entry_Rep hmk hG hH hn hr
  rw [← marks_nil hmk] at hrep
  refine (callsIn_wide (n := 0)).1 ?_
  refine callsIn_of_wp_marks hf hb trivial ?_
  refine wpIn_mono (h w H L _ w hrep) fun e a' w' hp => ?_
  obtain ⟨mk', σ', H', L', hx, hr', hq⟩ := hp
  have fin0 : (∃ vs, ResOk C σ' fn.results.toList vs ∧ closedL vs = true ∧ res = packR vs) → mk' = [] → LeavesInM (fen none) 0 C.P fn a'.tmps (fun e w' => ∃ H' v, e = .returned v ∧ RepV H' res noLoc v ∧ Ext w.heap.size H H' ∧ (∀ b o, H' b = some o → w'.heap[b]? = some o) ∧ Below w.heap.size w w') a'.defers .returning w' := by
    rintro ⟨vs, hres, hcl, rfl⟩ rfl
    rw [marks_nil hmk] at hr'
    obtain ⟨v, hrun, hv⟩ := res_ends hr' hres hcl
    rw [hr'.defers, hmk]
    exact ⟨v, hrun, H', v, rfl, hv, hx, hr'.heap, hr'.below⟩
  have fin1 : ∀ d, mk' = [d] → (∃ vs D l, d = mark D ∧ ResOk C σ' fn.results.toList vs ∧ closedL vs = true ∧ res = packR vs ∧ lookO σ'.objs 9002 = some (.blk (.deferred (some []))) ∧ lookO σ'.objs 9004 = some (pinL l D)) →
      LeavesInM (fen none) 0 C.P fn a'.tmps (fun e w' => ∃ H' v, e = .returned v ∧ RepV H' res noLoc v ∧ Ext w.heap.size H H' ∧ (∀ b o, H' b = some o → w'.heap[b]? = some o) ∧ Below w.heap.size w w') a'.defers .returning w' := by
    rintro d rfl ⟨vs, D, l, rfl, hres, hcl, rfl, h2, h4⟩
    obtain ⟨_, hp⟩ := hr'.objs 9004 _ h4
    simp only [RepL] at hp
    obtain ⟨v1, r1, e1, _, v2, r2, e2, hv2, _⟩ := hp
    subst e2
    cases e1
    simp only [RepV] at hv2
    obtain ⟨x, g, k1, k2, k3⟩ := hv2
    obtain ⟨g', b1, b2, b3, b4⟩ := hr'.objs 9002 _ h2
    rw [k1] at b1
    cases b1
    simp [ownB] at k2 k3
    subst k2
    subst k3
    have hlt := (Array.getElem?_eq_some_iff.1 b2).1
    have hw := hr'.wrote (ob' := .blk (.deferred none)) h2 k1 rfl (w' := w'.putObj D (.deferred none)) (fun k hk => World.putObj_heap_other hk) ⟨rfl, rfl, rfl, by simp, fun k hk => World.putObj_heap_other (by omega)⟩ ⟨D, k1, World.putObj_heap_same hlt, b3, b4⟩
    have hdf : a'.defers = [mark D] := hr'.defers
    have e9 : { ρ := σ'.sem.ρ, μ := fun i => if i = 9002 then some (AO.blk (.deferred none)) else σ'.sem.μ i } = (St.sem ⟨σ'.slots, (9002, .blk (.deferred none)) :: σ'.objs⟩) := by
      unfold St.sem
      congr 1
      funext i
      simp only [lookO]
      by_cases h : i = 9002
      · subst h; rfl
      · simp [h, beq_ne (fun e => h e.symm)]
    rw [e9] at hw
    have hres' : ResOk { C with marks := [mark D] } ⟨σ'.slots, (9002, .blk (.deferred none)) :: σ'.objs⟩ fn.results.toList vs := by
      have : ∀ (rs : List ResultVar) (vs : List AV), ResOk C σ' rs vs → ResOk { C with marks := [mark D] } ⟨σ'.slots, (9002, .blk (.deferred none)) :: σ'.objs⟩ rs vs := by
        intro rs
        induction rs with
        | nil => intro vs h; cases vs <;> exact h
        | cons r rs ih =>
          intro vs h
          cases vs with
          | nil => cases r <;> exact h.elim
          | cons v vs =>
            cases r with
            | tmp t => exact ⟨h.1, ih _ h.2⟩
            | cell t ty =>
              obtain ⟨⟨id, ob, a1, a2, a3, a4⟩, h5⟩ := h
              refine ⟨⟨id, ob, a1, ?_, a3, a4⟩, ih _ h5⟩
              simp only [lookO]
              by_cases hid : id = 9002
              · subst hid
                rw [h2] at a2
                cases a2
                simp [AO.isIter] at a3
              · rw [beq_ne (fun e => hid e.symm)]; exact a2
      exact this _ _ hres
    obtain ⟨v, hrun, hv⟩ := res_ends hw hres' hcl
    rw [hdf]
    refine ⟨by simp, .inl ⟨D, _, rfl, run_takeDeferred b2, ?_⟩⟩
    exact ⟨v, hrun, H', v, rfl, hv, hx, hw.heap, hw.below⟩
  match mk', e, hq with
  | [], .normal, hq => exact fin0 hq rfl
  | [], .ret, hq => exact fin0 hq rfl
  | [d], .ret, hq => exact fin1 d rfl hq
  | [d], .normal, hq => exact fin1 d rfl hq
  | [], .exit _, hq => exact hq.elim
  | [], .goto _, hq => exact hq.elim
  | [], .panic _, hq => exact hq.elim
  | [], .outgrown, hq => exact hq.elim
  | [_], .exit _, hq => exact hq.elim
  | [_], .goto _, hq => exact hq.elim
  | [_], .panic _, hq => exact hq.elim
  | [_], .outgrown, hq => exact hq.elim
  | _ :: _ :: _, .normal, hq => exact hq.elim
  | _ :: _ :: _, .ret, hq => exact hq.elim
  | _ :: _ :: _, .exit _, hq => exact hq.elim
  | _ :: _ :: _, .goto _, hq => exact hq.elim
  | _ :: _ :: _, .panic _, hq => exact hq.elim
  | _ :: _ :: _, .outgrown, hq => exact hq.elim

/-- A nil slice in a variable is an own row without elements. -/
theorem Wk.nilIn {C : Ctx} {n : Nat} {σ : St} {i id ty e sz : Nat} (hs : lookO σ.objs i = some (.var ty [.lit (.slice none 0 0)])) (hf : σ.freshB id = true) (hsz : 0 < sz) : Wk C n σ ⟨σ.slots, (id, .row e sz []) :: (i, .var ty [.row id]) :: σ.objs⟩ := fun w0 H L a w hr => by
  have hne : i ≠ id := fun e => by
    subst e
    have := (fresh_sem hf).1
    rw [show σ.sem.μ i = lookO σ.objs i from rfl, hs] at this
    cases this
  have hnew := hr.new (id := id) (ob := .row e sz []) (x := .slice none 0 0) (w' := w) (fresh_sem hf) (Below.refl _ _) (fun g hg => by simp [ownB] at hg)
    ⟨.slice none 0 0, [], 0, by simp [Loc.set], by simp, World.ownsRow_nil w _ e sz, by simp [RepL], by simp, hsz, by simp, fun g hg => by simp [ownB] at hg⟩ hr.heap
  have conv : ∀ j o, lookO ((id, .row e sz []) :: (i, .var ty [.row id]) :: σ.objs) j = some o → (j = i ∧ o = .var ty [.row id]) ∨ (j ≠ i ∧ (if j = id then some (AO.row e sz []) else σ.sem.μ j) = some o) := fun j o ho => by
    simp only [lookO] at ho
    by_cases h1 : j = id
    · subst h1
      simp at ho
      exact .inr ⟨fun e => hne e.symm, by simp [ho]⟩
    · rw [beq_ne (fun e => h1 e.symm)] at ho
      by_cases h2 : j = i
      · subst h2
        simp at ho
        exact .inl ⟨rfl, ho.symm⟩
      · rw [beq_ne (fun e => h2 e.symm)] at ho
        exact .inr ⟨h2, by simp only [h1, if_false]; exact ho⟩
  have hi0 := hnew.objs i (.var ty [.lit (.slice none 0 0)]) (by simp only [hne, if_false]; exact hs)
  refine ⟨H, L.set id (some (.slice none 0 0)), Ext.refl _ _, ⟨hnew.glob, hnew.heap, hnew.size, hnew.slot, fun j o ho => ?_, fun j k o o' g x x' hjk hj hk => ?_, hnew.below, hnew.defers⟩⟩
  · rcases conv j o ho with ⟨rfl, rfl⟩ | ⟨h1, h2⟩
    · obtain ⟨g, vs, a1, a2, a3, a4, a5, a6⟩ := hi0
      refine ⟨g, vs, a1, a2, ?_, a4, a5, a6⟩
      simp only [RepL, RepV] at a3 ⊢
      obtain ⟨v, r, rfl, rfl, rfl⟩ := a3
      exact ⟨_, [], rfl, ⟨by simp [Loc.set], rfl⟩, rfl⟩
    · exact hnew.objs j o h2
  · have conv' : ∀ j o, lookO ((id, .row e sz []) :: (i, .var ty [.row id]) :: σ.objs) j = some o → ∃ o', (if j = id then some (AO.row e sz []) else σ.sem.μ j) = some o' := fun j o ho => by
      rcases conv j o ho with ⟨rfl, rfl⟩ | ⟨h1, h2⟩
      · exact ⟨_, by simp only [hne, if_false]; exact hs⟩
      · exact ⟨_, h2⟩
    obtain ⟨o1, h1⟩ := conv' j o hj
    obtain ⟨o2, h2⟩ := conv' k o' hk
    exact hnew.apart j k o1 o2 g x x' hjk h1 h2
theorem postT_ret0 {C : Ctx} {fn : Func} {res : AV} {σ : St} (h : ∃ vs, ResOk C σ fn.results.toList vs ∧ closedL vs = true ∧ res = packR vs) : postT C fn res [] .ret σ := h
theorem postT_nrm0 {C : Ctx} {fn : Func} {res : AV} {σ : St} (h : ∃ vs, ResOk C σ fn.results.toList vs ∧ closedL vs = true ∧ res = packR vs) : postT C fn res [] .normal σ := h
theorem postT_ret {C : Ctx} {fn : Func} {res : AV} {σ : St} {D l : Nat} (h : ∃ vs, ResOk C σ fn.results.toList vs ∧ closedL vs = true ∧ res = packR vs) (h2 : lookO σ.objs 9002 = some (.blk (.deferred (some [])))) (h4 : lookO σ.objs 9004 = some (pinL l D)) : postT C fn res [mark D] .ret σ := by
  obtain ⟨vs, h1, h3, h5⟩ := h
  exact ⟨vs, D, l, rfl, h1, h3, h5, h2, h4⟩
theorem postT_nrm {C : Ctx} {fn : Func} {res : AV} {σ : St} {D l : Nat} (h : ∃ vs, ResOk C σ fn.results.toList vs ∧ closedL vs = true ∧ res = packR vs) (h2 : lookO σ.objs 9002 = some (.blk (.deferred (some [])))) (h4 : lookO σ.objs 9004 = some (pinL l D)) : postT C fn res [mark D] .normal σ := by
  obtain ⟨vs, h1, h3, h5⟩ := h
  exact ⟨vs, D, l, rfl, h1, h3, h5, h2, h4⟩
theorem Wk.subT {C : Ctx} {n : Nat} {s s' : List (Nat × AV)} {m m' : List (Nat × AO)} (hs : subS ⟨s, m⟩ s') (ho : ∀ i o, lookO m' i = some o → lookO m i = some o) : Wk C n ⟨s, m⟩ ⟨s', m'⟩ := fun w0 H L a w hr => by
  have hr' := hr.fewer (μ := lookO m') (fun i o hi => ho i o hi)
  refine ⟨H, L, Ext.refl _ _, ⟨hr'.glob, hr'.heap, hr'.size, fun i => ?_, hr'.objs, hr'.apart, hr'.below, hr'.defers⟩⟩
  rcases look_mem (l := s') (i := i) with h | h
  · show RepV H (look s' i) L _
    rw [h]
    simp [RepV]
  · have := hr.slot i
    show RepV H (look s' i) L _
    rw [← subS_mem hs h]
    exact this
/-- A region of the iterator that ends with a call of yield. -/
theorem awp_regionYL {C : Ctx} {n : Nat} {Q : Exit → St → Prop} {σ : St} {id : Nat} {ops : Array Oper} (d : Nat) (y : Operand) (args : Array Operand) (tys : Array TypeId) (t : TypeId) (p : String) (af : Array Edge) (l : Nat) (as : List AV)
    (hops : ops.toList.getLast? = some ⟨some d, .call { callee := .value y, args := args, argTypes := tys }, t, p, af, none⟩) (hd : dstsB n ops.toList = true)
    (h : aops C ops σ ops.toList.dropLast fun _ σ' => σ'.ev y = .lit (.func (.yield l) #[] #[]) ∧ args.toList.map σ'.sem.ev = as ∧ YldAt C n l as σ' fun b σ2 => Q .normal ⟨(d, .lit (.bool b)) :: σ2.slots, σ2.objs⟩) :
    awp C n (.region id ops false) Q σ := by
  obtain ⟨ys, hys⟩ := List.getLast?_eq_some_iff.1 hops
  exact awp_regionY ops.toList.dropLast d (y := y) (args := args) (tys := tys) (t := t) (p := p) (af := af) l as (by rw [hys]; simp) hd h
end Go.Ab
