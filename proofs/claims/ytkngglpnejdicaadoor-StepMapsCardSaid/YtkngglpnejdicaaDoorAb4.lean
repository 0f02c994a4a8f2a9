/- Each operation's step is sound (the cases). Over any program. -/
import Derived.Test.YtkngglpnejdicaaDoorAb3
set_option linter.unusedVariables false
set_option linter.unusedSimpArgs false
namespace Go.Ab
open Go.RowKit

section
variable {C : Ctx} {n : Nat} {w0 : World} {H : Heap} {L : Loc} {S : SS} {a : Act} {w : World} {o : Oper} {Q : Exit → Act → World → Prop}

/-- What is to be shown of a step. -/
def Sound (C : Ctx) (n : Nat) (w0 : World) (H : Heap) (S : SS) (a : Act) (w : World) (o : Oper) (Q : Exit → Act → World → Prop) (e : Eff) : Prop :=
  o.wpA C.P a w (fun a' w' => ∃ H' L', Ext w0.heap.size H H' ∧ Rep C n w0 H' L' (S.app o.dst e) a' w') Q

theorem sound_val (hr : Rep C n w0 H L S a w) (hd : ∀ d, o.dst = some d → d < n) {x : AV} {v : Value} (hv : RepV H x L v) (us fr : List Nat) (h : (execOp a.eval o).run C.P w = .ok (.value v) w) :
    Sound C n w0 H S a w o Q { val := x, use := us, fresh := fr } :=
  wp_value h ⟨H, L, Ext.refl _ _, hr.val hd hv us fr⟩

theorem exec_load {P : Program} {t : TypeId} {x : Operand} (h : o.op = .load t x) {v : Value} {b : Addr} (hx : a.eval x = .pointer (some b)) (hl : (loadVar t b).run P w = .ok v w) : (execOp a.eval o).run P w = .ok (.value v) w := by
  simp [execOp, h, hx, Instr.loadAt, Instr.sureAddr, hl]

theorem run_loadVar_agg {P : Program} {t : TypeId} {k : Nat} (ht : tyAgg P t = some k) {b : Addr} {vs : List Value} (hl : vs.length = k) (hc : ∀ j v, vs[j]? = some v → w.cell? (b.add j) = some v) : (loadVar t b).run P w = .ok (.agg vs.toArray) w := by
  obtain ⟨h1, h2⟩ := isAgg_agg ht w
  subst hl
  simp [loadVar, Sem.run_bind, h1, h2, run_loadCells_list w b vs hc]
theorem run_loadVar_sc {P : Program} {t : TypeId} (ht : tySc P t = true) {b : Addr} {v : Value} (hc : w.cell? b = some v) : (loadVar t b).run P w = .ok v w := by
  simp [loadVar, Sem.run_bind, isAgg_sc ht w, run_load, hc]

/-- The cells of an object, in its block. -/
theorem RepO.cellsAt {B : Nat} {id : Nat} {ob : AO} (h : RepO H B w L id ob) (hni : ob.isIter = false) {x : Value} {g : Nat} (hl : L id = some x) (hg : ownB x = some g) :
    ∃ vs arr t, w.heap[g]? = some (.cells arr t (0, 0)) ∧ RepL H ob.cells L vs ∧ (∀ u ∈ vs, u.oneCell' = true) ∧ (∀ (j : Nat) (u : Value), vs[j]? = some u → arr[j]? = some u) := by
  cases ob with
  | var t cs =>
    obtain ⟨g', vs, hl', hh, hr, h1, _⟩ := h
    rw [hl] at hl'
    cases hl'
    simp [ownB] at hg
    subst hg
    exact ⟨vs, _, t, hh, hr, h1, fun j u hu => by simpa using hu⟩
  | row e sz cs =>
    obtain ⟨v, vs, m, hl', hlen, hown, hr, h1, _⟩ := h
    rw [hl] at hl'
    cases hl'
    rcases hown.2 with ⟨rfl, _⟩ | ⟨g', cap, cur, rfl, _, hh, _, _, _, htake⟩
    · simp [ownB] at hg
    · simp [ownB] at hg
      subst hg
      refine ⟨vs, cur, e, hh, RepL.mono (Heap.le_refl _) (noLoc_le L) hr, h1, fun j u hu => ?_⟩
      rw [← htake, List.getElem?_take] at hu
      split at hu
      · simpa using hu
      · cases hu
  | blk o => simp [AO.isIter] at hni
  | pin _ _ => simp [AO.isIter] at hni

theorem cell_at {g off : Nat} {arr : Array Value} {t : TypeId} {fr : Nat × Nat} (hg : w.heap[g]? = some (.cells arr t fr)) (j : Nat) : w.cell? ((⟨g, off, none⟩ : Addr).add j) = arr[off + j]? := by
  rw [Addr.add_lit]
  simp [World.cell?, hg]

theorem mem_drop_take {vs : List Value} {off k : Nat} {p : Value → Prop} (h : ∀ u ∈ vs, p u) : ∀ u ∈ (vs.drop off).take k, p u := fun u hu => h u (List.mem_of_mem_drop (List.mem_of_mem_take hu))

theorem sound_loadA (hr : Rep C n w0 H L S a w) (hd : ∀ d, o.dst = some d → d < n) {t : TypeId} {x : Operand} {id off k : Nat} {ob : AO} (h : o.op = .load t x) (hx : S.ev x = .ref id off) (ho : S.μ id = some ob) (hni : ob.isIter = false) (ht : tyAgg C.P t = some k) (hk : off + k ≤ ob.cells.length) (us fr : List Nat) :
    Sound C n w0 H S a w o Q { val := .agg ((ob.cells.drop off).take k), use := us, fresh := fr } := by
  have he := hr.ev x
  rw [hx] at he
  simp only [RepV] at he
  obtain ⟨y, g, hl, hg, hv⟩ := he
  obtain ⟨vs, arr, ty, hh, hrl, h1, hcell⟩ := (hr.objs id ob ho).cellsAt hni hl hg
  have hlen := hrl.length
  refine sound_val hr hd (v := .agg ((vs.drop off).take k).toArray) ?_ us fr (exec_load h hv (run_loadVar_agg ht (by simp; omega) fun j v hj => ?_))
  · simp only [RepV]
    exact ⟨_, rfl, (hrl.drop off).take k, mem_drop_take h1⟩
  · rw [cell_at hh]
    rw [List.getElem?_take] at hj
    split at hj
    · rw [List.getElem?_drop] at hj
      exact hcell _ _ hj
    · cases hj

theorem sound_loadS (hr : Rep C n w0 H L S a w) (hd : ∀ d, o.dst = some d → d < n) {t : TypeId} {x : Operand} {id off : Nat} {ob : AO} {c : AV} (h : o.op = .load t x) (hx : S.ev x = .ref id off) (ho : S.μ id = some ob) (ht : tySc C.P t = true) (hk : ob.cells[off]? = some c) (us fr : List Nat) :
    Sound C n w0 H S a w o Q { val := c, use := us, fresh := fr } := by
  have he := hr.ev x
  rw [hx] at he
  simp only [RepV] at he
  obtain ⟨y, g, hl, hg, hv⟩ := he
  obtain ⟨vs, arr, ty, hh, hrl, h1, hcell⟩ := (hr.objs id ob ho).cellsAt (by cases ob <;> first | rfl | (simp [AO.cells] at hk)) hl hg
  obtain ⟨v, hv1, hv2⟩ := hrl.get hk
  refine sound_val hr hd hv2 us fr (exec_load h hv (run_loadVar_sc ht ?_))
  simp only [World.cell?, hh, Option.isSome_none, Bool.false_eq_true, if_false]
  exact hcell _ _ hv1

theorem sound_loadIA (hr : Rep C n w0 H L S a w) (hd : ∀ d, o.dst = some d → d < n) {t : TypeId} {x : Operand} {k : Nat} {cs : List AV} (h : o.op = .load t x) (hx : S.ev x = .ip cs) (ht : tyAgg C.P t = some k) (hk : k ≤ cs.length) (us fr : List Nat) :
    Sound C n w0 H S a w o Q { val := .agg (cs.take k), use := us, fresh := fr } := by
  have he := hr.ev x
  rw [hx] at he
  simp only [RepV] at he
  obtain ⟨b, off, arr, ty, fz, vs, hv, hb, hcell, hrl, h1⟩ := he
  have hlen := hrl.length
  refine sound_val hr hd (v := .agg (vs.take k).toArray) ?_ us fr (exec_load h hv (run_loadVar_agg ht (by simp; omega) fun j v hj => ?_))
  · simp only [RepV]
    exact ⟨_, rfl, RepL.mono (Heap.le_refl _) (noLoc_le L) (hrl.take k), fun u hu => h1 u (List.mem_of_mem_take hu)⟩
  · rw [cell_at (hr.heap _ _ hb)]
    rw [List.getElem?_take] at hj
    split at hj
    · exact hcell _ _ hj
    · cases hj

theorem sound_loadIS (hr : Rep C n w0 H L S a w) (hd : ∀ d, o.dst = some d → d < n) {t : TypeId} {x : Operand} {c : AV} {cs : List AV} (h : o.op = .load t x) (hx : S.ev x = .ip cs) (ht : tySc C.P t = true) (hk : cs[0]? = some c) (us fr : List Nat) :
    Sound C n w0 H S a w o Q { val := c, use := us, fresh := fr } := by
  have he := hr.ev x
  rw [hx] at he
  simp only [RepV] at he
  obtain ⟨b, off, arr, ty, fz, vs, hv, hb, hcell, hrl, h1⟩ := he
  obtain ⟨v, hv1, hv2⟩ := hrl.get hk
  refine sound_val hr hd (RepV.mono (Heap.le_refl _) (noLoc_le L) hv2) us fr (exec_load h hv (run_loadVar_sc ht ?_))
  simp only [World.cell?, hr.heap _ _ hb, Option.isSome_none, Bool.false_eq_true, if_false]
  exact hcell _ _ hv1

theorem sound_call (hr : Rep C n w0 H L S a w) (hd : ∀ d, o.dst = some d → d < n) {f : FuncId} {args : Array Operand} {tys : Array TypeId} {as : List AV} {res : AV} (h : o.op = .call { callee := .value (.func f), args := args, argTypes := tys }) (hb : ((C.P.funcs[f]?).map (·.body.isSome)) = some true)
    (hnm : ((C.P.funcs[f]?).map (·.name == "runtime.NumGoroutine")) = some false) (ha : args.toList.map S.ev = as) (hc : ECalls C f as res) (us fr : List Nat) : Sound C n w0 H S a w o Q { val := res, use := us, fresh := fr } := by
  have hargs : ∀ (l : List Operand), RepL H (l.map S.ev) L (l.map a.eval) := by
    intro l
    induction l with
    | nil => simp only [List.map_nil, RepL]
    | cons x l ih => simp only [List.map_cons, RepL]; exact ⟨_, _, rfl, hr.ev x, ih⟩
  have hl := hargs args.toList
  rw [ha] at hl
  have := hc H L _ w hr.glob hr.heap hl
  have e1 : (List.map a.eval args.toList).toArray = args.map a.eval := by apply Array.ext'; rw [Array.toList_map]
  rw [e1] at this
  refine wp_enter (run_call_fn h hb hnm) (this.mono ?_)
  rintro e w' ⟨H', v, rfl, hv, hx, hh, hbl⟩
  exact ⟨v, rfl, H', L, ⟨hx.1, fun b hb => hx.2 b (Nat.lt_of_lt_of_le hb hr.below.size)⟩, (hr.grow hx hh hbl).val hd (RepV.mono (Heap.le_refl _) (noLoc_le L) hv) us fr⟩

theorem alloc_below (w : World) (ob : Obj) : Below w.heap.size w (w.alloc ob) := (Below.refl _ _).alloc (Nat.le_refl _) ob

/-- A new variable. -/
theorem sound_var (hr : Rep C n w0 H L S a w) (hd : ∀ d, o.dst = some d → d < n) {id : Nat} (hf : S.Fresh id) {t : TypeId} {cs : List AV} {vs : List Value} (hrl : RepL H cs L vs) (h1 : ∀ u ∈ vs, u.oneCell' = true) (hn : hasL id cs = false)
    (h : (execOp a.eval o).run C.P w = .ok (.value (.pointer (some ⟨w.heap.size, 0, none⟩))) (w.alloc (.cells vs.toArray t))) : Sound C n w0 H S a w o Q { val := .ref id 0, upd := [(id, some (.var t cs))], fresh := [id] } := by
  refine wp_value h ⟨H, L.set id (some (.pointer (some ⟨w.heap.size, 0, none⟩))), Ext.refl _ _, ?_⟩
  have hnone : H w.heap.size = none := by
    cases hh : H w.heap.size with
    | none => rfl
    | some ob => have := (Array.getElem?_eq_some_iff.1 (hr.heap _ _ hh)).1; omega
  have hnew := hr.new (id := id) (ob := .var t cs) (x := .pointer (some ⟨w.heap.size, 0, none⟩)) (w' := w.alloc (.cells vs.toArray t)) hf (alloc_below w _) (fun g hg => by simp [ownB] at hg; omega)
    ⟨w.heap.size, vs, by simp [Loc.set], by rw [heap_alloc_new], RepL.setL hn hrl, h1, hr.below.size, hnone⟩
    (fun b ob hb => by rw [(alloc_below w _).block b (Array.getElem?_eq_some_iff.1 (hr.heap _ _ hb)).1]; exact hr.heap _ _ hb)
  have hv := hnew.val (dst := o.dst) hd (x := .ref id 0) (v := .pointer (some ⟨w.heap.size, 0, none⟩)) (by simp [RepV, Loc.set, ownB]) [] [id]
  have e : S.app o.dst { val := .ref id 0, upd := [(id, some (.var t cs))], fresh := [id] } = SS.app { ρ := S.ρ, μ := fun i => if i = id then some (.var t cs) else S.μ i } o.dst { val := .ref id 0, use := [], fresh := [id] } := by
    unfold SS.app
    congr 1
    funext i
    by_cases hi : i = id
    · subst hi; simp [lkU]
    · have : Nat.beq id i = false := by
        cases hb : Nat.beq id i with
        | false => rfl
        | true => exact absurd (Nat.eq_of_beq_eq_true hb).symm hi
      simp [lkU, hi, this]
  rw [e]
  exact hv

/-- A new row. -/
theorem sound_row (hr : Rep C n w0 H L S a w) (hd : ∀ d, o.dst = some d → d < n) {id : Nat} (hf : S.Fresh id) {e : TypeId} {sz m : Nat} {cs : List AV} {vs : List Value} {v : Value} {w' : World} (hrl : RepL H cs noLoc vs) (h1 : ∀ u ∈ vs, u.oneCell' = true) (hsz : 0 < sz)
    (hlen : cs.length = m * sz) (hmx : cs.length ≤ 140737488355328) (hown : w'.ownsRow w.heap.size e sz v m vs) (hb : Below w.heap.size w w') (hv1 : v.oneCell' = true)
    (h : (execOp a.eval o).run C.P w = .ok (.value v) w') : Sound C n w0 H S a w o Q { val := .row id, upd := [(id, some (.row e sz cs))], fresh := [id] } := by
  refine wp_value h ⟨H, L.set id (some v), Ext.refl _ _, ?_⟩
  have hown' : w'.ownsRow w0.heap.size e sz v m vs := by
    refine ⟨hown.1, hown.2.imp (fun h => h) fun ⟨g, cap, cur, r1, r2, r3⟩ => ⟨g, cap, cur, r1, Nat.le_trans hr.below.size r2, r3⟩⟩
  have hge : ∀ g, ownB v = some g → w.heap.size ≤ g := fun g hg => by
    rcases hown.2 with ⟨rfl, _⟩ | ⟨g', cap, cur, rfl, hB, _⟩
    · simp [ownB] at hg
    · simp [ownB] at hg; omega
  have hnew := hr.new (id := id) (ob := .row e sz cs) (x := v) (w' := w') hf hb hge
    ⟨v, vs, m, by simp [Loc.set], hlen, hown', hrl, h1, hsz, hmx, fun g hg => by
      cases hh : H g with
      | none => rfl
      | some ob => have := (Array.getElem?_eq_some_iff.1 (hr.heap _ _ hh)).1; have := hge g hg; omega⟩
    (fun b ob hb' => by rw [hb.block b (Array.getElem?_eq_some_iff.1 (hr.heap _ _ hb')).1]; exact hr.heap _ _ hb')
  have hv := hnew.val (dst := o.dst) hd (x := .row id) (v := v) (by simp [RepV, Loc.set, hv1]) [] [id]
  have e : S.app o.dst { val := .row id, upd := [(id, some (.row e sz cs))], fresh := [id] } = SS.app { ρ := S.ρ, μ := fun i => if i = id then some (.row e sz cs) else S.μ i } o.dst { val := .row id, use := [], fresh := [id] } := by
    unfold SS.app
    congr 1
    funext i
    by_cases hi : i = id
    · subst hi; simp [lkU]
    · have : Nat.beq id i = false := by
        cases hb : Nat.beq id i with
        | false => rfl
        | true => exact absurd (Nat.eq_of_beq_eq_true hb).symm hi
      simp [lkU, hi, this]
  rw [e]
  exact hv

/-! ### Stores -/
theorem over_rep {cs new : List AV} {vs us : List Value} {off : Nat} (h : RepL H cs L vs) (k : RepL H new L us) : RepL H (over cs off new) L (vs.take off ++ us ++ vs.drop (off + us.length)) := by
  unfold over
  rw [k.length]
  exact ((h.take off).app k).app (h.drop _)
theorem exec_store {P : Program} {t : TypeId} {x y : Operand} (h : o.op = .store t x y) {g off : Nat} {arr : Array Value} {ty : TypeId} {v : Value} {us : List Value} (hx : a.eval x = .pointer (some ⟨g, off, none⟩)) (hy : a.eval y = v) (hv : v.cells.toList = us)
    (ht : tySize P t = some us.length) (hg : w.heap[g]? = some (.cells arr ty (0, 0))) (hf : off + us.length ≤ arr.size) (h1 : ∀ u ∈ us, u.oneCell' = true) :
    (execOp a.eval o).run P w = .ok .skip (w.setRow g (arr.toList.take off ++ us ++ arr.toList.drop (off + us.length)).toArray) := by
  have hs := run_storeCells_at P g off ty us 0 arr w hg (by simpa using hf) h1
  have hz : v.cells.size = us.length := by rw [← hv]; simp
  simp only [Nat.add_zero] at hs
  simp [execOp, h, hx, hy, Instr.storeAt, Instr.sureAddr, storeVar, Sem.run_bind, run_sizeOf ht, hz, hv, hs]

/-- One own object's block is written. -/
theorem Rep.wrote (h : Rep C n w0 H L S a w) {id : Nat} {ob ob' : AO} {x : Value} {g : Nat} (ho : S.μ id = some ob) (hl : L id = some x) (hg : ownB x = some g) {w' : World} (hw : ∀ k, k ≠ g → w'.heap[k]? = w.heap[k]?) (hb : Below w0.heap.size w w')
    (ho' : RepO H w0.heap.size w' L id ob') : Rep C n w0 H L { ρ := S.ρ, μ := fun i => if i = id then some ob' else S.μ i } a w' where
  glob := h.glob
  heap b o hb' := by
    obtain ⟨y, hy, hb2⟩ := (h.objs id ob ho).block
    rw [hl] at hy
    cases hy
    have hne : b ≠ g := fun e => by subst e; rw [(hb2 b hg).2.2] at hb'; cases hb'
    rw [hw b hne]
    exact h.heap b o hb'
  size := h.size
  slot := h.slot
  objs i o hi := by
    by_cases hid : i = id
    · subst hid
      simp at hi
      subst hi
      exact ho'
    · simp [hid] at hi
      exact (h.objs i o hi).kept (Heap.le_refl _) (fun _ _ _ hn => hn) rfl (fun _ _ _ hr => hr) (fun y k hy hk => hw k fun e => by
        subst e
        exact h.apart i id o ob k y x hid hi ho hy hl hk hg)
  apart i j o o' k y y' hne hi hj := by
    by_cases h1 : i = id
    · subst h1
      have h2 : ¬ j = i := fun e => hne e.symm
      simp [h2] at hj
      exact h.apart i j ob o' k y y' hne ho hj
    · by_cases h2 : j = id
      · subst h2
        simp [h1] at hi
        exact h.apart i j o ob k y y' hne hi ho
      · simp [h1] at hi
        simp [h2] at hj
        exact h.apart i j o o' k y y' hne hi hj
  below := h.below.trans hb
  defers := h.defers

theorem setRow_below {w : World} {g : Nat} {cs : Array Value} {B : Nat} (h : B ≤ g) : Below B w (w.setRow g cs) := ⟨rfl, rfl, rfl, by simp, fun k hk => setRow_other w g k cs (by omega)⟩

theorem app_upd1 (S : SS) (dst : Option Nat) (x : AV) (id : Nat) (ob : AO) (us fr us' fr' : List Nat) : S.app dst { val := x, upd := [(id, some ob)], use := us, fresh := fr } = SS.app { ρ := S.ρ, μ := fun i => if i = id then some ob else S.μ i } dst { val := x, use := us', fresh := fr' } := by
  unfold SS.app
  congr 1
  funext i
  by_cases hi : i = id
  · subst hi; simp [lkU]
  · have : Nat.beq id i = false := by
      cases hb : Nat.beq id i with
      | false => rfl
      | true => exact absurd (Nat.eq_of_beq_eq_true hb).symm hi
    simp [lkU, hi, this]

theorem sound_store (hr : Rep C n w0 H L S a w) (hd : ∀ d, o.dst = some d → d < n) {t : TypeId} {x y : Operand} {id off : Nat} {ty : TypeId} {cs new : List AV} (h : o.op = .store t x y) (hx : S.ev x = .ref id off) (ho : S.μ id = some (.var ty cs)) (hy : cellsOf (S.ev y) = some new)
    (ht : tySize C.P t = some new.length) (hk : off + new.length ≤ cs.length) (us fr : List Nat) : Sound C n w0 H S a w o Q { val := .any, upd := [(id, some (.var ty (over cs off new)))], use := us, fresh := fr } := by
  have he := hr.ev x
  rw [hx] at he
  simp only [RepV] at he
  obtain ⟨x', g, hl, hg, hv⟩ := he
  obtain ⟨hn1, hn2⟩ := cellsOf_rep (hr.ev y) hy
  obtain ⟨nw, hnw⟩ : ∃ nw, (a.eval y).cells.toList = nw := ⟨_, rfl⟩
  rw [hnw] at hn1 hn2
  have hnl := hn1.length
  obtain ⟨g', vs, hl', hh, hrl, h1, hB, hHg⟩ := hr.objs id _ ho
  rw [hl] at hl'
  cases hl'
  simp [ownB] at hg
  subst hg
  have hlen := hrl.length
  have hex := exec_store (P := C.P) h hv rfl hnw (by rw [hnl]; exact ht) hh (by simp; omega) hn2
  simp only at hex
  refine wp_skipv hex ⟨H, L, Ext.refl _ _, ?_⟩
  have hw := hr.wrote (ob' := .var ty (over cs off new)) ho hl rfl (w' := w.setRow g' (vs.take off ++ nw ++ vs.drop (off + nw.length)).toArray) (fun k hk => setRow_other w g' k _ hk) (setRow_below hB)
    ⟨g', _, hl, setRow_heap w g' _ _ _ _ hh, over_rep hrl hn1, fun u hu => by
      rcases List.mem_append.1 hu with hu | hu
      · rcases List.mem_append.1 hu with hu | hu
        · exact h1 u (List.mem_of_mem_take hu)
        · exact hn2 u hu
      · exact h1 u (List.mem_of_mem_drop hu), hB, hHg⟩
  rw [app_upd1 S o.dst .any id _ us fr [] []]
  exact hw.val hd (by simp [RepV]) [] []

theorem sound_storeRow (hr : Rep C n w0 H L S a w) (hd : ∀ d, o.dst = some d → d < n) {t : TypeId} {x y : Operand} {id off : Nat} {e : TypeId} {sz : Nat} {cs new : List AV} (h : o.op = .store t x y) (hx : S.ev x = .ref id off) (ho : S.μ id = some (.row e sz cs)) (hy : cellsOf (S.ev y) = some new) (hcl : closedL new = true)
    (ht : tySize C.P t = some new.length) (hk : off + new.length ≤ cs.length) (us fr : List Nat) : Sound C n w0 H S a w o Q { val := .any, upd := [(id, some (.row e sz (over cs off new)))], use := us, fresh := fr } := by
  have he := hr.ev x
  rw [hx] at he
  simp only [RepV] at he
  obtain ⟨x', g, hl, hg, hv⟩ := he
  obtain ⟨hn1, hn2⟩ := cellsOf_rep (hr.ev y) hy
  obtain ⟨nw, hnw⟩ : ∃ nw, (a.eval y).cells.toList = nw := ⟨_, rfl⟩
  rw [hnw] at hn1 hn2
  have hnl := hn1.length
  obtain ⟨v, vs, m, hl', hlen, hown, hrl, h1, hsz, hmx, hHg⟩ := hr.objs id _ ho
  rw [hl] at hl'
  cases hl'
  have hvl := hrl.length
  rcases hown.2 with ⟨rfl, _⟩ | ⟨g', cap, cur, rfl, hB, hh, hnc, hcm, hcs, htake⟩
  · simp [ownB] at hg
  simp [ownB] at hg
  subst hg
  have hmle : m * sz ≤ cap * sz := Nat.mul_le_mul_right _ hnc
  have hex := exec_store (P := C.P) h hv rfl hnw (by rw [hnl]; exact ht) hh (by omega) hn2
  refine wp_skipv hex ⟨H, L, Ext.refl _ _, ?_⟩
  have hB' : w0.heap.size ≤ g' := hB
  have hov : (vs.take off ++ nw ++ vs.drop (off + nw.length)) = (cur.toList.take off ++ nw ++ cur.toList.drop (off + nw.length)).take (m * sz) := by
    subst htake
    rw [List.take_append, List.take_append]
    simp only [List.length_append, List.length_take, Array.length_toList, List.take_take, List.drop_take]
    rw [show min (m * sz) off = off by omega, show min off (m * sz) = off by omega, show min off cur.size = off by omega]
    rw [List.take_of_length_le (l := nw) (by omega)]
  have hw := hr.wrote (ob' := .row e sz (over cs off new)) ho hl rfl (w' := w.setRow g' (cur.toList.take off ++ nw ++ cur.toList.drop (off + nw.length)).toArray) (fun k hk => setRow_other w g' k _ hk) (setRow_below hB')
    ⟨.slice (some ⟨g', 0, none⟩) m cap, _, m, hl, by simp [over]; omega, ⟨by
      have := (over_rep (off := off) hrl (RepL.closed hcl hn1)).length
      rw [this]
      simp [over]
      omega, .inr ⟨g', cap, _, rfl, hB, setRow_heap w g' _ _ _ _ hh, hnc, hcm, by simp; omega, by rw [hov]⟩⟩, over_rep hrl (RepL.closed hcl hn1), fun u hu => by
      rcases List.mem_append.1 hu with hu | hu
      · rcases List.mem_append.1 hu with hu | hu
        · exact h1 u (List.mem_of_mem_take hu)
        · exact hn2 u hu
      · exact h1 u (List.mem_of_mem_drop hu), hsz, by simp [over]; omega, hHg⟩
  rw [app_upd1 S o.dst .any id _ us fr [] []]
  exact hw.val hd (by simp [RepV]) [] []
end
end Go.Ab
