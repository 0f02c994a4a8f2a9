/- The rules for memory, slices, structs and calls in the form in which proofs use them. Over any program. -/
import Derived.Test.YtkngglpnejdicaaDoorAb12
set_option linter.unusedVariables false
set_option linter.unusedSimpArgs false
namespace Go.Ab
open Go.RowKit

def setO : List (Nat × AO) → Nat → AO → List (Nat × AO)
  | [], _, _ => []
  | (j, v) :: r, i, o => bif Nat.beq j i then (j, o) :: r else (j, v) :: setO r i o
theorem lookO_set {l : List (Nat × AO)} {i : Nat} {ob : AO} (h : lookO l i = some ob) (o : AO) (j : Nat) : lookO (setO l i o) j = if j = i then some o else lookO l j := by
  induction l with
  | nil => simp [lookO] at h
  | cons p l ih =>
    obtain ⟨k, v⟩ := p
    simp only [lookO] at h
    simp only [setO]
    cases hb : Nat.beq k i with
    | true =>
      have := Nat.eq_of_beq_eq_true hb
      subst this
      simp only [cond_true, lookO]
      by_cases hj : j = k
      · simp [hj]
      · simp [hj, beq_ne (fun e => hj e.symm)]
    | false =>
      have hne := Nat.ne_of_beq_eq_false hb
      rw [hb] at h
      simp only [cond_false, lookO, ih h]
      cases hb2 : Nat.beq k j with
      | true => have := Nat.eq_of_beq_eq_true hb2; subst this; simp [hne]
      | false => simp
theorem lookO_none_of_fr {s : List (Nat × AV)} {m : List (Nat × AO)} {id : Nat} (h : St.freshB ⟨s, m⟩ id = true) : lookO m id = none := (fresh_sem h).1

def callable (P : Program) (f : FuncId) : Bool := match P.funcs[f]? with
  | some fn => fn.body.isSome && !(fn.name == "runtime.NumGoroutine")
  | none => false
theorem callable_spec {P : Program} {f : FuncId} (h : callable P f = true) : ((P.funcs[f]?).map (·.body.isSome)) = some true ∧ ((P.funcs[f]?).map (·.name == "runtime.NumGoroutine")) = some false := by
  unfold callable at h
  cases hf : P.funcs[f]? with
  | none => simp [hf] at h
  | some fn =>
    simp only [hf, Bool.and_eq_true, Bool.not_eq_true'] at h
    simp [h.1, h.2]

section
variable {C : Ctx} {ops : Array Oper} {s : List (Nat × AV)} {m : List (Nat × AO)} {os : List Oper} {K : List Eff → St → Prop} {d : Nat} {t : TypeId} {p : String} {af : Array Edge} {g : Option (Nat × Bool)}

theorem aops_sem {σ σ2 : St} (h : σ.sem = σ2.sem) (k : aops C ops σ2 os K) : aops C ops σ os K := by
  obtain ⟨es, σ', ht, hk⟩ := k
  exact ⟨es, σ', by rw [h]; exact ht, hk⟩
theorem o_mem {dst : Option Nat} {op : Op} {e : Eff} {s' : List (Nat × AV)} {m' : List (Nat × AO)} (hg : Gd ops s g) (hs : Step C (St.sem ⟨s, m⟩) ⟨dst, op, t, p, af, g⟩ e) (hf : e.fresh.all (St.freshB ⟨s, m⟩) = true)
    (he : (St.app ⟨s, m⟩ dst e).sem = St.sem ⟨s', m'⟩) (k : aops C ops ⟨s', m'⟩ os fun es σ' => K (e :: es) σ') : aops C ops ⟨s, m⟩ (⟨dst, op, t, p, af, g⟩ :: os) K := o_step hg hs hf (aops_sem he k)
theorem sem_new {id : Nat} {ob : AO} {v : AV} {us fr : List Nat} (h : St.freshB ⟨s, m⟩ id = true) : (St.app ⟨s, m⟩ (some d) { val := v, upd := [(id, some ob)], use := us, fresh := fr }).sem = St.sem ⟨(d, v) :: s, (id, ob) :: m⟩ := by
  unfold St.app St.sem
  congr 1
  funext j
  simp only [appU, lookO_put, lookO]
  by_cases hj : j = id
  · subst hj; simp
  · simp [hj, beq_ne (fun e => hj e.symm)]
theorem sem_set {dst : Option Nat} {id : Nat} {ob ob' : AO} {v : AV} {us fr : List Nat} {s' : List (Nat × AV)} (h : lookO m id = some ob) (hs : (match dst with | some d => (d, v) :: s | none => s) = s') : (St.app ⟨s, m⟩ dst { val := v, upd := [(id, some ob')], use := us, fresh := fr }).sem = St.sem ⟨s', setO m id ob'⟩ := by
  subst hs
  unfold St.app St.sem
  congr 1
  funext j
  simp only [appU, lookO_put, lookO_set h]

theorem o_lenSl {ty e : TypeId} {x : Operand} {sz : Nat} {cs : List AV} (n : Nat) (hg : Gd ops s g) (ht : C.P.underlying ty = some (.slice e)) (hx : ev s x = .sl sz cs) (hn : cs.length = n * sz) (k : aops C ops ⟨(d, .lit (.int .i64 (n : Int))) :: s, m⟩ os fun es σ' => K ({ val := .lit (.int .i64 (n : Int)) } :: es) σ') :
    aops C ops ⟨s, m⟩ (⟨some d, .call { callee := .builtin .len, args := #[x], argTypes := #[ty] }, t, p, af, g⟩ :: os) K := o_val hg (.lenSl ty e x sz n cs rfl ht (by rw [ev_st]; exact hx) hn) k
theorem o_lenRow {ty e e' : TypeId} {x : Operand} {id sz : Nat} {cs : List AV} (n : Nat) (hg : Gd ops s g) (ht : C.P.underlying ty = some (.slice e)) (hx : ev s x = .row id) (ho : lookO m id = some (.row e' sz cs)) (hn : cs.length = n * sz) (k : aops C ops ⟨(d, .lit (.int .i64 (n : Int))) :: s, m⟩ os fun es σ' => K ({ val := .lit (.int .i64 (n : Int)), use := [id] } :: es) σ') :
    aops C ops ⟨s, m⟩ (⟨some d, .call { callee := .builtin .len, args := #[x], argTypes := #[ty] }, t, p, af, g⟩ :: os) K := o_val hg (.lenRow ty e e' x id sz n cs rfl ht (by rw [ev_st]; exact hx) ho hn) k
theorem o_lenNil {ty e : TypeId} {x : Operand} (hg : Gd ops s g) (ht : C.P.underlying ty = some (.slice e)) (hx : ev s x = .lit (.slice none 0 0)) (k : aops C ops ⟨(d, .lit (.int .i64 0)) :: s, m⟩ os fun es σ' => K ({ val := .lit (.int .i64 0) } :: es) σ') :
    aops C ops ⟨s, m⟩ (⟨some d, .call { callee := .builtin .len, args := #[x], argTypes := #[ty] }, t, p, af, g⟩ :: os) K := o_pure1 (x := x) rfl hg hx (fun ρ h1 w => by
      simp [execOp, resolve, invoke, builtin, h1, Builtin.len_, run_underlying ht, goInt]) k
theorem o_call {f : FuncId} {args : Array Operand} {tys : Array TypeId} (as : List AV) (res : AV) (hg : Gd ops s g) (hb : callable C.P f = true) (ha : evs s args.toList = as) (hc : ECalls C f as res) (k : aops C ops ⟨(d, res) :: s, m⟩ os fun es σ' => K ({ val := res } :: es) σ') :
    aops C ops ⟨s, m⟩ (⟨some d, .call { callee := .value (.func f), args := args, argTypes := tys }, t, p, af, g⟩ :: os) K :=
  o_val hg (.call f args tys as res rfl (callable_spec hb).1 (callable_spec hb).2 (by rw [evs_st]; exact ha) hc) k
theorem sem_new2 {id1 id2 : Nat} {o1 o2 : AO} {v : AV} {us fr : List Nat} (h2 : St.freshB ⟨s, m⟩ id2 = true) (hne : id1 ≠ id2) : (St.app ⟨s, m⟩ (some d) { val := v, upd := [(id1, some o1), (id2, some o2)], use := us, fresh := fr }).sem = St.sem ⟨(d, v) :: s, (id1, o1) :: (id2, o2) :: m⟩ := by
  unfold St.app St.sem
  congr 1
  funext j
  simp only [appU, lookO_put, lookO]
  by_cases h1 : j = id1
  · subst h1; simp
  · by_cases h2 : j = id2
    · subst h2; simp [beq_ne hne, h1]
    · simp [h1, h2, beq_ne (fun e => h1 e.symm), beq_ne (fun e => h2 e.symm)]
theorem o_callW {f : FuncId} {args : Array Operand} {tys : Array TypeId} {f2 : FuncId} {t1 t2 : TypeId} {cs1 cs2 : List AV} (id1 id2 : Nat) (as : List AV) (hg : Gd ops s g) (hb : callable C.P f = true) (ha : evs s args.toList = as) (hne : Nat.beq id1 id2 = false) (hc1 : closedL cs1 = true) (hc2 : closedL cs2 = true) (hc : ECallsW C f as f2 t1 cs1 t2 cs2)
    (hf1 : St.freshB ⟨s, m⟩ id1 = true) (hf2 : St.freshB ⟨s, m⟩ id2 = true) (k : aops C ops ⟨(d, .clo f2 [.ref id1 0, .ref id2 0]) :: s, (id1, .var t1 cs1) :: (id2, .var t2 cs2) :: m⟩ os fun es σ' => K ({ val := .clo f2 [.ref id1 0, .ref id2 0], upd := [(id1, some (.var t1 cs1)), (id2, some (.var t2 cs2))], fresh := [id1, id2] } :: es) σ') :
    aops C ops ⟨s, m⟩ (⟨some d, .call { callee := .value (.func f), args := args, argTypes := tys }, t, p, af, g⟩ :: os) K :=
  o_mem hg (.callW f args tys as f2 t1 t2 cs1 cs2 id1 id2 rfl (callable_spec hb).1 (callable_spec hb).2 (by rw [evs_st]; exact ha) (Nat.ne_of_beq_eq_false hne) hc1 hc2 hc) (by simp [hf1, hf2]) (sem_new2 hf2 (Nat.ne_of_beq_eq_false hne)) k
theorem o_callM {f : FuncId} {args : Array Operand} {tys : Array TypeId} {res : AV} {e : TypeId} {sz : Nat} {cs : List AV} (id : Nat) (as : List AV) (hg : Gd ops s g) (hb : callable C.P f = true) (ha : evs s args.toList = as) (hc : ECallsM C f as res id e sz cs) (hf : St.freshB ⟨s, m⟩ id = true)
    (k : aops C ops ⟨(d, res) :: s, (id, .row e sz cs) :: m⟩ os fun es σ' => K ({ val := res, upd := [(id, some (.row e sz cs))], fresh := [id] } :: es) σ') :
    aops C ops ⟨s, m⟩ (⟨some d, .call { callee := .value (.func f), args := args, argTypes := tys }, t, p, af, g⟩ :: os) K :=
  o_mem hg (.callM f args tys as res id e sz cs rfl (callable_spec hb).1 (callable_spec hb).2 (by rw [evs_st]; exact ha) hc) (by simp [hf]) (sem_new hf) k
theorem o_alloc {ty : TypeId} {z : List Value} (id : Nat) (cs : List AV) (hg : Gd ops s g) (hz : tyZero C.P ty = some z) (h1 : z.all (·.oneCell') = true) (hcs : z.map .lit = cs) (hf : St.freshB ⟨s, m⟩ id = true)
    (k : aops C ops ⟨(d, .ref id 0) :: s, (id, .var ty cs) :: m⟩ os fun es σ' => K ({ val := .ref id 0, upd := [(id, some (.var ty cs))], fresh := [id] } :: es) σ') : aops C ops ⟨s, m⟩ (⟨some d, .alloc ty, t, p, af, g⟩ :: os) K := by
  subst hcs
  exact o_mem hg (.alloc ty z id rfl hz h1) (by simp [hf]) (sem_new hf) k
theorem o_box {ty : TypeId} {x : Operand} (id : Nat) (cs : List AV) (hg : Gd ops s g) (hx : cellsOf (ev s x) = some cs) (hf : St.freshB ⟨s, m⟩ id = true)
    (k : aops C ops ⟨(d, .ref id 0) :: s, (id, .var ty cs) :: m⟩ os fun es σ' => K ({ val := .ref id 0, upd := [(id, some (.var ty cs))], fresh := [id] } :: es) σ') : aops C ops ⟨s, m⟩ (⟨some d, .box ty x, t, p, af, g⟩ :: os) K :=
  o_mem hg (.box ty x id cs rfl (by rw [ev_st]; exact hx)) (by simp [hf]) (sem_new hf) k
theorem o_loadS {ty : TypeId} {x : Operand} {id off : Nat} {ob : AO} (c : AV) (hg : Gd ops s g) (ht : tySc C.P ty = true) (hx : ev s x = .ref id off) (ho : lookO m id = some ob) (hk : ob.cells[off]? = some c)
    (k : aops C ops ⟨(d, c) :: s, m⟩ os fun es σ' => K ({ val := c, use := [id] } :: es) σ') : aops C ops ⟨s, m⟩ (⟨some d, .load ty x, t, p, af, g⟩ :: os) K := o_val hg (.loadS ty x id off ob c rfl (by rw [ev_st]; exact hx) ho ht hk) k
theorem o_loadA {ty : TypeId} {x : Operand} {id off n : Nat} {ob : AO} (cs : List AV) (hg : Gd ops s g) (ht : tyAgg C.P ty = some n) (hx : ev s x = .ref id off) (ho : lookO m id = some ob) (hni : ob.isIter = false) (hl : Nat.ble (off + n) ob.cells.length = true) (hk : (ob.cells.drop off).take n = cs)
    (k : aops C ops ⟨(d, .agg cs) :: s, m⟩ os fun es σ' => K ({ val := .agg cs, use := [id] } :: es) σ') : aops C ops ⟨s, m⟩ (⟨some d, .load ty x, t, p, af, g⟩ :: os) K := by
  subst hk
  exact o_val hg (.loadA ty x id off n ob rfl (by rw [ev_st]; exact hx) ho hni ht (Nat.le_of_ble_eq_true hl)) k
theorem o_loadIS {ty : TypeId} {x : Operand} {cs : List AV} (c : AV) (hg : Gd ops s g) (ht : tySc C.P ty = true) (hx : ev s x = .ip cs) (hk : cs[0]? = some c)
    (k : aops C ops ⟨(d, c) :: s, m⟩ os fun es σ' => K ({ val := c } :: es) σ') : aops C ops ⟨s, m⟩ (⟨some d, .load ty x, t, p, af, g⟩ :: os) K := o_val hg (.loadIS ty x c cs rfl (by rw [ev_st]; exact hx) ht hk) k
theorem o_loadIA {ty : TypeId} {x : Operand} {n : Nat} {cs : List AV} (fs : List AV) (hg : Gd ops s g) (ht : tyAgg C.P ty = some n) (hx : ev s x = .ip cs) (hl : n ≤ cs.length) (hk : cs.take n = fs)
    (k : aops C ops ⟨(d, .agg fs) :: s, m⟩ os fun es σ' => K ({ val := .agg fs } :: es) σ') : aops C ops ⟨s, m⟩ (⟨some d, .load ty x, t, p, af, g⟩ :: os) K := by
  subst hk
  exact o_val hg (.loadIA ty x n cs rfl (by rw [ev_st]; exact hx) ht hl) k
theorem o_store {ty : TypeId} {x y : Operand} {id off n : Nat} {ty' : TypeId} {cs new : List AV} (m' : List (Nat × AO)) (hg : Gd ops s g) (ht : tySize C.P ty = some n) (hx : ev s x = .ref id off) (ho : lookO m id = some (.var ty' cs)) (hy : cellsOf (ev s y) = some new) (hn : new.length = n) (hl : Nat.ble (off + n) cs.length = true)
    (hm : setO m id (.var ty' (over cs off new)) = m') (k : aops C ops ⟨s, m'⟩ os fun es σ' => K ({ val := .any, upd := [(id, some (.var ty' (over cs off new)))], use := [id] } :: es) σ') : aops C ops ⟨s, m⟩ (⟨none, .store ty x y, t, p, af, g⟩ :: os) K := by
  subst hm
  exact o_mem hg (.store ty x y id off n (.var ty' cs) new rfl (by rw [ev_st]; exact hx) ho (by rw [ev_st]; exact hy) rfl ht hn (Nat.le_of_ble_eq_true hl)) rfl (sem_set ho rfl) k
theorem o_storeRow {ty : TypeId} {x y : Operand} {id off n : Nat} {e : TypeId} {sz : Nat} {cs new : List AV} (cs' : List AV) (m' : List (Nat × AO)) (hg : Gd ops s g) (ht : tySize C.P ty = some n) (hx : ev s x = .ref id off) (ho : lookO m id = some (.row e sz cs)) (hy : cellsOf (ev s y) = some new) (hcl : closedL new = true) (hn : new.length = n) (hl : off + n ≤ cs.length)
    (hc : over cs off new = cs') (hm : setO m id (.row e sz cs') = m') (k : aops C ops ⟨s, m'⟩ os fun es σ' => K ({ val := .any, upd := [(id, some (.row e sz cs'))], use := [id] } :: es) σ') : aops C ops ⟨s, m⟩ (⟨none, .store ty x y, t, p, af, g⟩ :: os) K := by
  subst hm
  subst hc
  exact o_mem hg (.storeRow ty x y id off n e sz cs new rfl (by rw [ev_st]; exact hx) ho (by rw [ev_st]; exact hy) hcl ht hn hl) rfl (sem_set ho rfl) k
theorem o_fieldRef {ty : TypeId} {x : Operand} {f id off fo : Nat} {ft : TypeId} (o' : Nat) (hg : Gd ops s g) (hf : tyField C.P ty f = some (fo, ft)) (hx : ev s x = .ref id off) (ho : off + fo = o') (k : aops C ops ⟨(d, .ref id o') :: s, m⟩ os fun es σ' => K ({ val := .ref id o' } :: es) σ') :
    aops C ops ⟨s, m⟩ (⟨some d, .fieldAddr ty x f, t, p, af, g⟩ :: os) K := by
  subst ho
  exact o_val hg (.fieldRef ty x f id off fo ft rfl (by rw [ev_st]; exact hx) hf) k
theorem o_fieldIp {ty : TypeId} {x : Operand} {f fo : Nat} {ft : TypeId} {cs : List AV} (hg : Gd ops s g) (hf : tyField C.P ty f = some (fo, ft)) (hx : ev s x = .ip cs) (hl : fo < cs.length) (k : aops C ops ⟨(d, .ip (cs.drop fo)) :: s, m⟩ os fun es σ' => K ({ val := .ip (cs.drop fo) } :: es) σ') :
    aops C ops ⟨s, m⟩ (⟨some d, .fieldAddr ty x f, t, p, af, g⟩ :: os) K := o_val hg (.fieldIp ty x f fo ft cs rfl (by rw [ev_st]; exact hx) hf hl) k
theorem o_fieldS {ty : TypeId} {x : Operand} {f fo : Nat} {ft : TypeId} {cs : List AV} (c : AV) (hg : Gd ops s g) (hf : tyField C.P ty f = some (fo, ft)) (ht : tySc C.P ft = true) (hx : ev s x = .agg cs) (hk : cs[fo]? = some c) (k : aops C ops ⟨(d, c) :: s, m⟩ os fun es σ' => K ({ val := c } :: es) σ') :
    aops C ops ⟨s, m⟩ (⟨some d, .field ty x f, t, p, af, g⟩ :: os) K := o_val hg (.fieldS ty x f fo ft cs c rfl (by rw [ev_st]; exact hx) hf ht hk) k
theorem o_fieldA {ty : TypeId} {x : Operand} {f fo n : Nat} {ft : TypeId} {cs : List AV} (fs : List AV) (hg : Gd ops s g) (hf : tyField C.P ty f = some (fo, ft)) (ht : tyAgg C.P ft = some n) (hx : ev s x = .agg cs) (hl : Nat.ble (fo + n) cs.length = true) (hk : (cs.drop fo).take n = fs)
    (k : aops C ops ⟨(d, .agg fs) :: s, m⟩ os fun es σ' => K ({ val := .agg fs } :: es) σ') : aops C ops ⟨s, m⟩ (⟨some d, .field ty x f, t, p, af, g⟩ :: os) K := by
  subst hk
  exact o_val hg (.fieldA ty x f fo n ft cs rfl (by rw [ev_st]; exact hx) hf ht (Nat.le_of_ble_eq_true hl)) k
theorem o_index1 {ty : TypeId} {x y : Operand} {e by' : Nat} {cs : List AV} {kk : IntKind} {i : Int} (hg : Gd ops s g) (ht : tyElem C.P ty = some (e, 1, by')) (hx : ev s x = .sl 1 cs) (hy : ev s y = .lit (.int kk i)) (h0 : 0 ≤ i) (h1 : i.toNat < cs.length)
    (k : aops C ops ⟨(d, .ip (cs.drop i.toNat)) :: s, m⟩ os fun es σ' => K ({ val := .ip (cs.drop i.toNat) } :: es) σ') : aops C ops ⟨s, m⟩ (⟨some d, .indexAddr ty x y, t, p, af, g⟩ :: os) K := by
  have := Step.indexSl (C := C) (S := St.sem ⟨s, m⟩) (o := ⟨some d, .indexAddr ty x y, t, p, af, g⟩) ty x y e 1 by' cs kk i rfl ht (by rw [ev_st]; exact hx) (by rw [ev_st]; exact hy) h0 (by omega)
  rw [Nat.mul_one] at this
  exact o_val hg this k
theorem o_indexN {ty : TypeId} {x y : Operand} {e sz by' : Nat} {cs : List AV} {kk : IntKind} {i : Int} (hg : Gd ops s g) (ht : tyElem C.P ty = some (e, sz, by')) (hx : ev s x = .sl sz cs) (hy : ev s y = .lit (.int kk i)) (h0 : 0 ≤ i) (h1 : i.toNat * sz < cs.length)
    (k : aops C ops ⟨(d, .ip (cs.drop (i.toNat * sz))) :: s, m⟩ os fun es σ' => K ({ val := .ip (cs.drop (i.toNat * sz)) } :: es) σ') : aops C ops ⟨s, m⟩ (⟨some d, .indexAddr ty x y, t, p, af, g⟩ :: os) K := o_val hg (.indexSl ty x y e sz by' cs kk i rfl ht (by rw [ev_st]; exact hx) (by rw [ev_st]; exact hy) h0 h1) k
theorem o_indexRow1 {ty : TypeId} {x y : Operand} {e e' id by' : Nat} {cs : List AV} {kk : IntKind} {i : Int} (hg : Gd ops s g) (ht : tyElem C.P ty = some (e, 1, by')) (hx : ev s x = .row id) (ho : lookO m id = some (.row e' 1 cs)) (hy : ev s y = .lit (.int kk i)) (h0 : 0 ≤ i) (h1 : i.toNat < cs.length)
    (k : aops C ops ⟨(d, .ref id i.toNat) :: s, m⟩ os fun es σ' => K ({ val := .ref id i.toNat, use := [id] } :: es) σ') : aops C ops ⟨s, m⟩ (⟨some d, .indexAddr ty x y, t, p, af, g⟩ :: os) K := by
  have := Step.indexRow (C := C) (S := St.sem ⟨s, m⟩) (o := ⟨some d, .indexAddr ty x y, t, p, af, g⟩) ty x y e e' id 1 by' cs kk i rfl ht (by rw [ev_st]; exact hx) ho (by rw [ev_st]; exact hy) h0 (by omega)
  rw [Nat.mul_one] at this
  exact o_val hg this k
theorem o_build {ty : TypeId} {parts : Array (Nat × Operand)} {pl : Nat → Option (Nat × Nat)} {z : List Value} (cs : List AV) (ps : List (Nat × List AV)) (hg : Gd ops s g) (hp : tyPlaces C.P ty = some pl) (hz : tyZero C.P ty = some z) (h1 : z.all (·.oneCell') = true) (hps : optL (parts.toList.map fun (i, x) => (cellsOf (ev s x)).map fun c => (i, c)) = some ps) (hc : fillA pl (z.map .lit) ps = some cs)
    (k : aops C ops ⟨(d, .agg cs) :: s, m⟩ os fun es σ' => K ({ val := .agg cs } :: es) σ') : aops C ops ⟨s, m⟩ (⟨some d, .build ty parts, t, p, af, g⟩ :: os) K :=
  o_val hg (.build ty parts pl z ps cs rfl hp hz h1 (by simp only [ev_st]; exact hps) hc) k
theorem o_buildSlice {ty : TypeId} {len : Nat} {parts : Array (Nat × Operand)} {e sz by' : Nat} {z : List Value} (id : Nat) (cs : List AV) (ps : List (Nat × List AV)) (hg : Gd ops s g) (ht : tyElem C.P ty = some (e, sz, by')) (hsz : Nat.blt 0 sz = true) (hz : tyZero C.P e = some z) (h1 : z.all (·.oneCell') = true) (hzl : z.length = sz)
    (hps : optL (parts.toList.map fun (i, x) => (cellsOf (ev s x)).map fun c => (i, c)) = some ps) (hc : fillA (fun i => some (i * sz, sz)) ((List.range (len * sz)).map fun j => .lit (z.getD (j % sz) undef)) ps = some cs) (hcl : closedL cs = true) (hl : Nat.ble (len * sz) 16777216 = true) (hf : St.freshB ⟨s, m⟩ id = true)
    (k : aops C ops ⟨(d, .row id) :: s, (id, .row e sz cs) :: m⟩ os fun es σ' => K ({ val := .row id, upd := [(id, some (.row e sz cs))], fresh := [id] } :: es) σ') : aops C ops ⟨s, m⟩ (⟨some d, .buildSlice ty len parts, t, p, af, g⟩ :: os) K :=
  o_mem hg (.buildSlice ty len parts e sz by' z ps cs id rfl ht (by rw [Nat.blt_eq] at hsz; exact hsz) hz h1 hzl (by simp only [ev_st]; exact hps) hc hcl (Nat.le_of_ble_eq_true hl)) (by simp [hf]) (sem_new hf) k
theorem o_make0 {ty : TypeId} {x y : Operand} {e sz by' : Nat} {z : List Value} {kk kk' : IntKind} {c : Int} (id : Nat) (hg : Gd ops s g) (ht : tyElem C.P ty = some (e, sz, by')) (hsz : Nat.blt 0 sz = true) (hz : tyZero C.P e = some z) (hx : ev s x = .lit (.int kk 0)) (hy : ev s y = .lit (.int kk' c)) (h0 : 0 ≤ c) (hb : by' * c.toNat ≤ 281474976710656) (hm : c ≤ 9223372036854775807) (hf : St.freshB ⟨s, m⟩ id = true)
    (k : aops C ops ⟨(d, .row id) :: s, (id, .row e sz []) :: m⟩ os fun es σ' => K ({ val := .row id, upd := [(id, some (.row e sz []))], fresh := [id] } :: es) σ') : aops C ops ⟨s, m⟩ (⟨some d, .makeSlice ty x y, t, p, af, g⟩ :: os) K :=
  o_mem hg (.make0 ty x y e sz by' z kk kk' c id rfl ht (by rw [Nat.blt_eq] at hsz; exact hsz) hz (by rw [ev_st]; exact hx) (by rw [ev_st]; exact hy) h0 hb hm) (by simp [hf]) (sem_new hf) k
theorem o_makeN {ty : TypeId} {x y : Operand} {e by' : Nat} {z : Value} {kk kk' : IntKind} {c : Int} (id : Nat) (hg : Gd ops s g) (ht : tyElem C.P ty = some (e, 1, by')) (hz : tyZero C.P e = some [z]) (h1 : z.oneCell' = true) (hx : ev s x = .lit (.int kk c)) (hy : ev s y = .lit (.int kk' c)) (h0 : 0 ≤ c) (hb : by' * c.toNat ≤ 140737488355328) (hby : Nat.blt 0 by' = true) (hf : St.freshB ⟨s, m⟩ id = true)
    (k : aops C ops ⟨(d, .row id) :: s, (id, .row e 1 (List.replicate c.toNat (.lit z))) :: m⟩ os fun es σ' => K ({ val := .row id, upd := [(id, some (.row e 1 (List.replicate c.toNat (.lit z))))], fresh := [id] } :: es) σ') : aops C ops ⟨s, m⟩ (⟨some d, .makeSlice ty x y, t, p, af, g⟩ :: os) K :=
  o_mem hg (.makeN ty x y e by' z kk kk' c id rfl ht hz h1 (by rw [ev_st]; exact hx) (by rw [ev_st]; exact hy) h0 hb (by rw [Nat.blt_eq] at hby; exact hby)) (by simp [hf]) (sem_new hf) k
/-- A cut of a slice that nobody writes to. -/
theorem o_slice {ty : TypeId} {x : Operand} {lo hi mx : Option Operand} {e sz by' n : Nat} {cs : List AV} (l h : Nat) (cs' : List AV) (hg : Gd ops s g) (ht : tyElem C.P ty = some (e, sz, by')) (hx : ev s x = .sl sz cs) (hn : cs.length = n * sz)
    (hlo : (St.sem ⟨s, m⟩).loOk lo l) (hhi : (St.sem ⟨s, m⟩).hiOk hi n h) (hmx : (St.sem ⟨s, m⟩).mxOk mx hi.isSome h) (h1 : l ≤ h) (h2 : h ≤ n) (hc : (cs.drop (l * sz)).take ((h - l) * sz) = cs')
    (k : aops C ops ⟨(d, .sl sz cs') :: s, m⟩ os fun es σ' => K ({ val := .sl sz cs' } :: es) σ') : aops C ops ⟨s, m⟩ (⟨some d, .slice ty x lo hi mx, t, p, af, g⟩ :: os) K := by
  subst hc
  exact o_val hg (.sliceSl ty x lo hi mx e sz by' n cs l h rfl ht (by rw [ev_st]; exact hx) hn hlo hhi hmx h1 h2) k
theorem o_sliceX {ty : TypeId} {x : Operand} {lo hi mx : Option Operand} {e sz by' n : Nat} {cs : List AV} (l h : Nat) (cs' : List AV) (hg : Gd ops s g) (ht : tyElem C.P ty = some (e, sz, by')) (hx : ev s x = .sl sz cs) (hn : cs.length = n * sz)
    (hlo : (St.sem ⟨s, m⟩).loOk lo l) (hhi : (St.sem ⟨s, m⟩).hiOk hi n h) (hmx : (St.sem ⟨s, m⟩).mxOk mx hi.isSome h) (hs : mx.isSome = true) (h1 : l ≤ h) (h2 : h ≤ n) (hc : (cs.drop (l * sz)).take ((h - l) * sz) = cs')
    (k : aops C ops ⟨(d, .slc sz cs' (h - l)) :: s, m⟩ os fun es σ' => K ({ val := .slc sz cs' (h - l) } :: es) σ') : aops C ops ⟨s, m⟩ (⟨some d, .slice ty x lo hi mx, t, p, af, g⟩ :: os) K := by
  subst hc
  exact o_val hg (.sliceX ty x lo hi mx e sz by' n cs l h rfl ht (by rw [ev_st]; exact hx) hn hlo hhi hmx hs h1 h2) k
theorem sem_append {id id' : Nat} {ob : AO} {v : AV} {us fr : List Nat} (m' : List (Nat × AO)) (hm : delO m id = m') (hne : id' ≠ id) : (St.app ⟨s, m⟩ (some d) { val := v, upd := [(id', some ob), (id, none)], use := us, fresh := fr }).sem = St.sem ⟨(d, v) :: s, (id', ob) :: m'⟩ := by
  subst hm
  unfold St.app St.sem
  congr 1
  funext j
  simp only [appU, lookO_put, lookO, lookO_del]
  by_cases hj : j = id'
  · subst hj; simp
  · simp [hj, beq_ne (fun e => hj e.symm)]
theorem o_append {ty : TypeId} {a x : Operand} {e sz by' : Nat} {z : List Value} {id : Nat} {cs : List AV} (id' : Nat) (ds cs' : List AV) (us : List Nat) (m' : List (Nat × AO)) (hg : Gd ops s g) (ht : tyElem C.P ty = some (e, sz, by')) (hsz : Nat.blt 0 sz = true) (hz : tyZero C.P e = some z) (hzl : z.length = sz)
    (hs : ev s a = .row id) (ho : lookO m id = some (.row e sz cs)) (hx : (ev s x = .sl sz ds ∧ us = [id]) ∨ ∃ i e', ev s x = .row i ∧ lookO m i = some (.row e' sz ds) ∧ us = [id, i]) (hb : (cs.length + ds.length) / sz * by' ≤ 140737488355328) (hl : cs.length + ds.length ≤ 140737488355328)
    (hc : cs ++ ds = cs') (hf : St.freshB ⟨s, m⟩ id' = true) (hm : delO m id = m') (k : aops C ops ⟨(d, .row id') :: s, (id', .row e sz cs') :: m'⟩ os fun es σ' => K ({ val := .row id', upd := [(id', some (.row e sz cs')), (id, none)], use := us, fresh := [id'] } :: es) σ') :
    aops C ops ⟨s, m⟩ (⟨some d, .call { callee := .builtin .append, args := #[a, x], argTypes := #[ty, ty] }, t, p, af, g⟩ :: os) K := by
  subst hc
  have hne : id' ≠ id := fun e => by subst e; rw [lookO_none_of_fr hf] at ho; cases ho
  exact o_mem hg (.append ty a x e sz by' z id id' cs ds us rfl ht (by rw [Nat.blt_eq] at hsz; exact hsz) hz hzl (by rw [ev_st]; exact hs) ho (by rw [ev_st]; exact hx) hb hl) (by simp [hf]) (sem_append m' hm hne) k
theorem o_appendNil {ty : TypeId} {a x : Operand} {e sz by' : Nat} {z : List Value} (id' : Nat) (ds : List AV) (us : List Nat) (hg : Gd ops s g) (ht : tyElem C.P ty = some (e, sz, by')) (hsz : Nat.blt 0 sz = true) (hz : tyZero C.P e = some z) (hzl : z.length = sz)
    (hs : ev s a = .lit (.slice none 0 0)) (hx : (ev s x = .sl sz ds ∧ us = []) ∨ ∃ i e', ev s x = .row i ∧ lookO m i = some (.row e' sz ds) ∧ us = [i]) (hb : ds.length / sz * by' ≤ 140737488355328) (hl : ds.length ≤ 140737488355328)
    (hf : St.freshB ⟨s, m⟩ id' = true) (k : aops C ops ⟨(d, .row id') :: s, (id', .row e sz ds) :: m⟩ os fun es σ' => K ({ val := .row id', upd := [(id', some (.row e sz ds))], use := us, fresh := [id'] } :: es) σ') :
    aops C ops ⟨s, m⟩ (⟨some d, .call { callee := .builtin .append, args := #[a, x], argTypes := #[ty, ty] }, t, p, af, g⟩ :: os) K :=
  o_mem hg (.appendNil ty a x e sz by' z id' ds us rfl ht (by rw [Nat.blt_eq] at hsz; exact hsz) hz hzl (by rw [ev_st]; exact hs) (by rw [ev_st]; exact hx) hb hl) (by simp [hf]) (sem_new hf) k
theorem o_extract {x : Operand} {i : Nat} {fs : List AV} (c : AV) (hg : Gd ops s g) (hx : ev s x = .tup fs) (hi : fs[i]? = some c) (k : aops C ops ⟨(d, c) :: s, m⟩ os fun es σ' => K ({ val := c } :: es) σ') : aops C ops ⟨s, m⟩ (⟨some d, .extract x i, t, p, af, g⟩ :: os) K :=
  o_val hg (.extract x i fs c rfl (by rw [ev_st]; exact hx) hi) k
theorem o_strOf {ty ty' : TypeId} {x : Operand} {id e : Nat} {cs : List AV} (bs : List Int) (hg : Gd ops s g) (ht : C.P.underlying ty = some (.slice e)) (he : C.P.underlying e = some (.int .u8)) (ht' : C.P.underlying ty' = some .string) (hx : ev s x = .row id) (ho : lookO m id = some (.row e 1 cs)) (hc : cs = bs.map fun b => .lit (.int .u8 b))
    (k : aops C ops ⟨(d, .lit (.string (strOfNums bs))) :: s, m⟩ os fun es σ' => K ({ val := .lit (.string (strOfNums bs)), use := [id] } :: es) σ') : aops C ops ⟨s, m⟩ (⟨some d, .convert ty ty' x, t, p, af, g⟩ :: os) K :=
  o_val hg (.strOf ty ty' x id e 1 bs cs rfl ht he ht' (by rw [ev_st]; exact hx) ho rfl hc) k
theorem o_makeFunc {f : FuncId} {caps : Array Operand} (as : List AV) (hg : Gd ops s g) (ha : evs s caps.toList = as) (k : aops C ops ⟨(d, .clo f as) :: s, m⟩ os fun es σ' => K ({ val := .clo f as } :: es) σ') : aops C ops ⟨s, m⟩ (⟨some d, .makeFunc (.func f) #[] caps, t, p, af, g⟩ :: os) K := by
  have := Step.makeFunc (C := C) (S := St.sem ⟨s, m⟩) (o := ⟨some d, .makeFunc (.func f) #[] caps, t, p, af, g⟩) f caps rfl
  rw [evs_st, ha] at this
  exact o_val hg this k
theorem o_iterNew {ty : TypeId} {x : Operand} {a : ByteArray} (id : Nat) (hg : Gd ops s g) (ht : C.P.underlying ty = some .string) (hx : ev s x = .lit (.string a)) (hf : St.freshB ⟨s, m⟩ id = true)
    (k : aops C ops ⟨(d, .ref id 0) :: s, (id, .blk (.stringIter a 0)) :: m⟩ os fun es σ' => K ({ val := .ref id 0, upd := [(id, some (.blk (.stringIter a 0)))], fresh := [id] } :: es) σ') : aops C ops ⟨s, m⟩ (⟨some d, .range ty x, t, p, af, g⟩ :: os) K :=
  o_mem hg (.iterNew ty x id a rfl ht (by rw [ev_st]; exact hx)) (by simp [hf]) (sem_new hf) k
theorem o_iterNext {x : Operand} {id : Nat} {a : ByteArray} {pos : Nat} (v : Int) (c : Nat) (m' : List (Nat × AO)) (hg : Gd ops s g) (hx : ev s x = .ref id 0) (ho : lookO m id = some (.blk (.stringIter a pos))) (hp : pos < a.size) (hv : (Utf8.decode a pos).1 = v) (hc : pos + (Utf8.decode a pos).2 = c) (hm : setO m id (.blk (.stringIter a c)) = m')
    (k : aops C ops ⟨(d, .tup [.lit (.bool true), .lit (goInt pos), .lit (.int .i32 v)]) :: s, m'⟩ os fun es σ' => K ({ val := .tup [.lit (.bool true), .lit (goInt pos), .lit (.int .i32 v)], upd := [(id, some (.blk (.stringIter a c)))], use := [id] } :: es) σ') : aops C ops ⟨s, m⟩ (⟨some d, .next x true, t, p, af, g⟩ :: os) K := by
  subst hm
  subst hv
  subst hc
  exact o_mem hg (.iterNext x id a pos rfl (by rw [ev_st]; exact hx) ho hp) rfl (sem_set ho rfl) k
theorem o_iterEnd {x : Operand} {id : Nat} {a : ByteArray} {pos : Nat} (hg : Gd ops s g) (hx : ev s x = .ref id 0) (ho : lookO m id = some (.blk (.stringIter a pos))) (hp : ¬ pos < a.size)
    (k : aops C ops ⟨(d, .tup [.lit (.bool false)]) :: s, m⟩ os fun es σ' => K ({ val := .tup [.lit (.bool false)], use := [id] } :: es) σ') : aops C ops ⟨s, m⟩ (⟨some d, .next x true, t, p, af, g⟩ :: os) K :=
  o_val hg (.iterEnd x id a pos rfl (by rw [ev_st]; exact hx) ho hp) k
theorem o_nilRef {x : Operand} {id off : Nat} (hg : Gd ops s g) (hx : ev s x = .ref id off) (k : aops C ops ⟨(d, .ref id off) :: s, m⟩ os fun es σ' => K ({ val := .ref id off } :: es) σ') : aops C ops ⟨s, m⟩ (⟨some d, .nilCheck x, t, p, af, g⟩ :: os) K := o_val hg (.nilRef x id off rfl (by rw [ev_st]; exact hx)) k
/-- A byte of a string. -/
theorem o_indexS {ty : TypeId} {x y : Operand} {kk : IntKind} {a : ByteArray} {i : Int} (r : Int) (hg : Gd ops s g) (ht : C.P.underlying ty = some .string) (hx : ev s x = .lit (.string a)) (hy : ev s y = .lit (.int kk i)) (h0 : 0 ≤ i) (h1 : i.toNat < a.size) (hr : ((a.data.toList.getD i.toNat 0).toNat : Int) = r)
    (k : aops C ops ⟨(d, .lit (.int .u8 r)) :: s, m⟩ os fun es σ' => K ({ val := .lit (.int .u8 r) } :: es) σ') : aops C ops ⟨s, m⟩ (⟨some d, .index ty x y, t, p, af, g⟩ :: os) K := by
  subst hr
  exact o_pure2 rfl hg hx hy (fun ρ e1 e2 w => by
    have e3 : a[i.toNat]? = some (a.data.toList.getD i.toNat 0) := by
      rw [getElem?_pos a i.toNat h1]
      have h1' : i.toNat < a.data.toList.length := by simpa using h1
      rw [List.getD_eq_getElem?_getD, List.getElem?_eq_getElem h1']
      rfl
    simp [execOp, e1, e2, Instr.index, asIntOf, run_underlying ht, h0, e3]) k
end

/-! ### Lists that are written by a function of their elements -/
theorem dropMap0 {α : Type} {f : α → AV} {xs : List α} {n : Nat} (dflt : α) (h : n < xs.length) : ((xs.map f).drop n)[0]? = some (f (xs.getD n dflt)) := by
  rw [List.getElem?_drop, Nat.add_zero, List.getElem?_map, List.getElem?_eq_getElem h]
  simp [List.getD, List.getElem?_eq_getElem h]
theorem getMap {α : Type} {f : α → AV} {xs : List α} {n : Nat} (dflt : α) (h : n < xs.length) : (xs.map f)[n]? = some (f (xs.getD n dflt)) := by
  rw [List.getElem?_map, List.getElem?_eq_getElem h]
  simp [List.getD, List.getElem?_eq_getElem h]
theorem overMap {α : Type} {f : α → AV} {xs : List α} {n : Nat} {v : α} (h : n < xs.length) : over (xs.map f) n [f v] = (xs.set n v).map f := by
  unfold over
  apply List.ext_getElem?
  intro j
  simp only [List.append_assoc, List.getElem?_append, List.length_take, List.length_map, List.length_cons, List.length_nil, List.getElem?_map, List.getElem?_set]
  rw [show min n xs.length = n by omega]
  by_cases h1 : j < n
  · rw [if_pos h1, if_neg (by omega), List.getElem?_take, if_pos h1, List.getElem?_map]
  · by_cases h2 : j = n
    · subst h2; simp [h]
    · rw [if_neg h1, if_neg (by omega), if_neg (by omega), List.getElem?_drop, List.getElem?_map]
      congr 2
      omega
theorem int_eq {k : IntKind} {a b : Int} (h : b = a) : AV.lit (.int k b) = AV.lit (.int k a) := by rw [h]
theorem sl_eq {sz : Nat} {a b : List AV} (h : b = a) : AV.sl sz b = AV.sl sz a := by rw [h]
theorem row_eq {e sz : Nat} {a b : List AV} (h : b = a) : some (AO.row e sz b) = some (AO.row e sz a) := by rw [h]
theorem post_ret {C : Ctx} {fn : Func} {res : AV} {σ : St} (h : ∃ vs, ResOk C σ fn.results.toList vs ∧ closedL vs = true ∧ res = packR vs) : postF C fn res .ret σ := h
/-- A loop whose relation names its numbers. -/
theorem awp_loopR {C : Ctx} {n : Nat} {Q : Exit → St → Prop} {σ : St} {c : Code} (I : Nat → St → Prop) (h0 : ∃ k σ', I k σ' ∧ Wk C n σ σ') (round : ∀ k σ', I k σ' → awp C n c (thenK (fun σ2 => ∃ k' σ3, k' < k ∧ I k' σ3 ∧ Wk C n σ2 σ3) Q) σ') : awp C n (.loop c) Q σ := by
  obtain ⟨k0, σ0, hi, hw⟩ := h0
  refine awp_loop (γ := { x : Nat × St // I x.1 x.2 }) (fun g => g.1.2) (fun g => g.1.1) ⟨(k0, σ0), hi⟩ hw fun g => ?_
  refine awp_mono (round g.1.1 g.1.2 g.2) fun e σ2 hq => ?_
  cases e with
  | normal =>
    obtain ⟨k', σ3, hlt, hi', hw'⟩ := hq
    exact ⟨⟨(k', σ3), hi'⟩, hlt, hw'⟩
  | _ => exact hq
theorem awp_condB {C : Ctx} {n : Nat} {Q : Exit → St → Prop} {s : List (Nat × AV)} {m : List (Nat × AO)} {c : Operand} {x y : Code} {b : Bool} (hc : ev s c = .lit (.bool b)) (ht : b = true → awp C n x Q ⟨s, m⟩) (hf : b = false → awp C n y Q ⟨s, m⟩) : awp C n (.cond c x y) Q ⟨s, m⟩ :=
  awp_cond (b := b) (by cases c <;> exact hc) ht hf
theorem awp_condQ {C : Ctx} {n : Nat} {Q : Exit → St → Prop} {s : List (Nat × AV)} {m : List (Nat × AO)} {c : Operand} {x y : Code} {q : Prop} [Decidable q] (hc : ev s c = .lit (.bool (decide q))) (ht : q → awp C n x Q ⟨s, m⟩) (hf : ¬ q → awp C n y Q ⟨s, m⟩) : awp C n (.cond c x y) Q ⟨s, m⟩ :=
  awp_condB hc (fun h => ht (of_decide_eq_true h)) (fun h => hf (of_decide_eq_false h))
end Go.Ab
