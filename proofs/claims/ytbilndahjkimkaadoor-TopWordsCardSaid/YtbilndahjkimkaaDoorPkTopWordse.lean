/- What the proof of a row of this seat leans on (part 5 of 6): a library of abstract values, walks of functions, and plain laws. -/
import Derived.Laws.StructEq
import Derived.Test.YtbilndahjkimkaaDoorPkTopWordsd
set_option linter.unusedVariables false
set_option linter.unusedSimpArgs false
namespace Go.Ab
open Go.RowKit
mutual
/-- Does a value name no own object but one row? -/
def AV.only (id : Nat) : AV → Bool
  | .ref .. => false
  | .vw .. => false
  | .row i => Nat.beq i id
  | .agg fs => onlyL id fs
  | .tup fs => onlyL id fs
  | .clo _ fs => onlyL id fs
  | _ => true
def onlyL (id : Nat) : List AV → Bool
  | [] => true
  | x :: xs => x.only id && onlyL id xs
end
mutual
theorem RepV.only {H : Heap} {id : Nat} {rv : Value} : ∀ {x : AV} {L : Loc} {v : Value}, L id = some rv → x.only id = true → RepV H x L v → RepV H x (noLoc.set id (some rv)) v
  | .any, _, _, _, _, _ => by simp [RepV]
  | .lit _, _, _, _, _, h => by simpa [RepV] using h
  | .sl sz cs, _, _, _, _, h => by simpa [RepV] using h
  | .slc sz cs _, _, _, _, _, h => by simpa [RepV] using h
  | .agg fs, _, _, hl, hn, h => by
    simp only [RepV, AV.only] at h hn ⊢
    obtain ⟨vs, rfl, hr, h1⟩ := h
    exact ⟨vs, rfl, RepL.only hl hn hr, h1⟩
  | .tup fs, _, _, hl, hn, h => by
    simp only [RepV, AV.only] at h hn ⊢
    obtain ⟨vs, rfl, hr⟩ := h
    exact ⟨vs, rfl, RepL.only hl hn hr⟩
  | .ref i off, _, _, _, hn, h => by simp [AV.only] at hn
  | .vw .., _, _, _, hn, h => by simp [AV.only] at hn
  | .row i, _, _, hl, hn, h => by
    simp only [AV.only] at hn
    have := Nat.eq_of_beq_eq_true hn
    subst this
    simp only [RepV] at h ⊢
    rw [hl] at h
    exact ⟨by simp [Loc.set, h.1], h.2⟩
  | .ip cs, _, _, _, _, h => by simpa [RepV] using h
  | .clo f cs, _, _, hl, hn, h => by
    simp only [RepV, AV.only] at h hn ⊢
    obtain ⟨vs, rfl, hr⟩ := h
    exact ⟨vs, rfl, RepL.only hl hn hr⟩
theorem RepL.only {H : Heap} {id : Nat} {rv : Value} : ∀ {xs : List AV} {L : Loc} {vs : List Value}, L id = some rv → onlyL id xs = true → RepL H xs L vs → RepL H xs (noLoc.set id (some rv)) vs
  | [], _, _, _, _, h => by simpa [RepL] using h
  | x :: xs, _, _, hl, hn, h => by
    simp only [RepL, onlyL, Bool.and_eq_true] at h hn ⊢
    obtain ⟨v, r, rfl, h1, h2⟩ := h
    exact ⟨v, r, rfl, RepV.only hl hn.1 h1, RepL.only hl hn.2 h2⟩
end
def postM (C : Ctx) (fn : Func) (res : AV) (id : Nat) (e : TypeId) (sz : Nat) (cs : List AV) : Exit → St → Prop
  | .normal, σ => ∃ vs, ResOk C σ fn.results.toList vs ∧ onlyL id vs = true ∧ lookO σ.objs id = some (.row e sz cs) ∧ res = packR vs
  | .ret, σ => ∃ vs, ResOk C σ fn.results.toList vs ∧ onlyL id vs = true ∧ lookO σ.objs id = some (.row e sz cs) ∧ res = packR vs
  | _, _ => False
end Go.Ab

set_option linter.unusedVariables false
set_option linter.unusedSimpArgs false
namespace Go.Ab
open Go.RowKit
def postS (C : Ctx) (fn : Func) (res : AV) (m' : List (Nat × AO)) (pid : Nat) (cs : List AV) (us : List Value) : Exit → St → Prop
  | .normal, σ => ∃ vs, ResOk C σ fn.results.toList vs ∧ res = packR vs ∧ (∀ id ob, lookO m' id = some ob → lookO σ.objs id = some ob) ∧ lookO σ.objs pid = some (.pin cs us)
  | .ret, σ => ∃ vs, ResOk C σ fn.results.toList vs ∧ res = packR vs ∧ (∀ id ob, lookO m' id = some ob → lookO σ.objs id = some ob) ∧ lookO σ.objs pid = some (.pin cs us)
  | _, _ => False
def SCalls (C : Ctx) (n : Nat) (f : FuncId) (args : List AV) (so : List (Nat × AV)) (m : List (Nat × AO)) (res : AV) (m' : List (Nat × AO)) : Prop :=
  ∀ (w0 : World) (H : Heap) (L : Loc) (a : Act) (w : World) (vals : List Value), Rep C n w0 H L (St.sem ⟨so, m⟩) a w → RepL H args L vals →
    Calls C.P f vals.toArray w fun e w' => ∃ v H' L', e = .returned v ∧ Ext w0.heap.size H H' ∧ RepV H' res L' v ∧ Rep C n w0 H' L' (St.sem ⟨so, m'⟩) a w'
theorem pin_slots {H : Heap} {L : Loc} : ∀ {so : List (Nat × AV)} {t : Nat → Value}, RepL H (valsOf so) L (so.map fun p => t p.1) → ∀ i, RepV H (look so i) L (t i)
  | [], t, _, i => by simp [look, RepV]
  | (j, v) :: r, t, h, i => by
    simp only [valsOf, List.map_cons, RepL] at h
    obtain ⟨x, xs, e, h1, h2⟩ := h
    cases e
    simp only [look]
    cases hb : Nat.beq j i with
    | true =>
      have := Nat.eq_of_beq_eq_true hb
      subst this
      exact h1
    | false => exact pin_slots h2 i
theorem slots_pin {H : Heap} {L : Loc} {t : Nat → Value} : ∀ {so : List (Nat × AV)}, (so.map (·.1)).Nodup → (∀ i, RepV H (look so i) L (t i)) → RepL H (valsOf so) L (so.map fun p => t p.1)
  | [], _, _ => by simp [valsOf, RepL]
  | (j, v) :: r, hnd, h => by
    simp only [List.map_cons, List.nodup_cons] at hnd
    simp only [valsOf, List.map_cons, RepL]
    refine ⟨_, _, rfl, by simpa [look] using h j, slots_pin hnd.2 fun i => ?_⟩
    have hi := h i
    simp only [look] at hi
    cases hb : Nat.beq j i with
    | true =>
      have := Nat.eq_of_beq_eq_true hb
      subst this
      have hno : ∀ (l : List (Nat × AV)), j ∉ l.map (·.1) → look l j = .any := by
        intro l
        induction l with
        | nil => intro _; rfl
        | cons p l ih =>
          intro hl
          simp only [List.map_cons, List.mem_cons, not_or] at hl
          obtain ⟨p1, p2⟩ := p
          simp only [look]
          rw [beq_ne (fun e => hl.1 e.symm)]
          exact ih hl.2
      rw [hno r hnd.1]
      simp [RepV]
    | false => rw [hb] at hi; exact hi
theorem scalls_of_awp {C : Ctx} {n : Nat} {f : FuncId} {fn : Func} {c : Code} {args : List AV} {so : List (Nat × AV)} {m m' : List (Nat × AO)} {res : AV} (pid : Nat) (hf : C.P.funcs[f]? = some fn) (hb : fn.body = some c) (hn : args.length ≤ fn.ntmps) (hnd : (so.map (·.1)).Nodup)
    (hfr : (St.sem ⟨so, m⟩).Fresh pid) (hpn : hasL pid (valsOf so) = false) (hpa : hasL pid args = false) (h : ∀ us, awp C fn.ntmps c (postS C fn res m' pid (valsOf so) us) ⟨(entry args).slots, (pid, .pin (valsOf so) us) :: m⟩) (hmk : C.marks = [] := by rfl) : SCalls C n f args so m res m' := by
  intro w0 H L a w vals hr hra
  refine calls_of_wp hf hb ((wpIn_wide (n := 0)).1 ?_)
  have hlen := hra.length
  have hp := slots_pin (t := fun i => a.tmps.getD i undef) hnd hr.slot
  have h1 := hr.pinned hfr hp hpn
  have hen := entry_rep (C := C) (w0 := w) hn (RepL.setL (y := some (.tuple #[])) hpa hra)
  have h2 := h1.frame [] (n' := fn.ntmps) (a' := { tmps := vals.toArray ++ Array.replicate (fn.ntmps - vals.toArray.size) undef, defers := [] }) hen.1 rfl (ρ := (entry args).sem.ρ) hen.2
  have e0 : St.sem ⟨(entry args).slots, (pid, .pin (valsOf so) (so.map fun p => a.tmps.getD p.1 undef)) :: m⟩ = { ρ := (entry args).sem.ρ, μ := fun i => if i = pid then some (AO.pin (valsOf so) (so.map fun p => a.tmps.getD p.1 undef)) else (St.sem ⟨so, m⟩).μ i } := by
    unfold St.sem
    congr 1
    funext i
    simp only [lookO]
    by_cases hi : i = pid
    · subst hi; simp
    · rw [beq_ne (fun e => hi e.symm)]; simp [hi]
  have hC : { C with marks := [] } = C := by cases C; simp_all
  rw [← e0, hC] at h2
  refine wpIn_mono (h _ w0 H _ _ w h2 none) fun e a' w' hq => ?_
  obtain ⟨σ', H', L', hx, hr', hq⟩ := hq
  have fin : (∃ vs, ResOk C σ' fn.results.toList vs ∧ res = packR vs ∧ (∀ id ob, lookO m' id = some ob → lookO σ'.objs id = some ob) ∧ lookO σ'.objs pid = some (.pin (valsOf so) (so.map fun p => a.tmps.getD p.1 undef))) → a'.defers = [] ∧ ∃ v, (results fn a'.tmps).run C.P w' = .ok v w' ∧
      ∃ v' H' L', Ending.returned v = .returned v' ∧ Ext w0.heap.size H H' ∧ RepV H' res L' v' ∧ Rep C n w0 H' L' (St.sem ⟨so, m'⟩) a w' := by
    rintro ⟨vs, hres, rfl, hm, hpin⟩
    obtain ⟨us, hrun, hrl⟩ := res_run hr' _ _ hres
    have hlu := hrl.length
    obtain ⟨_, hps⟩ := hr'.objs pid _ hpin
    refine ⟨hr'.defers.trans hmk, if h : us.toArray.size = 1 then us.toArray[0] else .tuple us.toArray, ?_, _, H', L', rfl, hx, ?_,
      ⟨hr'.glob, hr'.heap, hr.size, pin_slots hps, fun id o ho => hr'.objs id o (hm id o ho), fun id id' o o' g x x' hne ho ho' => hr'.apart id id' o o' g x x' hne (hm id o ho) (hm id' o' ho'), hr'.below, hr.defers⟩⟩
    · show (do let vs ← fn.results.mapM (resOne a'.tmps); pure (if h : vs.size = 1 then vs[0] else .tuple vs) : Sem Value).run C.P w' = _
      have hm : (fn.results.mapM (resOne a'.tmps)).run C.P w' = .ok us.toArray w' := by
        rw [Array.mapM_eq_mapM_toList]
        simp [hrun]
      simp only [Sem.run_bind, hm, Result.andThen_ok, Sem.run_pure]
    · match vs, us, hrl, hlu with
      | [v], [u], hrc, _ =>
        simp only [packR]
        simp only [RepL] at hrc
        obtain ⟨x, r, e, hx, _⟩ := hrc
        cases e
        simpa using hx
      | [], us, hrc, hlu =>
        have : us = [] := List.eq_nil_of_length_eq_zero (by simpa using hlu)
        subst this
        simp only [packR, RepV]
        exact ⟨[], by simp, hrc⟩
      | v1 :: v2 :: vs, us, hrc, hlu =>
        simp only [packR, RepV]
        refine ⟨us, ?_, hrc⟩
        rw [dif_neg (by simp at hlu ⊢; omega)]
  cases e with
  | normal => exact fin hq
  | ret => exact fin hq
  | _ => exact hq.elim
theorem awp_regionS {C : Ctx} {n : Nat} {Q : Exit → St → Prop} {σ : St} {id : Nat} {ops : Array Oper} (os os2 : List Oper) (d : Nat) {y : Operand} {f : FuncId} {caps : List AV} {args : Array Operand} {tys : Array TypeId} {t : TypeId} {p : String} {af : Array Edge} (asx : List AV) (res : AV) (m' : List (Nat × AO))
    (hops : ops.toList = os ++ ⟨some d, .call { callee := .value y, args := args, argTypes := tys }, t, p, af, none⟩ :: os2) (hd : dstsB n ops.toList = true) (hb : callable C.P f = true)
    (h : aops C ops σ os fun _ σ1 => σ1.ev y = .clo f caps ∧ args.toList.map σ1.sem.ev ++ caps = asx ∧ SCalls C n f asx σ1.slots σ1.objs res m' ∧ aops C ops ⟨(d, res) :: σ1.slots, m'⟩ os2 fun _ σ2 => Q .normal σ2) :
    awp C n (.region id ops false) Q σ := fun w0 H L a w hr r => by
  obtain ⟨es, σ1, ht, hy, has, hS, es2, σ2, ht2, hq⟩ := h
  have hdst := dsts_spec hd
  refine wpIn_region ?_
  rw [List.range_eq_range']
  have hsz : ops.size = os.length + (os2.length + 1) := by
    have := congrArg List.length hops
    simpa using this
  rw [hsz, ← List.range'_append_1, List.range'_succ]
  refine lex_prefix (C := C) (n := n) (w0 := w0) r _ os 0 σ.sem σ1.sem es H L a w (by rw [hops]; simp) ht hr (fun o ho => hdst o (by rw [hops]; simp [ho])) fun a' w' H' L' hx hr' => ?_
  simp only [Nat.zero_add]
  rw [wpOpsIn_cons]
  have hi : ops[os.length]? = some ⟨some d, .call { callee := .value y, args := args, argTypes := tys }, t, p, af, none⟩ := by
    rw [← Array.getElem?_toList, hops]
    simp
  unfold wpOpIn
  simp only [hi]
  rw [if_pos (by simp [Region.wanted])]
  have hyv := hr'.ev y
  rw [ev_sem, hy] at hyv
  simp only [RepV] at hyv
  obtain ⟨cv, hev, hcr⟩ := hyv
  have hargs : ∀ (xs : List Operand), RepL H' (xs.map σ1.sem.ev) L' (xs.map a'.eval) := by
    intro xs
    induction xs with
    | nil => simp only [List.map_nil, RepL]
    | cons x xs ih => simp only [List.map_cons, RepL]; exact ⟨_, _, rfl, hr'.ev x, ih⟩
  have hal := (hargs args.toList).app hcr
  rw [has] at hal
  have hc := hS w0 H' L' a' w' _ hr' hal
  have e1 : (List.map a'.eval args.toList ++ cv).toArray = args.map a'.eval ++ cv.toArray := by apply Array.ext'; simp
  rw [e1] at hc
  refine wp_enter (run_call_val rfl hev (callable_spec hb).1 (callable_spec hb).2) (hc.mono ?_) r
  rintro e w2 ⟨v, H2, L2, rfl, hx2, hv2, hr2⟩
  refine ⟨v, rfl, ?_⟩
  have hdn : d < n := hdst ⟨some d, .call { callee := .value y, args := args, argTypes := tys }, t, p, af, none⟩ (by rw [hops]; simp) d rfl
  have hv := hr2.val (dst := some d) (fun d' hd' => by cases hd'; exact hdn) (x := res) (v := v) hv2 [] []
  rw [← sem_app] at hv
  have := lex_prefix (C := C) (n := n) (w0 := w0) (ops := ops) (Q := fun e a w => Post C n w0 H Q e a w) r [] os2 (os.length + 1) _ σ2.sem es2 H2 L2 _ w2 (by rw [hops]; simp) ht2 hv (fun o ho => hdst o (by rw [hops]; simp [ho])) fun a3 w3 H3 L3 hx3 hr3 => ⟨σ2, H3, L3, (hx.trans hx2).trans hx3, hr3, hq⟩
  rw [List.append_nil] at this
  exact this
theorem awp_regionSK {C : Ctx} {n : Nat} {Q : Exit → St → Prop} {σ : St} {id : Nat} {ops : Array Oper} (k d : Nat) (y : Operand) (f : FuncId) (caps : List AV) (args : Array Operand) (tys : Array TypeId) (t : TypeId) (p : String) (af : Array Edge) (asx : List AV) (res : AV) (m' : List (Nat × AO))
    (hk : ops.toList[k]? = some ⟨some d, .call { callee := .value y, args := args, argTypes := tys }, t, p, af, none⟩) (hd : dstsB n ops.toList = true) (hb : callable C.P f = true)
    (h : aops C ops σ (ops.toList.take k) fun _ σ1 => σ1.ev y = .clo f caps ∧ args.toList.map σ1.sem.ev ++ caps = asx ∧ SCalls C n f asx σ1.slots σ1.objs res m' ∧ aops C ops ⟨(d, res) :: σ1.slots, m'⟩ (ops.toList.drop (k + 1)) fun _ σ2 => Q .normal σ2) :
    awp C n (.region id ops false) Q σ := by
  obtain ⟨hl, hx⟩ := List.getElem?_eq_some_iff.1 hk
  refine awp_regionS (y := y) (tys := tys) (t := t) (p := p) (af := af) (ops.toList.take k) (ops.toList.drop (k + 1)) d asx res m' ?_ hd hb h
  have h1 := List.take_append_drop k ops.toList
  rw [List.drop_eq_getElem_cons hl, hx] at h1
  exact h1.symm
end Go.Ab

set_option linter.unusedVariables false
set_option linter.unusedSimpArgs false
namespace Go.Ab
open Go.RowKit
section
variable {C : Ctx} {ops : Array Oper} {s : List (Nat × AV)} {m : List (Nat × AO)} {d : Nat} {t : TypeId} {p : String} {af : Array Edge} {g : Option (Nat × Bool)} {os : List Oper} {K : List Eff → St → Prop}
theorem i_append {ty : TypeId} {a x : Operand} {e by' : Nat} {z : List Value} {id i e' : Nat} {k : IntKind} (id' : Nat) (xs ys : List Int) (m' : List (Nat × AO)) (hg : Gd ops s g) (ht : tyElem C.P ty = some (e, 1, by')) (hz : tyZero C.P e = some z) (hzl : z.length = 1)
    (hs : ev s a = .row id) (ho : lookO m id = some (.row e 1 (is k xs))) (hx : ev s x = .row i) (hi : lookO m i = some (.row e' 1 (is k ys))) (hb : (xs.length + ys.length) * by' ≤ 140737488355328) (hby : 0 < by')
    (hf : St.freshB ⟨s, m⟩ id' = true) (hm : delO m id = m') (kk : aops C ops ⟨(d, .row id') :: s, (id', .row e 1 (is k (xs ++ ys))) :: m'⟩ os fun es σ' => K ({ val := .row id', upd := [(id', some (.row e 1 (is k (xs ++ ys)))), (id, none)], use := [id, i], fresh := [id'] } :: es) σ') :
    aops C ops ⟨s, m⟩ (⟨some d, .call { callee := .builtin .append, args := #[a, x], argTypes := #[ty, ty] }, t, p, af, g⟩ :: os) K :=
  o_append id' (is k ys) (is k (xs ++ ys)) [id, i] m' hg ht rfl hz hzl hs ho (.inr ⟨i, e', hx, hi, rfl⟩) (by simp only [is_len, Nat.div_one]; exact hb) (by simp only [is_len]; have := Nat.le_mul_of_pos_right (xs.length + ys.length) hby; omega) (by simp [is]) hf hm kk
theorem i_slice {ty : TypeId} {x : Operand} {lo hi mx : Option Operand} {e by' : Nat} {k : IntKind} (xs : List Int) (l h : Nat) (hg : Gd ops s g) (ht : tyElem C.P ty = some (e, 1, by')) (hx : ev s x = .sl 1 (is k xs))
    (hlo : (St.sem ⟨s, m⟩).loOk lo l) (hhi : (St.sem ⟨s, m⟩).hiOk hi xs.length h) (hmx : (St.sem ⟨s, m⟩).mxOk mx hi.isSome h) (h1 : l ≤ h) (h2 : h ≤ xs.length)
    (kk : aops C ops ⟨(d, .sl 1 (is k ((xs.drop l).take (h - l)))) :: s, m⟩ os fun es σ' => K ({ val := .sl 1 (is k ((xs.drop l).take (h - l))) } :: es) σ') : aops C ops ⟨s, m⟩ (⟨some d, .slice ty x lo hi mx, t, p, af, g⟩ :: os) K :=
  o_slice l h _ hg ht hx (by simp [is]) hlo hhi hmx h1 h2 (by simp [is, List.map_take, List.map_drop]) kk
def AggEq (P : Program) (ty : TypeId) (xs ys : List Value) (q : Bool) : Prop := P.eqGuardType P.depth ty = false ∧ ∀ w, (Op.equalIn 10000 ty (.agg xs.toArray) (.agg ys.toArray)).run P w = .ok q w
theorem eqGuard_agg {P : Program} {op : BinOp} {t : TypeId} {x y : Operand} {xs ys : Array Value} (hm : P.eqGuardType P.depth t = false) (w : World) : (eqGuard op t x y (.agg xs) (.agg ys)).run P w = .ok () w := run_eqGuard_agg w op t x y xs ys hm
theorem o_pureA {op : Op} {x y : Operand} {xs ys : List Value} {v : Value} (hops : op.operands = #[x, y]) (hg : Gd ops s g) (hx : ev s x = .agg (xs.map .lit)) (hy : ev s y = .agg (ys.map .lit)) (h : ∀ ρ : Operand → Value, ρ x = .agg xs.toArray → ρ y = .agg ys.toArray → ∀ w, (execOp ρ ⟨some d, op, t, p, af, g⟩).run C.P w = .ok (.value v) w)
    (k : aops C ops ⟨(d, .lit v) :: s, m⟩ os fun es σ' => K ({ val := .lit v } :: es) σ') : aops C ops ⟨s, m⟩ (⟨some d, op, t, p, af, g⟩ :: os) K :=
  o_val hg (.pure v fun ρ hρ w => h ρ (hρ x (by simp [hops]) _ (by rw [ev_st, hx]; exact ⟨xs, rfl, rfl⟩)) (hρ y (by simp [hops]) _ (by rw [ev_st, hy]; exact ⟨ys, rfl, rfl⟩)) w) k
theorem o_eqlA {xt yt : TypeId} {x y : Operand} (xs ys : List Value) (q : Prop) [Decidable q] (hg : Gd ops s g) (hx : ev s x = .agg (xs.map .lit)) (hy : ev s y = .agg (ys.map .lit)) (he : AggEq C.P xt xs ys (decide q)) (kk : aops C ops ⟨(d, .lit (.bool (decide q))) :: s, m⟩ os fun es σ' => K ({ val := .lit (.bool (decide q)) } :: es) σ') :
    aops C ops ⟨s, m⟩ (⟨some d, .binOp .eql xt x y yt, t, p, af, g⟩ :: os) K := o_pureA rfl hg hx hy (fun ρ h1 h2 w => by
      simp only [execOp, h1, h2, Sem.run_bind, eqGuard_agg he.1, Result.andThen_ok, run_eql_struct, he.2, Sem.run_pure]) kk
end
def freshK : List (Nat × AV) → Bool
  | [] => true
  | (j, _) :: r => r.all (fun p => !Nat.beq p.1 j) && freshK r
theorem freshK_nodup : ∀ {so : List (Nat × AV)}, freshK so = true → (so.map (·.1)).Nodup
  | [], _ => by simp
  | (j, v) :: r, h => by
    simp only [freshK, Bool.and_eq_true] at h
    simp only [List.map_cons, List.nodup_cons]
    refine ⟨fun hm => ?_, freshK_nodup h.2⟩
    obtain ⟨p, hp, he⟩ := List.mem_map.1 hm
    have := List.all_eq_true.1 h.1 p hp
    rw [he] at this
    simp at this
theorem scalls_of_awpB {C : Ctx} {n : Nat} {f : FuncId} {fn : Func} {c : Code} {args : List AV} {so : List (Nat × AV)} {m m' : List (Nat × AO)} {res : AV} (pid : Nat) (hf : C.P.funcs[f]? = some fn) (hb : fn.body = some c) (hn : args.length ≤ fn.ntmps) (hnd : freshK so = true)
    (hfr : St.freshB ⟨so, m⟩ pid = true) (hpa : hasL pid args = false) (h : ∀ us, awp C fn.ntmps c (postS C fn res m' pid (valsOf so) us) ⟨(entry args).slots, (pid, .pin (valsOf so) us) :: m⟩) (hmk : C.marks = [] := by rfl) : SCalls C n f args so m res m' :=
  scalls_of_awp pid hf hb hn (freshK_nodup hnd) (fresh_sem hfr) (valsOf_has (by simp only [St.freshB, Bool.and_eq_true] at hfr; exact hfr.1)) hpa h hmk
theorem lookO_appS : ∀ {m e : List (Nat × AO)} {id : Nat} {ob : AO}, lookO m id = some ob → lookO (m ++ e) id = some ob
  | [], _, _, _, h => by simp [lookO] at h
  | (j, v) :: r, e, id, ob, h => by
    simp only [List.cons_append, lookO] at h ⊢
    cases hb : Nat.beq j id with
    | true => rw [hb] at h; exact h
    | false => rw [hb] at h; exact lookO_appS h
theorem postS_fin {C : Ctx} {fn : Func} {res : AV} {m' extra : List (Nat × AO)} {pid : Nat} {cs : List AV} {us : List Value} {s : List (Nat × AV)} (h : ∃ vs, ResOk C ⟨s, (pid, .pin cs us) :: (m' ++ extra)⟩ fn.results.toList vs ∧ res = packR vs) (hn : lookO m' pid = none) :
    ∃ vs, ResOk C ⟨s, (pid, .pin cs us) :: (m' ++ extra)⟩ fn.results.toList vs ∧ res = packR vs ∧ (∀ id ob, lookO m' id = some ob → lookO ((pid, .pin cs us) :: (m' ++ extra)) id = some ob) ∧ lookO ((pid, AO.pin cs us) :: (m' ++ extra)) pid = some (.pin cs us) := by
  obtain ⟨vs, h1, h2⟩ := h
  refine ⟨vs, h1, h2, fun id ob ho => ?_, by simp [lookO]⟩
  simp only [lookO]
  cases hb : Nat.beq pid id with
  | true =>
    have := Nat.eq_of_beq_eq_true hb
    subst this
    rw [hn] at ho
    cases ho
  | false => exact lookO_appS ho
theorem postS_ret {C : Ctx} {fn : Func} {res : AV} {m' extra : List (Nat × AO)} {pid : Nat} {cs : List AV} {us : List Value} {s : List (Nat × AV)} (h : ∃ vs, ResOk C ⟨s, (pid, .pin cs us) :: (m' ++ extra)⟩ fn.results.toList vs ∧ res = packR vs) (hn : lookO m' pid = none) :
    postS C fn res m' pid cs us .ret ⟨s, (pid, .pin cs us) :: (m' ++ extra)⟩ := postS_fin h hn
theorem ba_list {a b : ByteArray} : a.toList = b.toList ↔ a = b := by
  constructor
  · intro h
    rw [ByteArray.toList_eq, ByteArray.toList_eq] at h
    obtain ⟨⟨x⟩⟩ := a
    obtain ⟨⟨y⟩⟩ := b
    simp at h
    rw [h]
  · intro h; rw [h]
theorem ba_eq (a b : ByteArray) : (a.toList == b.toList) = decide (a = b) := by
  by_cases h : a = b
  · simp [h]
  · simp [h, ba_list]
theorem part_str {P : Program} {t : TypeId} (hu : P.underlying t = some .string) (xs : Array Value) (off : Nat) (w : World) : (part t xs off).run P w = (match xs[off]? with | some v => (pure v : Sem Value) | none => stuck "part: no such cell").run P w := by
  simp [part, isAgg, run_underlying hu]
  cases xs[off]? <;> rfl
end Go.Ab

set_option linter.unusedVariables false
set_option linter.unusedSimpArgs false
namespace Go.Mth
open Go.Ab
def linK (k : IntKind) (l : LinZ) : AV := .agg [bp (l.mul < 0), .sl 1 (ns k (digs l.mul.natAbs)), bp (l.add < 0), .sl 1 (ns k (digs l.add.natAbs)), bp (l.div < 0), .sl 1 (ns k (digs l.div.natAbs))]
def linW (l : LinZ) : AV := linK .u32 l
def linR (l : LinZ) : AV := linK .i64 l
theorem linK_eq {k : IntKind} {l : LinZ} {a b c : Int} (h1 : l.mul = a) (h2 : l.add = b) (h3 : l.div = c) : linK k l = .agg [bp (a < 0), .sl 1 (ns k (digs a.natAbs)), bp (b < 0), .sl 1 (ns k (digs b.natAbs)), bp (c < 0), .sl 1 (ns k (digs c.natAbs))] := by subst h1; subst h2; subst h3; rfl
structure LineS where
  mul : ByteArray
  add : ByteArray
  div : ByteArray
def lineV (l : LineS) : AV := .agg [.lit (.string l.mul), .lit (.string l.add), .lit (.string l.div)]
def noS : ByteArray := { data := #[] }
def lineT (l : LinZ) : LineS := ⟨txt l.mul, txt l.add, txt l.div⟩
def OkW (m : MapM) (w : List Int) : Prop := IsW m w ∧ w.length ≤ 200
noncomputable instance (m : MapM) (w : List Int) : Decidable (OkW m w) := Classical.propDecidable _
def FitK (m : MapM) (z : Int) (k : Nat) : Prop := ∀ j, j < k → Fit (iterZ m j z)
noncomputable instance (m : MapM) (z : Int) (k : Nat) : Decidable (FitK m z k) := Classical.propDecidable _
noncomputable def wordE (m : MapM) (a : ByteArray) (K : Int) : Nat := if okM m = true ∧ okS a = true then if 0 ≤ K ∧ K ≤ 200 then if FitK m (numS a) K.toNat then 0 else 3 else 2 else 1
noncomputable def wordL (m : MapM) (a : ByteArray) (K : Int) : List Int := if wordE m a K = 0 then wordZ m (numS a) K.toNat else []
theorem wordE_1 {m : MapM} {a : ByteArray} {K : Int} (h : ¬ (okM m = true ∧ okS a = true)) : wordE m a K = 1 ∧ wordL m a K = [] := by
  have : wordE m a K = 1 := by unfold wordE; rw [if_neg h]
  exact ⟨this, by unfold wordL; rw [this]; rfl⟩
theorem wordE_2 {m : MapM} {a : ByteArray} {K : Int} (h : okM m = true ∧ okS a = true) (h2 : ¬ (0 ≤ K ∧ K ≤ 200)) : wordE m a K = 2 ∧ wordL m a K = [] := by
  have : wordE m a K = 2 := by unfold wordE; rw [if_pos h, if_neg h2]
  exact ⟨this, by unfold wordL; rw [this]; rfl⟩
theorem wordE_3 {m : MapM} {a : ByteArray} {K : Int} (h : okM m = true ∧ okS a = true) (h2 : 0 ≤ K ∧ K ≤ 200) (h3 : ¬ FitK m (numS a) K.toNat) : wordE m a K = 3 ∧ wordL m a K = [] := by
  have : wordE m a K = 3 := by unfold wordE; rw [if_pos h, if_pos h2, if_neg h3]
  exact ⟨this, by unfold wordL; rw [this]; rfl⟩
theorem wordE_0 {m : MapM} {a : ByteArray} {K : Int} (h : okM m = true ∧ okS a = true) (h2 : 0 ≤ K ∧ K ≤ 200) (h3 : FitK m (numS a) K.toNat) : wordE m a K = 0 ∧ wordL m a K = wordZ m (numS a) K.toNat := by
  have : wordE m a K = 0 := by unfold wordE; rw [if_pos h, if_pos h2, if_pos h3]
  exact ⟨this, by unfold wordL; rw [this]; rfl⟩
theorem fitK_snoc {m : MapM} {z : Int} {k : Nat} (h : FitK m z k) (h2 : Fit (iterZ m k z)) : FitK m z (k + 1) := fun j hj => by
  rcases Nat.lt_or_ge j k with e | e
  · exact h j e
  · rw [show j = k by omega]; exact h2
noncomputable def lineE (m : MapM) (w : List Int) : Nat := if okM m = true then if OkW m w then 0 else 2 else 1
noncomputable def lineS (m : MapM) (w : List Int) : LineS := if okM m = true ∧ OkW m w then lineT (lineZ m w) else ⟨noS, noS, noS⟩
theorem line_1 {m : MapM} {w : List Int} (h : ¬ okM m = true) : lineE m w = 1 ∧ lineS m w = ⟨noS, noS, noS⟩ := ⟨by unfold lineE; rw [if_neg h], by unfold lineS; rw [if_neg fun e => h e.1]⟩
theorem line_2 {m : MapM} {w : List Int} (h : okM m = true) (h2 : ¬ OkW m w) : lineE m w = 2 ∧ lineS m w = ⟨noS, noS, noS⟩ := ⟨by unfold lineE; rw [if_pos h, if_neg h2], by unfold lineS; rw [if_neg fun e => h2 e.2]⟩
theorem line_0 {m : MapM} {w : List Int} (h : okM m = true) (h2 : OkW m w) : lineE m w = 0 ∧ lineS m w = lineT (lineZ m w) := ⟨by unfold lineE; rw [if_pos h, if_pos h2], by unfold lineS; rw [if_pos ⟨h, h2⟩]⟩
noncomputable def restE (m : MapM) (w : List Int) : Nat := if okM m = true then if OkW m w ∧ freeM m then 0 else 2 else 1
noncomputable def restS (m : MapM) (w : List Int) : ByteArray := if okM m = true ∧ OkW m w ∧ freeM m then txt (restZ m w).1 else noS
noncomputable def restD (m : MapM) (w : List Int) : ByteArray := if okM m = true ∧ OkW m w ∧ freeM m then txt (m.mod ^ w.length) else noS
theorem rest_1 {m : MapM} {w : List Int} (h : ¬ okM m = true) : restE m w = 1 ∧ restS m w = noS ∧ restD m w = noS := ⟨by unfold restE; rw [if_neg h], by unfold restS; rw [if_neg fun e => h e.1], by unfold restD; rw [if_neg fun e => h e.1]⟩
theorem rest_2 {m : MapM} {w : List Int} (h : okM m = true) (h2 : ¬ (OkW m w ∧ freeM m)) : restE m w = 2 ∧ restS m w = noS ∧ restD m w = noS := ⟨by unfold restE; rw [if_pos h, if_neg h2], by unfold restS; rw [if_neg fun e => h2 e.2], by unfold restD; rw [if_neg fun e => h2 e.2]⟩
theorem rest_0 {m : MapM} {w : List Int} (h : okM m = true) (h2 : OkW m w ∧ freeM m) : restE m w = 0 ∧ restS m w = txt (restZ m w).1 ∧ restD m w = txt (m.mod ^ w.length) := ⟨by unfold restE; rw [if_pos h, if_pos h2], by unfold restS; rw [if_pos ⟨h, h2⟩], by unfold restD; rw [if_pos ⟨h, h2⟩]⟩
noncomputable def okL (l : LineS) : Bool := okS l.mul && okS l.add && okS l.div
noncomputable def appV (l : LineS) (a : ByteArray) : Int := numS l.mul * numS a + numS l.add
noncomputable def appE (l : LineS) (a : ByteArray) : Nat := if okL l = true ∧ okS a = true then if 0 < numS l.div then if Fit (appV l a) then 0 else 3 else 2 else 1
def AppB (l : LineS) (a : ByteArray) : Prop := okL l = true ∧ okS a = true ∧ 0 < numS l.div ∧ Fit (appV l a) ∧ appV l a % numS l.div = 0
noncomputable instance (l : LineS) (a : ByteArray) : Decidable (AppB l a) := Classical.propDecidable _
noncomputable def appS (l : LineS) (a : ByteArray) : ByteArray := if AppB l a then txt (appV l a / numS l.div) else noS
theorem app_1 {l : LineS} {a : ByteArray} (h : ¬ (okL l = true ∧ okS a = true)) : appE l a = 1 ∧ ¬ AppB l a ∧ appS l a = noS := by
  have hb : ¬ AppB l a := fun e => h ⟨e.1, e.2.1⟩
  exact ⟨by unfold appE; rw [if_neg h], hb, by unfold appS; rw [if_neg hb]⟩
theorem app_2 {l : LineS} {a : ByteArray} (h : okL l = true ∧ okS a = true) (h2 : ¬ 0 < numS l.div) : appE l a = 2 ∧ ¬ AppB l a ∧ appS l a = noS := by
  have hb : ¬ AppB l a := fun e => h2 e.2.2.1
  exact ⟨by unfold appE; rw [if_pos h, if_neg h2], hb, by unfold appS; rw [if_neg hb]⟩
theorem app_3 {l : LineS} {a : ByteArray} (h : okL l = true ∧ okS a = true) (h2 : 0 < numS l.div) (h3 : ¬ Fit (appV l a)) : appE l a = 3 ∧ ¬ AppB l a ∧ appS l a = noS := by
  have hb : ¬ AppB l a := fun e => h3 e.2.2.2.1
  exact ⟨by unfold appE; rw [if_pos h, if_pos h2, if_neg h3], hb, by unfold appS; rw [if_neg hb]⟩
theorem app_no {l : LineS} {a : ByteArray} (h : okL l = true ∧ okS a = true) (h2 : 0 < numS l.div) (h3 : Fit (appV l a)) (h4 : ¬ appV l a % numS l.div = 0) : appE l a = 0 ∧ ¬ AppB l a ∧ appS l a = noS := by
  have hb : ¬ AppB l a := fun e => h4 e.2.2.2.2
  exact ⟨by unfold appE; rw [if_pos h, if_pos h2, if_pos h3], hb, by unfold appS; rw [if_neg hb]⟩
theorem app_yes {l : LineS} {a : ByteArray} (h : okL l = true ∧ okS a = true) (h2 : 0 < numS l.div) (h3 : Fit (appV l a)) (h4 : appV l a % numS l.div = 0) : appE l a = 0 ∧ AppB l a ∧ appS l a = txt (appV l a / numS l.div) := by
  have hb : AppB l a := ⟨h.1, h.2, h2, h3, h4⟩
  exact ⟨by unfold appE; rw [if_pos h, if_pos h2, if_pos h3], hb, by unfold appS; rw [if_pos hb]⟩
theorem num_one : numS { data := #[49] } = 1 ∧ okS { data := #[49] } = true := by
  refine ⟨by decide, okS_yes ⟨by decide, by decide, by decide, fun i h1 h2 => ?_⟩⟩
  have : i = 0 := by simp [ByteArray.size] at h2; omega
  subst this
  decide
theorem num_zero : numS { data := #[48] } = 0 := by decide
theorem app_one {l : LineS} {a : ByteArray} (h : okL l = true ∧ okS a = true) (h1 : l.mul = { data := #[49] }) (h2 : l.add = { data := #[48] }) (h3 : l.div = { data := #[49] }) : appE l a = 0 ∧ AppB l a ∧ appS l a = a := by
  have hv : appV l a = numS a := by unfold appV; rw [h1, h2, num_one.1, num_zero]; omega
  have hd : numS l.div = 1 := by rw [h3, num_one.1]
  have := app_yes h (by rw [hd]; decide) (by rw [hv]; exact fit_numS (okS_iff.1 h.2)) (by rw [hd, Int.emod_one])
  refine ⟨this.1, this.2.1, this.2.2.trans ?_⟩
  rw [hd, hv, Int.ediv_one, txt_numS (okS_iff.1 h.2)]
theorem line_len {m : MapM} (hm : OkM m) : ∀ w : List Int, IsW m w → (digs (lineZ m w).mul.natAbs).length ≤ 3 * w.length + 3 ∧ (digs (lineZ m w).add.natAbs).length ≤ 3 * w.length + 3 ∧ (digs (lineZ m w).div.natAbs).length ≤ 3 * w.length + 3 := by
  refine snoc_ind (P := fun w => IsW m w → (digs (lineZ m w).mul.natAbs).length ≤ 3 * w.length + 3 ∧ (digs (lineZ m w).add.natAbs).length ≤ 3 * w.length + 3 ∧ (digs (lineZ m w).div.natAbs).length ≤ 3 * w.length + 3) (fun _ => ?_) fun w r ih hw => ?_
  · have h1 := small_len (z := 1) (by decide)
    have h0 : (digs (0 : Int).natAbs).length = 0 := by simp [digs_zero]
    refine ⟨?_, ?_, ?_⟩
    · show (digs (1 : Int).natAbs).length ≤ _; omega
    · show (digs (0 : Int).natAbs).length ≤ _; omega
    · show (digs (1 : Int).natAbs).length ≤ _; omega
  · obtain ⟨i1, i2, i3⟩ := ih fun x hx => hw x (by simp [hx])
    obtain ⟨o1, o2, o3, o4, o5⟩ := hm
    obtain ⟨hr0, hr1⟩ := hw r (by simp)
    have hr := o5 r.toNat (by omega)
    have hq := small_len (z := mulM m r) (by unfold mulM; omega)
    have ha := small_len (z := addM m r) (by unfold addM; omega)
    have hd := small_len (z := m.mod) (by omega)
    have e1 := len_mulZ (mulM m r) (lineZ m w).mul
    have e2 := len_mulZ (mulM m r) (lineZ m w).add
    have e3 := len_mulZ (addM m r) (lineZ m w).div
    have e4 := len_mulZ (lineZ m w).div m.mod
    have e5 := len_addZ (mulM m r * (lineZ m w).add) (addM m r * (lineZ m w).div)
    rw [lineZ_snoc, List.length_append, List.length_singleton]
    refine ⟨?_, ?_, ?_⟩
    · show (digs (mulM m r * (lineZ m w).mul).natAbs).length ≤ _; omega
    · show (digs (mulM m r * (lineZ m w).add + addM m r * (lineZ m w).div).natAbs).length ≤ _; omega
    · show (digs ((lineZ m w).div * m.mod).natAbs).length ≤ _; omega
theorem isW_take {m : MapM} {w : List Int} (h : IsW m w) (i : Nat) : IsW m (w.take i) := fun r hr => h r (List.mem_of_mem_take hr)
theorem isW_get {m : MapM} {w : List Int} (h : IsW m w) {i : Nat} (hi : i < w.length) : 0 ≤ w.getD i 0 ∧ w.getD i 0 < m.mod := h _ (by rw [List.getD_eq_getElem?_getD, List.getElem?_eq_getElem hi]; simp)
theorem take_snoc {w : List Int} {i : Nat} (hi : i < w.length) : w.take (i + 1) = w.take i ++ [w.getD i 0] := by
  rw [List.getD_eq_getElem?_getD, List.getElem?_eq_getElem hi, List.take_add_one, List.getElem?_eq_getElem hi]; rfl
theorem lineZ_next {m : MapM} {w : List Int} {i : Nat} (hi : i < w.length) : thenZ m (lineZ m (w.take i)) (w.getD i 0) = lineZ m (w.take (i + 1)) := by rw [take_snoc hi, lineZ_snoc]
theorem isW_of {m : MapM} {w : List Int} (h : ∀ k, k < w.length → 0 ≤ w.getD k 0 ∧ w.getD k 0 < m.mod) : IsW m w := fun r hr => by
  obtain ⟨k, hk, e⟩ := List.getElem_of_mem hr
  have := h k hk
  rw [List.getD_eq_getElem?_getD, List.getElem?_eq_getElem hk] at this
  subst e
  exact this
theorem lookT_min {p n a r : Int} (hn : 0 < n) (hn2 : n ≤ 12) (hp : Nat.gcd p.natAbs n.toNat = 1) (hr : 0 ≤ r) (hr2 : r < n) {s : Nat} (hs : s < lookT p n a r) : (a + (s : Int) * p) % n ≠ r := by
  intro he
  have h0 : ((List.range n.toNat).find? fun (t : Nat) => decide ((a + (t : Int) * p) % n = r)) ≠ none := by
    intro hn0
    unfold lookT at hs
    rw [hn0] at hs
    simp at hs
  obtain ⟨u, hu⟩ := Option.ne_none_iff_exists'.1 h0
  unfold lookT at hs
  rw [hu] at hs
  have := (List.find?_range_eq_some.1 hu).2.2 s hs
  simp [he] at this
theorem rest_step {m : MapM} (hm : OkM m) (hf : freeM m) {w : List Int} (hw : IsW m w) {i : Nat} (hi : i < w.length) {R : Int} (hR : R = (restZ m (w.take i)).1) {T : Nat} (hT : T = lookT (lineZ m (w.take i)).mul m.mod (((lineZ m (w.take i)).mul * R + (lineZ m (w.take i)).add) / (lineZ m (w.take i)).div) (w.getD i 0)) :
    (T : Int) < m.mod ∧ ((((lineZ m (w.take i)).mul * R + (lineZ m (w.take i)).add) / (lineZ m (w.take i)).div) + (T : Int) * (lineZ m (w.take i)).mul) % m.mod = w.getD i 0 ∧
    (∀ s : Nat, s < T → ((((lineZ m (w.take i)).mul * R + (lineZ m (w.take i)).add) / (lineZ m (w.take i)).div) + (s : Int) * (lineZ m (w.take i)).mul) % m.mod ≠ w.getD i 0) ∧ R + (T : Int) * m.mod ^ i = (restZ m (w.take (i + 1))).1 := by
  have hm2 := hm
  obtain ⟨o1, o2, o3, o4, o5⟩ := hm2
  obtain ⟨h1, h2, h3, h4⟩ := restZ_ok hm hf (w.take i) (isW_take hw i)
  obtain ⟨hr0, hr1⟩ := isW_get hw hi
  have hcop : Nat.gcd (lineZ m (w.take i)).mul.natAbs m.mod.toNat = 1 := by
    have := prod_line m (restZ m (w.take i)).1 (w.take i).length
    rw [h4] at this
    rw [← this]; exact prod_free hm hf _ _
  subst hT
  obtain ⟨l1, l2⟩ := lookT_ok (p := (lineZ m (w.take i)).mul) (a := ((lineZ m (w.take i)).mul * R + (lineZ m (w.take i)).add) / (lineZ m (w.take i)).div) (by omega) o2 hcop hr0 hr1
  refine ⟨l1, l2, fun s hs => lookT_min (by omega) o2 hcop hr0 hr1 hs, ?_⟩
  rw [take_snoc hi, restZ_snoc]
  unfold nextR
  have hd := lineZ_div m (w.take i)
  rw [List.length_take, Nat.min_eq_left (by omega)] at hd
  rw [h1, hR, ← hd]
theorem len_ediv (z : Int) {d : Int} (hd : 0 < d) : (digs (z / d).natAbs).length ≤ (digs z.natAbs).length + 1 := by
  rcases Int.lt_or_le 1 d with h | h
  · exact len_divZ z (by omega)
  · rw [show d = 1 by omega, Int.ediv_one]; omega
theorem sgn_z0 {x : Int} : sgn x = 0 ↔ x = 0 := by unfold sgn; repeat' split <;> omega
theorem bp_yes {q : Prop} [Decidable q] (h : q) : bp q = .lit (.bool true) := by unfold bp; rw [decide_eq_true h]
theorem bp_no {q : Prop} [Decidable q] (h : ¬ q) : bp q = .lit (.bool false) := by unfold bp; rw [decide_eq_false h]
end Go.Mth

set_option linter.unusedVariables false
set_option linter.unusedSimpArgs false
namespace Go.Proofs.YtbilndahjkimkaaDoor
open Go Go.Ab Go.Mth
theorem fieldsLine : Tryd.prog.fieldsOf 41 = #[{ name := "Mul", type := 9, offset := 0, embedded := false, tag := "", pkgPath := "", byteOffset := 0 }, { name := "Add", type := 9, offset := 1, embedded := false, tag := "", pkgPath := "", byteOffset := 16 }, { name := "Div", type := 9, offset := 2, embedded := false, tag := "", pkgPath := "", byteOffset := 32 }] := by kernel_rfl
theorem eq_api_Line (a1 a2 a3 b1 b2 b3 : ByteArray) : AggEq cx.P 41 [.string a1, .string a2, .string a3] [.string b1, .string b2, .string b3] (decide (a1 = b1 ∧ a2 = b2 ∧ a3 = b3)) := by
  refine ⟨by kernel_rfl, fun w => ?_⟩
  have hS : Tryd.prog.underlying 41 = some (.struct (Tryd.prog.fieldsOf 41)) := by kernel_rfl
  show (Op.equalIn 10000 41 _ _).run Tryd.prog w = _
  rw [show (10000 : Nat) = 9998 + 1 + 1 from rfl, run_equalIn_agg w (9998 + 1) _ _ _ hS (by kernel_rfl), fieldsLine]
  have uS : Tryd.prog.underlying 9 = some .string := by kernel_rfl
  simp only [Op.eqFields, part_str uS, Sem.run_bind, Sem.run_ite, run_equalIn_string _ _ _ _ _ uS]
  by_cases h1 : a1 = b1 <;> by_cases h2 : a2 = b2 <;> by_cases h3 : a3 = b3 <;> simp [ba_eq, run_equalIn_string _ _ _ _ _ uS, h1, h2, h3]
end Go.Proofs.YtbilndahjkimkaaDoor

set_option linter.unusedVariables false
set_option linter.unusedSimpArgs false
namespace Go.Proofs.YtbilndahjkimkaaDoor
open Go Go.Ab Go.Mth
theorem Wr_tO79 : tyZero cx.P 79 = some [(Go.Value.bool false), (Go.Value.slice none 0 0)] := by kernel_rfl
theorem Wr_tU77 : cx.P.underlying 77 = some (.slice 115) := by kernel_rfl
theorem Wr_tE77 : tyElem cx.P 77 = some (115, 1, 4) := by kernel_rfl
theorem Wr_tS115 : tySc cx.P 115 = true := by kernel_rfl
theorem Wr_tP79 : tyPlaces cx.P 79 = some (fun i => (#[(0, 1), (1, 1)] : Array (Nat × Nat))[i]?) := by kernel_rfl
theorem Wr_tZ79 : tySize cx.P 79 = some 2 := by kernel_rfl
theorem Wr_tA79 : tyAgg cx.P 79 = some 2 := by kernel_rfl
theorem Wr_tO115 : tyZero cx.P 115 = some [(Go.Value.int IntKind.u32 0)] := by kernel_rfl
theorem Wr_tI115 : tyInt cx.P 115 = some .u32 := by kernel_rfl
theorem Wr_tI110 : tyInt cx.P 110 = some .u64 := by kernel_rfl
theorem Wr_tC81 : callable cx.P 81 = true := by kernel_rfl
theorem Wr_tF79_1 : tyField cx.P 79 1 = some (1, 77) := by kernel_rfl
theorem Wr_tS77 : tySc cx.P 77 = true := by kernel_rfl
theorem Wr_tC96 : callable cx.P 96 = true := by kernel_rfl
theorem Wr_tC87 : callable cx.P 87 = true := by kernel_rfl
theorem Wr_tC97 : callable cx.P 97 = true := by kernel_rfl
theorem Wr_tZ115 : tySize cx.P 115 = some 1 := by kernel_rfl
theorem Wr_tC88 : callable cx.P 88 = true := by kernel_rfl
theorem c_wTrimX (neg : Bool) (xs : List Nat) (hx : Dig xs) : ECalls cx 81 [(AV.lit (.bool (neg))), (AV.sl 1 (ns .u32 (xs)))] (intC (sg neg (val xs))) := by
  refine ecalls_of_awp Tryd.func81 (c := _) rfl (Nat.le_of_ble_eq_true rfl) ?_
  show awp cx 30 _ (postF cx Tryd.f81 _) ⟨[(0, (AV.lit (.bool (neg)))), (1, (AV.sl 1 (ns .u32 (xs))))], []⟩
  refine awp_bound (i := 1) rfl fun hb => ?_
  replace hb := n_bnd hb
  refine awp_seq fun K0 hK0 => ?_
  refine awp_region rfl ?_
  refine o_alloc 2 [(AV.lit (.bool false)), (AV.lit (.slice none 0 0))] Gd.none Wr_tO79 rfl rfl rfl ?_
  refine aops_end ?_
  refine hK0 _ ?_
  refine awp_seq fun K1 hK1 => ?_
  refine awp_region rfl ?_
  refine o_move (AV.sl 1 (ns .u32 (xs))) Gd.none rfl ?_
  refine n_len (xs) Gd.none Wr_tU77 rfl ?_
  refine o_assign (nm .i64 ((xs).length)) Gd.none rfl ?_
  refine aops_end ?_
  refine hK1 _ ?_
  refine awp_seq fun K2 hK2 => ?_
  refine awp_block ?_
  refine awp_loopR (fun κ σ => ∃ (n : Nat), (n ≤ xs.length) ∧ (val (xs.take n) = val xs) ∧ (n) = κ ∧ σ = ⟨[(0, (AV.lit (.bool (neg)))), (1, (AV.sl 1 (ns .u32 (xs)))), (4, (AV.ref 2 (0))), (5, (nm .i64 (n)))], [(2, (AO.var 79 [(AV.lit (.bool false)), (AV.lit (.slice none 0 0))]))]⟩) ⟨_, _, ⟨xs.length, (Nat.le_refl _), (by rw [List.take_length]), rfl, rfl⟩, ?wk0⟩ ?rd0
  case wk0 =>
    exact Wk.sub (And.intro rfl (And.intro rfl (And.intro rfl (And.intro (by first | rfl | exact congrArg (nm _) (by omega) | exact nm_int (by omega) | exact nm_int (by simp [IntKind.wrap, IntKind.bits, IntKind.signed]; omega)) (trivial))))) (And.intro rfl (trivial))
  rintro κ _ ⟨n, hn, hv, rfl, rfl⟩
  refine awp_seq fun K3 hK3 => ?_
  refine awp_seq fun K4 hK4 => ?_
  refine awp_region rfl ?_
  refine o_move (nm .i64 (n)) Gd.none rfl ?_
  refine n_gtr (n) (0) Gd.none rfl rfl ?_
  refine o_move (bp ((0) < (n))) Gd.none rfl ?_
  refine o_splitP (q := (0) < (n)) 10 rfl (fun h1 => ?_) (fun h1 => ?_)
  · refine o_move (AV.sl 1 (ns .u32 (xs))) (Gd.yes rfl rfl (decide_eq_true h1)) rfl ?_
    refine o_move (nm .i64 (n)) (Gd.yes rfl rfl (decide_eq_true h1)) rfl ?_
    refine n_sub (n) (1) (Gd.yes rfl rfl (decide_eq_true h1)) rfl rfl (by omega) (by simp only [topOf]; omega) ?_
    refine n_index (xs) ((n) - (1)) (Gd.yes rfl rfl (decide_eq_true h1)) Wr_tE77 rfl rfl (by omega) ?_
    refine n_loadI (xs) ((n) - (1)) (Gd.yes rfl rfl (decide_eq_true h1)) Wr_tS115 rfl (by omega) ?_
    refine n_eql ((xs).getD ((n) - (1)) 0) (0) (Gd.yes rfl rfl (decide_eq_true h1)) rfl rfl ?_
    refine o_pickT (b := decide ((0) < (n))) (bp (((xs).getD ((n) - (1)) 0) = (0))) Gd.none rfl (decide_eq_true h1) rfl ?_
    refine aops_end ?_
    refine hK4 _ ?_
    refine awp_condQ (q := ((xs).getD ((n) - (1)) 0) = (0)) rfl (fun h2 => ?_) (fun h2 => ?_)
    · refine awp_skip ?_
      refine hK3 _ ?_
      refine awp_block ?_
      refine awp_region rfl ?_
      refine o_move (nm .i64 (n)) Gd.none rfl ?_
      refine n_sub (n) (1) Gd.none rfl rfl (by omega) (by simp only [topOf]; omega) ?_
      refine o_assign (nm .i64 ((n) - (1))) Gd.none rfl ?_
      refine aops_end ?_
      refine ⟨_, _, ?lt, ⟨n - 1, (by omega), (by rw [← take_getD_zero (by assumption) hn (by assumption)]; exact hv), rfl, rfl⟩, ?wk⟩
      case lt => omega
      case wk => exact Wk.sub (And.intro rfl (And.intro rfl (And.intro rfl (And.intro (by first | rfl | exact congrArg (nm _) (by omega) | exact nm_int (by omega) | exact nm_int (by simp [IntKind.wrap, IntKind.bits, IntKind.signed]; omega)) (trivial))))) (And.intro rfl (trivial))
    · refine awp_exit ?_
      refine hK2 _ ?_
      refine awp_seq fun K5 hK5 => ?_
      refine awp_region rfl ?_
      refine o_move (AV.lit (.bool (neg))) Gd.none rfl ?_
      refine o_move (AV.lit (.bool (neg))) Gd.none rfl ?_
      refine o_split (b := neg) 21 rfl (fun h3 => ?_) (fun h3 => ?_)
      · refine o_move (nm .i64 (n)) (Gd.yes rfl rfl h3) rfl ?_
        refine n_gtr (n) (0) (Gd.yes rfl rfl h3) rfl rfl ?_
        refine o_pickT (b := neg) (bp ((0) < (n))) Gd.none rfl h3 rfl ?_
        refine o_move (AV.sl 1 (ns .u32 (xs))) Gd.none rfl ?_
        refine o_move (nm .i64 (n)) Gd.none rfl ?_
        refine o_move (nm .i64 (n)) Gd.none rfl ?_
        refine n_sliceX (xs) (0) (n) Gd.none Wr_tE77 rfl rfl (hi_nm rfl) (mx_nm rfl) rfl (by omega) (by omega) ?_
        refine o_build [(bp ((0) < (n))), (AV.slc 1 (ns .u32 (((xs).drop (0)).take (n - 0))) (n - 0))] [(0, [(bp ((0) < (n)))]), (1, [(AV.slc 1 (ns .u32 (((xs).drop (0)).take (n - 0))) (n - 0))])] Gd.none Wr_tP79 Wr_tO79 rfl rfl rfl ?_
        refine o_store [(2, (AO.var 79 [(bp ((0) < (n))), (AV.slc 1 (ns .u32 (((xs).drop (0)).take (n - 0))) (n - 0))]))] Gd.none Wr_tZ79 rfl rfl rfl rfl rfl rfl ?_
        refine aops_end ?_
        refine hK5 _ ?_
        refine awp_ret ?_
        refine post_ret ⟨[(AV.agg [(bp ((0) < (n))), (AV.slc 1 (ns .u32 (((xs).drop (0)).take (n - 0))) (n - 0))])], And.intro ⟨2, (AO.var 79 [(bp ((0) < (n))), (AV.slc 1 (ns .u32 (((xs).drop (0)).take (n - 0))) (n - 0))]), rfl, rfl, rfl, Or.inl ⟨Wr_tA79, AV.le_refl _⟩⟩ (trivial), rfl, ?_⟩
        subst h3
        exact (trimc_fin (neg := true) hx hn hv (by first | (left; omega) | (right; assumption))).symm
      · refine o_skip (b := neg) rfl rfl h3 ?_
        refine o_skip (b := neg) rfl rfl h3 ?_
        refine o_pickF (b := neg) (AV.lit (.bool false)) Gd.none rfl h3 rfl ?_
        refine o_move (AV.sl 1 (ns .u32 (xs))) Gd.none rfl ?_
        refine o_move (nm .i64 (n)) Gd.none rfl ?_
        refine o_move (nm .i64 (n)) Gd.none rfl ?_
        refine n_sliceX (xs) (0) (n) Gd.none Wr_tE77 rfl rfl (hi_nm rfl) (mx_nm rfl) rfl (by omega) (by omega) ?_
        refine o_build [(AV.lit (.bool false)), (AV.slc 1 (ns .u32 (((xs).drop (0)).take (n - 0))) (n - 0))] [(0, [(AV.lit (.bool false))]), (1, [(AV.slc 1 (ns .u32 (((xs).drop (0)).take (n - 0))) (n - 0))])] Gd.none Wr_tP79 Wr_tO79 rfl rfl rfl ?_
        refine o_store [(2, (AO.var 79 [(AV.lit (.bool false)), (AV.slc 1 (ns .u32 (((xs).drop (0)).take (n - 0))) (n - 0))]))] Gd.none Wr_tZ79 rfl rfl rfl rfl rfl rfl ?_
        refine aops_end ?_
        refine hK5 _ ?_
        refine awp_ret ?_
        refine post_ret ⟨[(AV.agg [(AV.lit (.bool false)), (AV.slc 1 (ns .u32 (((xs).drop (0)).take (n - 0))) (n - 0))])], And.intro ⟨2, (AO.var 79 [(AV.lit (.bool false)), (AV.slc 1 (ns .u32 (((xs).drop (0)).take (n - 0))) (n - 0))]), rfl, rfl, rfl, Or.inl ⟨Wr_tA79, AV.le_refl _⟩⟩ (trivial), rfl, ?_⟩
        subst h3
        exact (trimc_fin (neg := false) hx hn hv (by first | (left; omega) | (right; assumption))).symm
  · refine o_skip (b := decide ((0) < (n))) rfl rfl (decide_eq_false h1) ?_
    refine o_skip (b := decide ((0) < (n))) rfl rfl (decide_eq_false h1) ?_
    refine o_skip (b := decide ((0) < (n))) rfl rfl (decide_eq_false h1) ?_
    refine o_skip (b := decide ((0) < (n))) rfl rfl (decide_eq_false h1) ?_
    refine o_skip (b := decide ((0) < (n))) rfl rfl (decide_eq_false h1) ?_
    refine o_skip (b := decide ((0) < (n))) rfl rfl (decide_eq_false h1) ?_
    refine o_pickF (b := decide ((0) < (n))) (AV.lit (.bool false)) Gd.none rfl (decide_eq_false h1) rfl ?_
    refine aops_end ?_
    refine hK4 _ ?_
    refine awp_condB (b := false) rfl (fun hh => absurd (hh.symm.trans rfl) (by decide)) (fun _ => ?_)
    refine awp_exit ?_
    refine hK2 _ ?_
    refine awp_seq fun K6 hK6 => ?_
    refine awp_region rfl ?_
    refine o_move (AV.lit (.bool (neg))) Gd.none rfl ?_
    refine o_move (AV.lit (.bool (neg))) Gd.none rfl ?_
    refine o_split (b := neg) 21 rfl (fun h4 => ?_) (fun h4 => ?_)
    · refine o_move (nm .i64 (n)) (Gd.yes rfl rfl h4) rfl ?_
      refine n_gtr (n) (0) (Gd.yes rfl rfl h4) rfl rfl ?_
      refine o_pickT (b := neg) (bp ((0) < (n))) Gd.none rfl h4 rfl ?_
      refine o_move (AV.sl 1 (ns .u32 (xs))) Gd.none rfl ?_
      refine o_move (nm .i64 (n)) Gd.none rfl ?_
      refine o_move (nm .i64 (n)) Gd.none rfl ?_
      refine n_sliceX (xs) (0) (n) Gd.none Wr_tE77 rfl rfl (hi_nm rfl) (mx_nm rfl) rfl (by omega) (by omega) ?_
      refine o_build [(bp ((0) < (n))), (AV.slc 1 (ns .u32 (((xs).drop (0)).take (n - 0))) (n - 0))] [(0, [(bp ((0) < (n)))]), (1, [(AV.slc 1 (ns .u32 (((xs).drop (0)).take (n - 0))) (n - 0))])] Gd.none Wr_tP79 Wr_tO79 rfl rfl rfl ?_
      refine o_store [(2, (AO.var 79 [(bp ((0) < (n))), (AV.slc 1 (ns .u32 (((xs).drop (0)).take (n - 0))) (n - 0))]))] Gd.none Wr_tZ79 rfl rfl rfl rfl rfl rfl ?_
      refine aops_end ?_
      refine hK6 _ ?_
      refine awp_ret ?_
      refine post_ret ⟨[(AV.agg [(bp ((0) < (n))), (AV.slc 1 (ns .u32 (((xs).drop (0)).take (n - 0))) (n - 0))])], And.intro ⟨2, (AO.var 79 [(bp ((0) < (n))), (AV.slc 1 (ns .u32 (((xs).drop (0)).take (n - 0))) (n - 0))]), rfl, rfl, rfl, Or.inl ⟨Wr_tA79, AV.le_refl _⟩⟩ (trivial), rfl, ?_⟩
      subst h4
      exact (trimc_fin (neg := true) hx hn hv (by first | (left; omega) | (right; assumption))).symm
    · refine o_skip (b := neg) rfl rfl h4 ?_
      refine o_skip (b := neg) rfl rfl h4 ?_
      refine o_pickF (b := neg) (AV.lit (.bool false)) Gd.none rfl h4 rfl ?_
      refine o_move (AV.sl 1 (ns .u32 (xs))) Gd.none rfl ?_
      refine o_move (nm .i64 (n)) Gd.none rfl ?_
      refine o_move (nm .i64 (n)) Gd.none rfl ?_
      refine n_sliceX (xs) (0) (n) Gd.none Wr_tE77 rfl rfl (hi_nm rfl) (mx_nm rfl) rfl (by omega) (by omega) ?_
      refine o_build [(AV.lit (.bool false)), (AV.slc 1 (ns .u32 (((xs).drop (0)).take (n - 0))) (n - 0))] [(0, [(AV.lit (.bool false))]), (1, [(AV.slc 1 (ns .u32 (((xs).drop (0)).take (n - 0))) (n - 0))])] Gd.none Wr_tP79 Wr_tO79 rfl rfl rfl ?_
      refine o_store [(2, (AO.var 79 [(AV.lit (.bool false)), (AV.slc 1 (ns .u32 (((xs).drop (0)).take (n - 0))) (n - 0))]))] Gd.none Wr_tZ79 rfl rfl rfl rfl rfl rfl ?_
      refine aops_end ?_
      refine hK6 _ ?_
      refine awp_ret ?_
      refine post_ret ⟨[(AV.agg [(AV.lit (.bool false)), (AV.slc 1 (ns .u32 (((xs).drop (0)).take (n - 0))) (n - 0))])], And.intro ⟨2, (AO.var 79 [(AV.lit (.bool false)), (AV.slc 1 (ns .u32 (((xs).drop (0)).take (n - 0))) (n - 0))]), rfl, rfl, rfl, Or.inl ⟨Wr_tA79, AV.le_refl _⟩⟩ (trivial), rfl, ?_⟩
      subst h4
      exact (trimc_fin (neg := false) hx hn hv (by first | (left; omega) | (right; assumption))).symm

theorem c_wTimes (m n : Nat) (hm : (digs m).length ≤ 1000000000) (hn : n < 1000000000) : ECalls cx 97 [(AV.sl 1 (ns .u32 (digs m))), (nm .u64 (n))] (.sl 1 (ns .u32 (digs (m * n)))) := by
  refine ecalls_of_awp Tryd.func97 (c := _) rfl (Nat.le_of_ble_eq_true rfl) ?_
  show awp cx 42 _ (postF cx Tryd.f97 _) ⟨[(0, (AV.sl 1 (ns .u32 (digs m)))), (1, (nm .u64 (n)))], []⟩
  refine awp_bound (i := 0) rfl fun hb => ?_
  replace hb := n_bnd hb
  refine awp_seq fun K0 hK0 => ?_
  refine awp_region rfl ?_
  refine o_assign (AV.lit (.slice none 0 0)) Gd.none rfl ?_
  refine aops_end ?_
  refine hK0 _ ?_
  refine awp_seq fun K1 hK1 => ?_
  refine awp_region rfl ?_
  refine o_move (AV.sl 1 (ns .u32 (digs m))) Gd.none rfl ?_
  refine n_len (digs m) Gd.none Wr_tU77 rfl ?_
  refine n_add ((digs m).length) (1) Gd.none rfl rfl (by simp only [topOf]; omega) ?_
  refine n_make0 .u32 2 (((digs m).length) + (1)) Gd.none Wr_tE77 Wr_tO115 rfl rfl (by omega) (by omega) rfl ?_
  refine o_assign (AV.row 2) Gd.none rfl ?_
  refine aops_end ?_
  refine hK1 _ ?_
  refine awp_seq fun K2 hK2 => ?_
  refine awp_region rfl ?_
  refine o_assign (nm .u64 (0)) Gd.none rfl ?_
  refine aops_end ?_
  refine hK2 _ ?_
  refine awp_seq fun K3 hK3 => ?_
  refine awp_seq fun K4 hK4 => ?_
  refine awp_region rfl ?_
  refine o_move (AV.sl 1 (ns .u32 (digs m))) Gd.none rfl ?_
  refine n_len (digs m) Gd.none Wr_tU77 rfl ?_
  refine o_move (nm .i64 (0)) Gd.none rfl ?_
  refine aops_end ?_
  refine hK4 _ ?_
  refine awp_block ?_
  refine awp_loopR (fun κ σ => ∃ (i : Nat), ∃ (r : List Nat), ∃ (c : Nat), (r.length = i) ∧ (i ≤ (digs m).length) ∧ (Dig r) ∧ (c < 1000000000) ∧ (val r + 1000000000 ^ i * c = val ((digs m).take i) * n) ∧ ((digs m).length - i) = κ ∧ σ = ⟨[(1, (nm .u64 (n))), (5, (AV.row 3)), (6, (nm .u64 (c))), (14, (AV.sl 1 (ns .u32 (digs m)))), (15, (nm .i64 ((digs m).length))), (16, (nm .i64 (i)))], [(3, (AO.row 115 1 (ns .u32 (r))))]⟩) ⟨_, _, ⟨0, [], 0, rfl, (by omega), Dig.nil, (by omega), (by simp [val]), rfl, rfl⟩, ?wk0⟩ ?rd0
  case wk0 =>
    exact Wk.trans (Wk.sub (σ' := ⟨[(1, (nm .u64 (n))), (5, (AV.row 2)), (6, (nm .u64 (0))), (14, (AV.sl 1 (ns .u32 (digs m)))), (15, (nm .i64 ((digs m).length))), (16, (nm .i64 (0)))], [(2, (AO.row 115 1 (ns .u32 ([]))))]⟩) (And.intro rfl (And.intro rfl (And.intro rfl (And.intro rfl (And.intro rfl (And.intro rfl (trivial))))))) (And.intro rfl (trivial))) (Wk.trans (Wk.ren (id := 2) (id' := 3) rfl) (Wk.sub (And.intro rfl (And.intro (by first | rfl | (simp)) (And.intro (by first | rfl | exact congrArg (nm _) (by omega) | exact nm_int (by omega) | exact nm_int (by simp [IntKind.wrap, IntKind.bits, IntKind.signed]; omega)) (And.intro rfl (And.intro rfl (And.intro (by first | rfl | exact congrArg (nm _) (by omega) | exact nm_int (by omega) | exact nm_int (by simp [IntKind.wrap, IntKind.bits, IntKind.signed]; omega)) (trivial))))))) (And.intro (by first | rfl | exact row_ns (by simp)) (trivial))))
  rintro κ _ ⟨i, r, c, hl, hi, hd, hc, hv, rfl, rfl⟩
  have hA := Dig.getD (digs_dig m) i
  have hAn : ((digs m).getD (i) 0) * n ≤ 999999999 * 999999999 := Nat.mul_le_mul (by omega) (by omega)
  refine awp_seq fun K5 hK5 => ?_
  refine awp_region rfl ?_
  refine n_lss (i) ((digs m).length) Gd.none rfl rfl ?_
  refine aops_end ?_
  refine hK5 _ ?_
  refine awp_seq fun K6 hK6 => ?_
  refine awp_condQ (q := (i) < ((digs m).length)) rfl (fun h1 => ?_) (fun h1 => ?_)
  · refine awp_skip ?_
    refine hK6 _ ?_
    refine awp_seq fun K7 hK7 => ?_
    refine awp_block ?_
    refine awp_seq fun K8 hK8 => ?_
    refine awp_region rfl ?_
    refine n_index (digs m) (i) Gd.none Wr_tE77 rfl rfl (by omega) ?_
    refine n_loadI (digs m) (i) Gd.none Wr_tS115 rfl (by omega) ?_
    refine o_assign (nm .u32 ((digs m).getD (i) 0)) Gd.none rfl ?_
    refine aops_end ?_
    refine hK8 _ ?_
    refine awp_seq fun K9 hK9 => ?_
    refine awp_region rfl ?_
    refine o_move (nm .u32 ((digs m).getD (i) 0)) Gd.none rfl ?_
    refine n_conv ((digs m).getD (i) 0) Gd.none rfl Wr_tI115 Wr_tI110 (by simp only [topOf]; omega) ?_
    refine o_move (nm .u64 (n)) Gd.none rfl ?_
    refine n_mul ((digs m).getD (i) 0) (n) Gd.none rfl rfl (by simp only [topOf]; omega) ?_
    refine o_move (nm .u64 (c)) Gd.none rfl ?_
    refine n_add (((digs m).getD (i) 0) * (n)) (c) Gd.none rfl rfl (by simp only [topOf]; omega) ?_
    refine o_assign (nm .u64 ((((digs m).getD (i) 0) * (n)) + (c))) Gd.none rfl ?_
    refine aops_end ?_
    refine hK9 _ ?_
    refine awp_seq fun K10 hK10 => ?_
    refine awp_region rfl ?_
    refine o_move (AV.row 3) Gd.none rfl ?_
    refine o_move (nm .u64 ((((digs m).getD (i) 0) * (n)) + (c))) Gd.none rfl ?_
    refine n_rem ((((digs m).getD (i) 0) * (n)) + (c)) (1000000000) Gd.none rfl rfl (by omega) ?_
    refine n_conv (((((digs m).getD (i) 0) * (n)) + (c)) % (1000000000)) Gd.none rfl Wr_tI110 Wr_tI115 (by simp only [topOf]; omega) ?_
    refine o_buildSlice 101 (ns .u32 ([((((digs m).getD (i) 0) * (n)) + (c)) % (1000000000)])) [(0, [(nm .u32 (((((digs m).getD (i) 0) * (n)) + (c)) % (1000000000)))])] Gd.none Wr_tE77 rfl Wr_tO115 rfl rfl rfl rfl rfl rfl rfl ?_
    refine n_append 102 (r) ([((((digs m).getD (i) 0) * (n)) + (c)) % (1000000000)]) [(101, (AO.row 115 1 (ns .u32 ([((((digs m).getD (i) 0) * (n)) + (c)) % (1000000000)]))))] Gd.none Wr_tE77 Wr_tO115 rfl rfl rfl rfl rfl (by simp only [List.length_append, List.length_cons, List.length_nil]; omega) (by decide) rfl rfl ?_
    refine o_assign (AV.row 102) Gd.none rfl ?_
    refine aops_end ?_
    refine hK10 _ ?_
    refine awp_region rfl ?_
    refine o_move (nm .u64 ((((digs m).getD (i) 0) * (n)) + (c))) Gd.none rfl ?_
    refine n_quo ((((digs m).getD (i) 0) * (n)) + (c)) (1000000000) Gd.none rfl rfl (by omega) (by simp only [topOf]; omega) ?_
    refine o_assign (nm .u64 (((((digs m).getD (i) 0) * (n)) + (c)) / (1000000000))) Gd.none rfl ?_
    refine aops_end ?_
    refine hK7 _ ?_
    refine awp_region rfl ?_
    refine n_add (i) (1) Gd.none rfl rfl (by simp only [topOf]; omega) ?_
    refine o_move (nm .i64 ((i) + (1))) Gd.none rfl ?_
    refine aops_end ?_
    refine ⟨_, _, ?lt, ⟨i + 1, (r) ++ ([((((digs m).getD (i) 0) * (n)) + (c)) % (1000000000)]), ((((digs m).getD (i) 0) * (n)) + (c)) / (1000000000), (by simp [hl]), (by omega), (hd.snoc (Nat.mod_lt _ (by decide))), (by omega), (times_step hl hv rfl), rfl, rfl⟩, ?wk⟩
    case lt => omega
    case wk => exact Wk.trans (Wk.sub (σ' := ⟨[(1, (nm .u64 (n))), (5, (AV.row 102)), (6, (nm .u64 (((((digs m).getD (i) 0) * (n)) + (c)) / (1000000000)))), (14, (AV.sl 1 (ns .u32 (digs m)))), (15, (nm .i64 ((digs m).length))), (16, (nm .i64 ((i) + (1))))], [(102, (AO.row 115 1 (ns .u32 ((r) ++ ([((((digs m).getD (i) 0) * (n)) + (c)) % (1000000000)])))))]⟩) (And.intro rfl (And.intro rfl (And.intro rfl (And.intro rfl (And.intro rfl (And.intro rfl (trivial))))))) (And.intro rfl (trivial))) (Wk.trans (Wk.ren (id := 102) (id' := 3) rfl) (Wk.sub (And.intro rfl (And.intro (by first | rfl | (simp)) (And.intro (by first | rfl | exact congrArg (nm _) (by omega) | exact nm_int (by omega) | exact nm_int (by simp [IntKind.wrap, IntKind.bits, IntKind.signed]; omega)) (And.intro rfl (And.intro rfl (And.intro (by first | rfl | exact congrArg (nm _) (by omega) | exact nm_int (by omega) | exact nm_int (by simp [IntKind.wrap, IntKind.bits, IntKind.signed]; omega)) (trivial))))))) (And.intro (by first | rfl | exact row_ns (by simp)) (trivial))))
  · refine awp_exit ?_
    refine hK3 _ ?_
    refine awp_seq fun K11 hK11 => ?_
    refine awp_region rfl ?_
    refine o_move (AV.row 3) Gd.none rfl ?_
    refine o_move (nm .u64 (c)) Gd.none rfl ?_
    refine n_conv (c) Gd.none rfl Wr_tI110 Wr_tI115 (by simp only [topOf]; omega) ?_
    refine o_buildSlice 101 (ns .u32 ([c])) [(0, [(nm .u32 (c))])] Gd.none Wr_tE77 rfl Wr_tO115 rfl rfl rfl rfl rfl rfl rfl ?_
    refine n_append 102 (r) ([c]) [(101, (AO.row 115 1 (ns .u32 ([c]))))] Gd.none Wr_tE77 Wr_tO115 rfl rfl rfl rfl rfl (by simp only [List.length_append, List.length_cons, List.length_nil]; omega) (by decide) rfl rfl ?_
    refine o_callG [(102, 1, (ns .u32 ((r) ++ ([c]))))] [(AV.lit (.bool false)), (AV.sl 1 (ns .u32 ((r) ++ ([c]))))] _ (intW ((sg (false) (val ((r) ++ ([c])))))) [(101, (AO.row 115 1 (ns .u32 ([c]))))] Gd.none Wr_tC81 rfl (And.intro ⟨_, rfl⟩ (trivial)) rfl rfl (LeL.cons (AV.le_refl _) (LeL.cons (AV.le_refl _) (LeL.nil))) (c_wTrim (false) ((r) ++ ([c])) (by first | assumption | exact dgn_dig _ _ | exact digs_dig _ | exact Dig.snoc (by assumption) (by assumption) | exact Dig.cons (by omega) (digs_dig _))) rfl ?_
    refine o_fieldS (AV.sl 1 (ns .u32 (digs ((sg (false) (val ((r) ++ ([c]))))).natAbs))) Gd.none Wr_tF79_1 Wr_tS77 rfl rfl ?_
    refine o_assign (AV.sl 1 (ns .u32 (digs ((sg (false) (val ((r) ++ ([c]))))).natAbs))) Gd.none rfl ?_
    refine aops_end ?_
    refine hK11 _ ?_
    refine awp_ret ?_
    refine post_ret ⟨[(AV.sl 1 (ns .u32 (digs ((sg (false) (val ((r) ++ ([c]))))).natAbs)))], And.intro (AV.le_refl _) (trivial), rfl, ?_⟩
    refine ns_congr ?_
    rw [sg_abs, times_fin (by omega) hl hv]

theorem c_wQuot (m n : Nat) (hn0 : 0 < n) (hm : (digs m).length ≤ 900000000) (hn : (digs n).length ≤ 900000000) : ECalls cx 89 [(AV.sl 1 (ns .u32 (digs m))), (AV.sl 1 (ns .u32 (digs n)))] (.tup [.sl 1 (ns .u32 (dgn (digs m).length (m / n))), .sl 1 (ns .u32 (digs (m % n)))]) := by
  refine ecalls_of_awp Tryd.func89 (c := _) rfl (Nat.le_of_ble_eq_true rfl) ?_
  show awp cx 65 _ (postF cx Tryd.f89 _) ⟨[(0, (AV.sl 1 (ns .u32 (digs m)))), (1, (AV.sl 1 (ns .u32 (digs n))))], []⟩
  refine awp_bound (i := 0) rfl fun hb => ?_
  replace hb := n_bnd hb
  refine awp_bound (i := 1) rfl fun hb2 => ?_
  replace hb2 := n_bnd hb2
  refine awp_seq fun K0 hK0 => ?_
  refine awp_region rfl ?_
  refine o_assign (AV.lit (.slice none 0 0)) Gd.none rfl ?_
  refine o_assign (AV.lit (.slice none 0 0)) Gd.none rfl ?_
  refine aops_end ?_
  refine hK0 _ ?_
  refine awp_seq fun K1 hK1 => ?_
  refine awp_region rfl ?_
  refine o_move (AV.sl 1 (ns .u32 (digs m))) Gd.none rfl ?_
  refine n_len (digs m) Gd.none Wr_tU77 rfl ?_
  refine n_make 2 ((digs m).length) Gd.none Wr_tE77 Wr_tO115 rfl rfl (by omega) rfl rfl ?_
  refine o_assign (AV.row 2) Gd.none rfl ?_
  refine aops_end ?_
  refine hK1 _ ?_
  refine awp_seq fun K2 hK2 => ?_
  refine awp_region rfl ?_
  refine o_assign (AV.lit (.slice none 0 0)) Gd.none rfl ?_
  refine aops_end ?_
  refine hK2 _ ?_
  refine awp_seq fun K3 hK3 => ?_
  refine awp_seq fun K4 hK4 => ?_
  refine awp_region rfl ?_
  refine o_move (AV.sl 1 (ns .u32 (digs m))) Gd.none rfl ?_
  refine n_len (digs m) Gd.none Wr_tU77 rfl ?_
  refine o_sub (a := ((((digs m).length : Nat) : Int))) (c := (((1 : Nat) : Int))) Gd.none rfl rfl (by exact wrap64 (by omega) (by omega)) ?_
  refine o_assign (AV.lit (.int .i64 (((((digs m).length : Nat) : Int)) - (((1 : Nat) : Int))))) Gd.none rfl ?_
  refine aops_end ?_
  refine hK4 _ ?_
  refine awp_block ?_
  refine awp_wk (Wk.slot (i := 7) (y := (AV.slc 1 (ns .u32 (digs 0)) ((digs 0).length))) (AV.le_nilc' (by decide) (by simp [digs_zero, ns]) (by simp [digs_zero]))) ?_
  refine awp_loopR (fun κ σ => ∃ (j : Nat), ∃ (o : List Nat), ∃ (r : Nat), (j ≤ (digs m).length) ∧ (o.length = (digs m).length) ∧ (Dig o) ∧ (∀ k, k < j → o.getD k 0 = 0) ∧ (r < n) ∧ (val ((digs m).drop j) = n * val (o.drop j) + r) ∧ (j) = κ ∧ σ = ⟨[(0, (AV.sl 1 (ns .u32 (digs m)))), (1, (AV.sl 1 (ns .u32 (digs n)))), (6, (AV.row 3)), (8, (AV.lit (.int .i64 ((j : Int) - 1)))), (7, (AV.slc 1 (ns .u32 (digs (r))) ((digs (r)).length)))], [(3, (AO.row 115 1 (ns .u32 (o))))]⟩) ⟨_, _, ⟨(digs m).length, List.replicate (digs m).length 0, 0, (Nat.le_refl _), (by simp), (Dig.repl _), (fun k hk => by rw [List.getD_eq_getElem?_getD, List.getElem?_replicate]; split <;> rfl), hn0, (by rw [val_drop_all (Nat.le_refl _), val_drop_all (by simp)]; simp), rfl, rfl⟩, ?wk0⟩ ?rd0
  case wk0 =>
    exact Wk.trans (Wk.sub (σ' := ⟨[(0, (AV.sl 1 (ns .u32 (digs m)))), (1, (AV.sl 1 (ns .u32 (digs n)))), (6, (AV.row 2)), (8, (AV.lit (.int .i64 (((((digs m).length : Nat) : Int)) - (((1 : Nat) : Int)))))), (7, (AV.slc 1 (ns .u32 (digs 0)) ((digs 0).length)))], [(2, (AO.row 115 1 (ns .u32 (List.replicate ((digs m).length) 0))))]⟩) (And.intro rfl (And.intro rfl (And.intro rfl (And.intro rfl (And.intro rfl (trivial)))))) (And.intro rfl (trivial))) (Wk.trans (Wk.ren (id := 2) (id' := 3) rfl) (Wk.sub (And.intro rfl (And.intro rfl (And.intro (by first | rfl | (simp)) (And.intro (by first | rfl | exact int_eq (by omega) | exact int_nm (by omega)) (And.intro (by first | rfl | (simp)) (trivial)))))) (And.intro (by first | rfl | exact row_ns (by simp)) (trivial))))
  rintro κ _ ⟨j, o, r, hj, hl, hd, hz, hr, hv, rfl, rfl⟩
  have hA := Dig.getD (digs_dig m) (j - 1)
  have hrl := digs_len_le (Nat.le_of_lt hr)
  have hXt := quo_top hA hr
  have hXl := digs_len_le (Nat.le_of_lt hXt)
  have hXm := digs_mul_len n 1000000000
  have h10 : (digs 1000000000).length ≤ 3 := digs_len_small (by decide)
  refine awp_seq fun K5 hK5 => ?_
  refine awp_seq fun K6 hK6 => ?_
  refine awp_region rfl ?_
  refine o_move (AV.lit (.int .i64 ((j : Int) - 1))) Gd.none rfl ?_
  refine o_geq (a := ((j : Int) - 1)) (c := (((0 : Nat) : Int))) Gd.none rfl rfl ?_
  refine aops_end ?_
  refine hK6 _ ?_
  refine awp_condQ (q := (((0 : Nat) : Int)) ≤ ((j : Int) - 1)) rfl (fun h1 => ?_) (fun h1 => ?_)
  · refine awp_wk (Wk.slot (i := 8) (y := (nm .i64 (j - 1))) (AV.le_eq (by exact nm_int (by omega)))) ?_
    refine awp_skip ?_
    refine hK5 _ ?_
    refine awp_seq fun K7 hK7 => ?_
    refine awp_block ?_
    refine awp_seq fun K8 hK8 => ?_
    refine awp_region rfl ?_
    refine o_move (AV.slc 1 (ns .u32 (digs (r))) ((digs (r)).length)) Gd.none rfl ?_
    refine o_move (AV.sl 1 (ns .u32 (digs m))) Gd.none rfl ?_
    refine o_move (nm .i64 (j - 1)) Gd.none rfl ?_
    refine n_index (digs m) (j - 1) Gd.none Wr_tE77 rfl rfl (by omega) ?_
    refine n_loadI (digs m) (j - 1) Gd.none Wr_tS115 rfl (by omega) ?_
    refine o_buildSlice 101 (ns .u32 ([(digs m).getD (j - 1) 0])) [(0, [(nm .u32 ((digs m).getD (j - 1) 0))])] Gd.none Wr_tE77 rfl Wr_tO115 rfl rfl rfl rfl rfl rfl rfl ?_
    refine o_callG [(101, 1, (ns .u32 ([(digs m).getD (j - 1) 0])))] [(AV.slc 1 (ns .u32 (digs (r))) ((digs (r)).length)), (nm .i64 (0)), (AV.sl 1 (ns .u32 ([(digs m).getD (j - 1) 0])))] _ (AV.sl 1 (ns .u32 (((digs m).getD (j - 1) 0) :: digs (r)))) [(3, (AO.row 115 1 (ns .u32 (o))))] Gd.none Wr_tC96 rfl (And.intro ⟨_, rfl⟩ (trivial)) rfl rfl (LeL.cons (AV.le_refl _) (LeL.cons (AV.le_refl _) (LeL.cons (AV.le_refl _) (LeL.nil)))) (c_insert (digs (r)) ((digs m).getD (j - 1) 0) (by omega)) rfl ?_
    refine o_call [(AV.lit (.bool false)), (AV.sl 1 (ns .u32 (((digs m).getD (j - 1) 0) :: digs (r))))] (intC ((sg (false) (val (((digs m).getD (j - 1) 0) :: digs (r)))))) Gd.none Wr_tC81 rfl (c_wTrimX (false) (((digs m).getD (j - 1) 0) :: digs (r)) (by first | assumption | exact dgn_dig _ _ | exact digs_dig _ | exact Dig.snoc (by assumption) (by assumption) | exact Dig.cons (by omega) (digs_dig _))) ?_
    refine o_fieldS (AV.slc 1 (ns .u32 (digs ((sg (false) (val (((digs m).getD (j - 1) 0) :: digs (r))))).natAbs)) ((digs ((sg (false) (val (((digs m).getD (j - 1) 0) :: digs (r))))).natAbs).length)) Gd.none Wr_tF79_1 Wr_tS77 rfl rfl ?_
    refine n_as (v' := (AV.slc 1 (ns .u32 (digs (((digs m).getD (j - 1) 0 + 1000000000 * r)))) ((digs (((digs m).getD (j - 1) 0 + 1000000000 * r))).length))) (by exact nc_sg (by simp only [val, val_digs])) ?_
    refine o_assign (AV.slc 1 (ns .u32 (digs (((digs m).getD (j - 1) 0 + 1000000000 * r)))) ((digs (((digs m).getD (j - 1) 0 + 1000000000 * r))).length)) Gd.none rfl ?_
    refine aops_end ?_
    refine hK8 _ ?_
    refine awp_seq fun K9 hK9 => ?_
    refine awp_seq fun K10 hK10 => ?_
    refine awp_region rfl ?_
    refine o_move (AV.slc 1 (ns .u32 (digs (((digs m).getD (j - 1) 0 + 1000000000 * r)))) ((digs (((digs m).getD (j - 1) 0 + 1000000000 * r))).length)) Gd.none rfl ?_
    refine o_move (AV.sl 1 (ns .u32 (digs n))) Gd.none rfl ?_
    refine o_callG [] [(AV.slc 1 (ns .u32 (digs (((digs m).getD (j - 1) 0 + 1000000000 * r)))) ((digs (((digs m).getD (j - 1) 0 + 1000000000 * r))).length)), (AV.sl 1 (ns .u32 (digs n)))] _ (AV.lit (.int .i64 (cmpN ((((digs m).getD (j - 1) 0 + 1000000000 * r))) (n)))) [(3, (AO.row 115 1 (ns .u32 (o))))] Gd.none Wr_tC87 rfl (trivial) rfl rfl (LeL.cons (AV.le_slc) (LeL.cons (AV.le_refl _) (LeL.nil))) (c_wSize ((((digs m).getD (j - 1) 0 + 1000000000 * r))) (n)) rfl ?_
    refine o_lss (a := (cmpN ((((digs m).getD (j - 1) 0 + 1000000000 * r))) (n))) (c := (((0 : Nat) : Int))) Gd.none rfl rfl ?_
    refine aops_end ?_
    refine hK10 _ ?_
    refine awp_condQ (q := (cmpN ((((digs m).getD (j - 1) 0 + 1000000000 * r))) (n)) < (((0 : Nat) : Int))) rfl (fun h2 => ?_) (fun h2 => ?_)
    · have hXn := cmpN_neg h2
      refine awp_exit ?_
      refine hK7 _ ?_
      refine awp_region rfl ?_
      refine o_move (nm .i64 (j - 1)) Gd.none rfl ?_
      refine o_sub (a := (((j - 1 : Nat) : Int))) (c := (((1 : Nat) : Int))) Gd.none rfl rfl (by exact wrap64 (by omega) (by omega)) ?_
      refine o_assign (AV.lit (.int .i64 ((((j - 1 : Nat) : Int)) - (((1 : Nat) : Int))))) Gd.none rfl ?_
      refine aops_end ?_
      refine ⟨_, _, ?lt, ⟨j - 1, o, ((digs m).getD (j - 1) 0 + 1000000000 * r), (by omega), hl, hd, (fun k hk => hz k (by omega)), hXn, (quo_skip (by omega) hl (by rw [Nat.sub_add_cancel (by omega)]; exact hv) (hz _ (by omega)) hXn), rfl, rfl⟩, ?wk⟩
      case lt => omega
      case wk => exact Wk.sub (And.intro rfl (And.intro rfl (And.intro rfl (And.intro (by first | rfl | exact int_eq (by omega) | exact int_nm (by omega)) (And.intro (by first | rfl | (simp)) (trivial)))))) (And.intro rfl (trivial))
    · have hXn := cmpN_nneg h2
      refine awp_skip ?_
      refine hK9 _ ?_
      refine awp_seq fun K11 hK11 => ?_
      refine awp_region rfl ?_
      refine o_assign (nm .u64 (0)) Gd.none rfl ?_
      refine o_assign (nm .u64 (1000000000)) Gd.none rfl ?_
      refine aops_end ?_
      refine hK11 _ ?_
      refine awp_seq fun K12 hK12 => ?_
      refine awp_block ?_
      refine awp_loopR (fun κ σ => ∃ (l : Nat), ∃ (h : Nat), (l < h) ∧ (h ≤ 1000000000) ∧ (n * l ≤ ((digs m).getD (j - 1) 0 + 1000000000 * r)) ∧ (((digs m).getD (j - 1) 0 + 1000000000 * r) < n * h) ∧ (h - l) = κ ∧ σ = ⟨[(0, (AV.sl 1 (ns .u32 (digs m)))), (1, (AV.sl 1 (ns .u32 (digs n)))), (6, (AV.row 3)), (8, (nm .i64 (j - 1))), (7, (AV.slc 1 (ns .u32 (digs (((digs m).getD (j - 1) 0 + 1000000000 * r)))) ((digs (((digs m).getD (j - 1) 0 + 1000000000 * r))).length))), (9, (nm .u64 (l))), (10, (nm .u64 (h)))], [(3, (AO.row 115 1 (ns .u32 (o))))]⟩) ⟨_, _, ⟨0, 1000000000, (by decide), (Nat.le_refl _), (by rw [Nat.mul_zero]; exact Nat.zero_le _), hXt, rfl, rfl⟩, ?wk1⟩ ?rd1
      case wk1 =>
        exact Wk.sub (And.intro rfl (And.intro rfl (And.intro rfl (And.intro rfl (And.intro rfl (And.intro (by first | rfl | exact congrArg (nm _) (by omega) | exact nm_int (by omega) | exact nm_int (by simp [IntKind.wrap, IntKind.bits, IntKind.signed]; omega)) (And.intro (by first | rfl | exact congrArg (nm _) (by omega) | exact nm_int (by omega) | exact nm_int (by simp [IntKind.wrap, IntKind.bits, IntKind.signed]; omega)) (trivial)))))))) (And.intro rfl (trivial))
      rintro κ _ ⟨l, h, hlh, hh, hlo, hhi, rfl, rfl⟩
      have hml := digs_mul_len n ((l + h) / 2)
      have hmd := digs_len_small (n := (l + h) / 2) (by omega)
      have hnl := digs_len_le hlo
      refine awp_seq fun K13 hK13 => ?_
      refine awp_seq fun K14 hK14 => ?_
      refine awp_region rfl ?_
      refine o_move (nm .u64 (h)) Gd.none rfl ?_
      refine o_move (nm .u64 (l)) Gd.none rfl ?_
      refine n_sub (h) (l) Gd.none rfl rfl (by omega) (by simp only [topOf]; omega) ?_
      refine n_gtr ((h) - (l)) (1) Gd.none rfl rfl ?_
      refine aops_end ?_
      refine hK14 _ ?_
      refine awp_condQ (q := (1) < ((h) - (l))) rfl (fun h3 => ?_) (fun h3 => ?_)
      · refine awp_skip ?_
        refine hK13 _ ?_
        refine awp_block ?_
        refine awp_seq fun K15 hK15 => ?_
        refine awp_region rfl ?_
        refine o_move (nm .u64 (l)) Gd.none rfl ?_
        refine o_move (nm .u64 (h)) Gd.none rfl ?_
        refine n_add (l) (h) Gd.none rfl rfl (by simp only [topOf]; omega) ?_
        refine n_quo ((l) + (h)) (2) Gd.none rfl rfl (by omega) (by simp only [topOf]; omega) ?_
        refine o_assign (nm .u64 (((l) + (h)) / (2))) Gd.none rfl ?_
        refine aops_end ?_
        refine hK15 _ ?_
        refine awp_seq fun K16 hK16 => ?_
        refine awp_region rfl ?_
        refine o_move (AV.sl 1 (ns .u32 (digs n))) Gd.none rfl ?_
        refine o_move (nm .u64 (((l) + (h)) / (2))) Gd.none rfl ?_
        refine o_call [(AV.sl 1 (ns .u32 (digs n))), (nm .u64 (((l) + (h)) / (2)))] (AV.sl 1 (ns .u32 (digs (n * (((l) + (h)) / (2)))))) Gd.none Wr_tC97 rfl (c_wTimes (n) (((l) + (h)) / (2)) (by omega) (by omega)) ?_
        refine o_move (AV.slc 1 (ns .u32 (digs (((digs m).getD (j - 1) 0 + 1000000000 * r)))) ((digs (((digs m).getD (j - 1) 0 + 1000000000 * r))).length)) Gd.none rfl ?_
        refine o_callG [] [(AV.sl 1 (ns .u32 (digs (n * (((l) + (h)) / (2)))))), (AV.slc 1 (ns .u32 (digs (((digs m).getD (j - 1) 0 + 1000000000 * r)))) ((digs (((digs m).getD (j - 1) 0 + 1000000000 * r))).length))] _ (AV.lit (.int .i64 (cmpN ((n * (((l) + (h)) / (2)))) ((((digs m).getD (j - 1) 0 + 1000000000 * r)))))) [(3, (AO.row 115 1 (ns .u32 (o))))] Gd.none Wr_tC87 rfl (trivial) rfl rfl (LeL.cons (AV.le_refl _) (LeL.cons (AV.le_slc) (LeL.nil))) (c_wSize ((n * (((l) + (h)) / (2)))) ((((digs m).getD (j - 1) 0 + 1000000000 * r)))) rfl ?_
        refine o_leq (a := (cmpN ((n * (((l) + (h)) / (2)))) ((((digs m).getD (j - 1) 0 + 1000000000 * r))))) (c := (((0 : Nat) : Int))) Gd.none rfl rfl ?_
        refine aops_end ?_
        refine hK16 _ ?_
        refine awp_condQ (q := (cmpN ((n * (((l) + (h)) / (2)))) ((((digs m).getD (j - 1) 0 + 1000000000 * r)))) ≤ (((0 : Nat) : Int))) rfl (fun h4 => ?_) (fun h4 => ?_)
        · refine awp_region rfl ?_
          refine o_move (nm .u64 (((l) + (h)) / (2))) Gd.none rfl ?_
          refine o_assign (nm .u64 (((l) + (h)) / (2))) Gd.none rfl ?_
          refine aops_end ?_
          refine ⟨_, _, ?lt, ⟨(l + h) / 2, h, (by omega), hh, (cmpN_le h4), hhi, rfl, rfl⟩, ?wk⟩
          case lt => omega
          case wk => exact Wk.sub (And.intro rfl (And.intro rfl (And.intro rfl (And.intro rfl (And.intro rfl (And.intro (by first | rfl | exact congrArg (nm _) (by omega) | exact nm_int (by omega) | exact nm_int (by simp [IntKind.wrap, IntKind.bits, IntKind.signed]; omega)) (And.intro rfl (trivial)))))))) (And.intro rfl (trivial))
        · refine awp_region rfl ?_
          refine o_move (nm .u64 (((l) + (h)) / (2))) Gd.none rfl ?_
          refine o_assign (nm .u64 (((l) + (h)) / (2))) Gd.none rfl ?_
          refine aops_end ?_
          refine ⟨_, _, ?lt, ⟨l, (l + h) / 2, (by omega), (by omega), hlo, (cmpN_nle h4), rfl, rfl⟩, ?wk⟩
          case lt => omega
          case wk => exact Wk.sub (And.intro rfl (And.intro rfl (And.intro rfl (And.intro rfl (And.intro rfl (And.intro rfl (And.intro (by first | rfl | exact congrArg (nm _) (by omega) | exact nm_int (by omega) | exact nm_int (by simp [IntKind.wrap, IntKind.bits, IntKind.signed]; omega)) (trivial)))))))) (And.intro rfl (trivial))
      · have hh1 : h = l + 1 := by omega
        have hend := hhi
        rw [hh1] at hend
        refine awp_exit ?_
        refine hK12 _ ?_
        refine awp_seq fun K17 hK17 => ?_
        refine awp_region rfl ?_
        refine o_move (AV.row 3) Gd.none rfl ?_
        refine o_move (nm .i64 (j - 1)) Gd.none rfl ?_
        refine o_move (nm .u64 (l)) Gd.none rfl ?_
        refine n_conv (l) Gd.none rfl Wr_tI110 Wr_tI115 (by simp only [topOf]; omega) ?_
        refine n_indexRow (o) (j - 1) Gd.none Wr_tE77 rfl rfl rfl (by omega) ?_
        refine n_storeRow (o) (j - 1) (l) [(3, (AO.row 115 1 (ns .u32 ((o).set (j - 1) (l)))))] Gd.none Wr_tZ115 rfl rfl rfl (by omega) rfl ?_
        refine aops_end ?_
        refine hK17 _ ?_
        refine awp_region rfl ?_
        refine o_move (AV.slc 1 (ns .u32 (digs (((digs m).getD (j - 1) 0 + 1000000000 * r)))) ((digs (((digs m).getD (j - 1) 0 + 1000000000 * r))).length)) Gd.none rfl ?_
        refine o_move (AV.sl 1 (ns .u32 (digs n))) Gd.none rfl ?_
        refine o_move (nm .u64 (l)) Gd.none rfl ?_
        refine o_call [(AV.sl 1 (ns .u32 (digs n))), (nm .u64 (l))] (AV.sl 1 (ns .u32 (digs (n * (l))))) Gd.none Wr_tC97 rfl (c_wTimes (n) (l) (by omega) (by omega)) ?_
        refine o_callG [] [(AV.slc 1 (ns .u32 (digs (((digs m).getD (j - 1) 0 + 1000000000 * r)))) ((digs (((digs m).getD (j - 1) 0 + 1000000000 * r))).length)), (AV.sl 1 (ns .u32 (digs (n * (l)))))] _ (AV.sl 1 (ns .u32 (dgn (digs ((((digs m).getD (j - 1) 0 + 1000000000 * r)))).length ((((digs m).getD (j - 1) 0 + 1000000000 * r)) - (n * (l)))))) [(3, (AO.row 115 1 (ns .u32 ((o).set (j - 1) (l)))))] Gd.none Wr_tC88 rfl (trivial) rfl rfl (LeL.cons (AV.le_slc) (LeL.cons (AV.le_refl _) (LeL.nil))) (c_wLess ((((digs m).getD (j - 1) 0 + 1000000000 * r))) ((n * (l))) (by omega) (by omega) (by omega)) rfl ?_
        refine o_call [(AV.lit (.bool false)), (AV.sl 1 (ns .u32 (dgn (digs ((((digs m).getD (j - 1) 0 + 1000000000 * r)))).length ((((digs m).getD (j - 1) 0 + 1000000000 * r)) - (n * (l))))))] (intC ((sg (false) (val (dgn (digs ((((digs m).getD (j - 1) 0 + 1000000000 * r)))).length ((((digs m).getD (j - 1) 0 + 1000000000 * r)) - (n * (l)))))))) Gd.none Wr_tC81 rfl (c_wTrimX (false) (dgn (digs ((((digs m).getD (j - 1) 0 + 1000000000 * r)))).length ((((digs m).getD (j - 1) 0 + 1000000000 * r)) - (n * (l)))) (by first | assumption | exact dgn_dig _ _ | exact digs_dig _ | exact Dig.snoc (by assumption) (by assumption) | exact Dig.cons (by omega) (digs_dig _))) ?_
        refine o_fieldS (AV.slc 1 (ns .u32 (digs ((sg (false) (val (dgn (digs ((((digs m).getD (j - 1) 0 + 1000000000 * r)))).length ((((digs m).getD (j - 1) 0 + 1000000000 * r)) - (n * (l))))))).natAbs)) ((digs ((sg (false) (val (dgn (digs ((((digs m).getD (j - 1) 0 + 1000000000 * r)))).length ((((digs m).getD (j - 1) 0 + 1000000000 * r)) - (n * (l))))))).natAbs).length)) Gd.none Wr_tF79_1 Wr_tS77 rfl rfl ?_
        refine n_as (v' := (AV.slc 1 (ns .u32 (digs (((digs m).getD (j - 1) 0 + 1000000000 * r) - n * l))) ((digs (((digs m).getD (j - 1) 0 + 1000000000 * r) - n * l)).length))) (by exact nc_sg (val_minus _ _)) ?_
        refine o_assign (AV.slc 1 (ns .u32 (digs (((digs m).getD (j - 1) 0 + 1000000000 * r) - n * l))) ((digs (((digs m).getD (j - 1) 0 + 1000000000 * r) - n * l)).length)) Gd.none rfl ?_
        refine aops_end ?_
        refine hK7 _ ?_
        refine awp_region rfl ?_
        refine o_move (nm .i64 (j - 1)) Gd.none rfl ?_
        refine o_sub (a := (((j - 1 : Nat) : Int))) (c := (((1 : Nat) : Int))) Gd.none rfl rfl (by exact wrap64 (by omega) (by omega)) ?_
        refine o_assign (AV.lit (.int .i64 ((((j - 1 : Nat) : Int)) - (((1 : Nat) : Int))))) Gd.none rfl ?_
        refine aops_end ?_
        refine ⟨_, _, ?lt, ⟨j - 1, o.set (j - 1) l, ((digs m).getD (j - 1) 0 + 1000000000 * r) - n * l, (by omega), (by simp only [List.length_set]; exact hl), (hd.set (by omega)), (fun k hk => by rw [getD_set_off (by omega)]; exact hz k (by omega)), (quo_rest hlo hend), (quo_put (by omega) hl (by rw [Nat.sub_add_cancel (by omega)]; exact hv) hlo hend), rfl, rfl⟩, ?wk⟩
        case lt => omega
        case wk => exact Wk.sub (And.intro rfl (And.intro rfl (And.intro rfl (And.intro (by first | rfl | exact int_eq (by omega) | exact int_nm (by omega)) (And.intro (by first | rfl | (simp)) (trivial)))))) (And.intro (by first | rfl | exact row_ns (by simp)) (trivial))
  · have hj0 : j = 0 := by omega
    have hv0 := hv
    rw [hj0] at hv0
    have hE := div_end hr hv0
    refine awp_exit ?_
    refine hK3 _ ?_
    refine awp_seq fun K18 hK18 => ?_
    refine awp_region rfl ?_
    refine o_move (AV.row 3) Gd.none rfl ?_
    refine o_move (AV.slc 1 (ns .u32 (digs (r))) ((digs (r)).length)) Gd.none rfl ?_
    refine o_assign (AV.row 3) Gd.none rfl ?_
    refine o_assign (AV.slc 1 (ns .u32 (digs (r))) ((digs (r)).length)) Gd.none rfl ?_
    refine aops_end ?_
    refine hK18 _ ?_
    refine awp_wk (σ' := ⟨[(4, (AV.row 3)), (5, (AV.slc 1 (ns .u32 (digs (r))) ((digs (r)).length)))], [(3, (AO.row 115 1 (ns .u32 (o))))]⟩) (Wk.sub (And.intro rfl (And.intro rfl (trivial))) (And.intro rfl (trivial))) ?_
    refine awp_wk (σ' := ⟨[(4, (AV.sl 1 (ns .u32 (o)))), (5, (AV.slc 1 (ns .u32 (digs (r))) ((digs (r)).length)))], []⟩) (Wk.freeze (id := 3) (e := 115) (sz := 1) (cs := (ns .u32 (o))) rfl) ?_
    refine awp_ret ?_
    refine post_ret ⟨[(AV.sl 1 (ns .u32 (o))), (AV.sl 1 (ns .u32 (digs (r))))], And.intro (AV.le_refl _) (And.intro (AV.le_slc) (trivial)), rfl, ?_⟩
    exact tup_eq2 (ns_congr (dgn_eq hd hl hE.1).symm) (ns_congr (by rw [← hE.2]))

end Go.Proofs.YtbilndahjkimkaaDoor

set_option linter.unusedVariables false
set_option linter.unusedSimpArgs false
namespace Go.Proofs.YtbilndahjkimkaaDoor
open Go Go.Ab Go.Mth
theorem Ws_tO79 : tyZero cx.P 79 = some [(Go.Value.bool false), (Go.Value.slice none 0 0)] := by kernel_rfl
theorem Ws_tF79_1 : tyField cx.P 79 1 = some (1, 77) := by kernel_rfl
theorem Ws_tS77 : tySc cx.P 77 = true := by kernel_rfl
theorem Ws_tC89 : callable cx.P 89 = true := by kernel_rfl
theorem Ws_tF79_0 : tyField cx.P 79 0 = some (0, 4) := by kernel_rfl
theorem Ws_tS4 : tySc cx.P 4 = true := by kernel_rfl
theorem Ws_tC81 : callable cx.P 81 = true := by kernel_rfl
theorem Ws_tZ79 : tySize cx.P 79 = some 2 := by kernel_rfl
theorem Ws_tA79 : tyAgg cx.P 79 = some 2 := by kernel_rfl
theorem Ws_tC68 : callable cx.P 68 = true := by kernel_rfl
theorem Ws_tC59 : callable cx.P 59 = true := by kernel_rfl
theorem Ws_tC90 : callable cx.P 90 = true := by kernel_rfl
theorem Ws_tC61 : callable cx.P 61 = true := by kernel_rfl
theorem c_wDivide (x y : Int) (hy : 0 < y) (hx : (digs x.natAbs).length ≤ 800000000) (hyl : (digs y.natAbs).length ≤ 800000000) : ECalls cx 62 [(intW (x)), (intW (y))] (.tup [intW (x / y), intW (x % y)]) := by
  refine ecalls_of_awp Tryd.func62 (c := _) rfl (Nat.le_of_ble_eq_true rfl) ?_
  show awp cx 40 _ (postF cx Tryd.f62 _) ⟨[(0, (intW (x))), (1, (intW (y)))], []⟩
  have hlq := fun b => len_qN b x y
  have hlr := fun b => len_rN b x y
  have hq1 : (digs ((sg (true) (val (dgn (digs ((x).natAbs)).length ((x).natAbs / (y).natAbs)))).natAbs)).length ≤ (digs x.natAbs).length := hlq true
  have hr1 : (digs ((sg (true) (val (digs ((x).natAbs % (y).natAbs)))).natAbs)).length ≤ (digs x.natAbs).length := hlr true
  have ho := len_one
  refine awp_seq fun K0 hK0 => ?_
  refine awp_region rfl ?_
  refine o_box 2 [(bp (x < 0)), (AV.sl 1 (ns .u32 (digs (x).natAbs)))] Gd.none rfl rfl ?_
  refine o_box 3 [(bp (y < 0)), (AV.sl 1 (ns .u32 (digs (y).natAbs)))] Gd.none rfl rfl ?_
  refine o_alloc 4 [(AV.lit (.bool false)), (AV.lit (.slice none 0 0))] Gd.none Ws_tO79 rfl rfl rfl ?_
  refine o_alloc 5 [(AV.lit (.bool false)), (AV.lit (.slice none 0 0))] Gd.none Ws_tO79 rfl rfl rfl ?_
  refine aops_end ?_
  refine hK0 _ ?_
  refine awp_seq fun K1 hK1 => ?_
  refine awp_region rfl ?_
  refine o_fieldRef 1 Gd.none Ws_tF79_1 rfl rfl ?_
  refine o_loadS (AV.sl 1 (ns .u32 (digs (x).natAbs))) Gd.none Ws_tS77 rfl rfl rfl ?_
  refine o_fieldRef 1 Gd.none Ws_tF79_1 rfl rfl ?_
  refine o_loadS (AV.sl 1 (ns .u32 (digs (y).natAbs))) Gd.none Ws_tS77 rfl rfl rfl ?_
  refine o_call [(AV.sl 1 (ns .u32 (digs (x).natAbs))), (AV.sl 1 (ns .u32 (digs (y).natAbs)))] (AV.tup [(AV.sl 1 (ns .u32 (dgn (digs ((x).natAbs)).length ((x).natAbs / (y).natAbs)))), (AV.sl 1 (ns .u32 (digs ((x).natAbs % (y).natAbs))))]) Gd.none Ws_tC89 rfl (c_wQuot ((x).natAbs) ((y).natAbs) (by omega) (by omega) (by omega)) ?_
  refine o_move (AV.tup [(AV.sl 1 (ns .u32 (dgn (digs ((x).natAbs)).length ((x).natAbs / (y).natAbs)))), (AV.sl 1 (ns .u32 (digs ((x).natAbs % (y).natAbs))))]) Gd.none rfl ?_
  refine o_extract (AV.sl 1 (ns .u32 (dgn (digs ((x).natAbs)).length ((x).natAbs / (y).natAbs)))) Gd.none rfl rfl ?_
  refine o_extract (AV.sl 1 (ns .u32 (digs ((x).natAbs % (y).natAbs)))) Gd.none rfl rfl ?_
  refine o_assign (AV.sl 1 (ns .u32 (dgn (digs ((x).natAbs)).length ((x).natAbs / (y).natAbs)))) Gd.none rfl ?_
  refine o_assign (AV.sl 1 (ns .u32 (digs ((x).natAbs % (y).natAbs)))) Gd.none rfl ?_
  refine aops_end ?_
  refine hK1 _ ?_
  refine awp_seq fun K2 hK2 => ?_
  refine awp_seq fun K3 hK3 => ?_
  refine awp_region rfl ?_
  refine o_fieldRef 0 Gd.none Ws_tF79_0 rfl rfl ?_
  refine o_loadS (bp (x < 0)) Gd.none Ws_tS4 rfl rfl rfl ?_
  refine o_notP (q := x < 0) Gd.none rfl ?_
  refine aops_end ?_
  refine hK3 _ ?_
  refine awp_condQ (q := ¬ (x < 0)) rfl (fun h1 => ?_) (fun h1 => ?_)
  · refine awp_seq fun K4 hK4 => ?_
    refine awp_region rfl ?_
    refine o_move (AV.sl 1 (ns .u32 (dgn (digs ((x).natAbs)).length ((x).natAbs / (y).natAbs)))) Gd.none rfl ?_
    refine o_call [(AV.lit (.bool false)), (AV.sl 1 (ns .u32 (dgn (digs ((x).natAbs)).length ((x).natAbs / (y).natAbs))))] (intW ((sg (false) (val (dgn (digs ((x).natAbs)).length ((x).natAbs / (y).natAbs)))))) Gd.none Ws_tC81 rfl (c_wTrim (false) (dgn (digs ((x).natAbs)).length ((x).natAbs / (y).natAbs)) (by first | assumption | exact dgn_dig _ _ | exact digs_dig _ | exact Dig.snoc (by assumption) (by assumption) | exact Dig.cons (by omega) (digs_dig _))) ?_
    refine o_move (AV.sl 1 (ns .u32 (digs ((x).natAbs % (y).natAbs)))) Gd.none rfl ?_
    refine o_call [(AV.lit (.bool false)), (AV.sl 1 (ns .u32 (digs ((x).natAbs % (y).natAbs))))] (intW ((sg (false) (val (digs ((x).natAbs % (y).natAbs)))))) Gd.none Ws_tC81 rfl (c_wTrim (false) (digs ((x).natAbs % (y).natAbs)) (by first | assumption | exact dgn_dig _ _ | exact digs_dig _ | exact Dig.snoc (by assumption) (by assumption) | exact Dig.cons (by omega) (digs_dig _))) ?_
    refine o_store [(5, (AO.var 79 [(AV.lit (.bool false)), (AV.lit (.slice none 0 0))])), (4, (oZ 79 .u32 ((sg (false) (val (dgn (digs ((x).natAbs)).length ((x).natAbs / (y).natAbs))))))), (3, (oZ 79 .u32 (y))), (2, (oZ 79 .u32 (x)))] Gd.none Ws_tZ79 rfl rfl rfl rfl rfl rfl ?_
    refine o_store [(5, (oZ 79 .u32 ((sg (false) (val (digs ((x).natAbs % (y).natAbs))))))), (4, (oZ 79 .u32 ((sg (false) (val (dgn (digs ((x).natAbs)).length ((x).natAbs / (y).natAbs))))))), (3, (oZ 79 .u32 (y))), (2, (oZ 79 .u32 (x)))] Gd.none Ws_tZ79 rfl rfl rfl rfl rfl rfl ?_
    refine aops_end ?_
    refine hK4 _ ?_
    refine awp_ret ?_
    refine post_ret ⟨[(intW ((sg (false) (val (dgn (digs ((x).natAbs)).length ((x).natAbs / (y).natAbs)))))), (intW ((sg (false) (val (digs ((x).natAbs % (y).natAbs))))))], And.intro ⟨4, (oZ 79 .u32 ((sg (false) (val (dgn (digs ((x).natAbs)).length ((x).natAbs / (y).natAbs)))))), rfl, rfl, rfl, Or.inl ⟨Ws_tA79, AV.le_refl _⟩⟩ (And.intro ⟨5, (oZ 79 .u32 ((sg (false) (val (digs ((x).natAbs % (y).natAbs)))))), rfl, rfl, rfl, Or.inl ⟨Ws_tA79, AV.le_refl _⟩⟩ (trivial)), rfl, ?_⟩
    have e := div1 h1 hy
    exact tup_eq2 (congrArg intW e.1) (congrArg intW e.2)
  · refine awp_skip ?_
    refine hK2 _ ?_
    refine awp_seq fun K5 hK5 => ?_
    refine awp_region rfl ?_
    refine o_move (AV.sl 1 (ns .u32 (dgn (digs ((x).natAbs)).length ((x).natAbs / (y).natAbs)))) Gd.none rfl ?_
    refine o_call [(AV.lit (.bool true)), (AV.sl 1 (ns .u32 (dgn (digs ((x).natAbs)).length ((x).natAbs / (y).natAbs))))] (intW ((sg (true) (val (dgn (digs ((x).natAbs)).length ((x).natAbs / (y).natAbs)))))) Gd.none Ws_tC81 rfl (c_wTrim (true) (dgn (digs ((x).natAbs)).length ((x).natAbs / (y).natAbs)) (by first | assumption | exact dgn_dig _ _ | exact digs_dig _ | exact Dig.snoc (by assumption) (by assumption) | exact Dig.cons (by omega) (digs_dig _))) ?_
    refine o_move (AV.sl 1 (ns .u32 (digs ((x).natAbs % (y).natAbs)))) Gd.none rfl ?_
    refine o_call [(AV.lit (.bool true)), (AV.sl 1 (ns .u32 (digs ((x).natAbs % (y).natAbs))))] (intW ((sg (true) (val (digs ((x).natAbs % (y).natAbs)))))) Gd.none Ws_tC81 rfl (c_wTrim (true) (digs ((x).natAbs % (y).natAbs)) (by first | assumption | exact dgn_dig _ _ | exact digs_dig _ | exact Dig.snoc (by assumption) (by assumption) | exact Dig.cons (by omega) (digs_dig _))) ?_
    refine o_alloc 6 [(AV.lit (.bool false)), (AV.lit (.slice none 0 0))] Gd.none Ws_tO79 rfl rfl rfl ?_
    refine o_alloc 7 [(AV.lit (.bool false)), (AV.lit (.slice none 0 0))] Gd.none Ws_tO79 rfl rfl rfl ?_
    refine o_store [(7, (AO.var 79 [(AV.lit (.bool false)), (AV.lit (.slice none 0 0))])), (6, (oZ 79 .u32 ((sg (true) (val (dgn (digs ((x).natAbs)).length ((x).natAbs / (y).natAbs))))))), (5, (AO.var 79 [(AV.lit (.bool false)), (AV.lit (.slice none 0 0))])), (4, (AO.var 79 [(AV.lit (.bool false)), (AV.lit (.slice none 0 0))])), (3, (oZ 79 .u32 (y))), (2, (oZ 79 .u32 (x)))] Gd.none Ws_tZ79 rfl rfl rfl rfl rfl rfl ?_
    refine o_store [(7, (oZ 79 .u32 ((sg (true) (val (digs ((x).natAbs % (y).natAbs))))))), (6, (oZ 79 .u32 ((sg (true) (val (dgn (digs ((x).natAbs)).length ((x).natAbs / (y).natAbs))))))), (5, (AO.var 79 [(AV.lit (.bool false)), (AV.lit (.slice none 0 0))])), (4, (AO.var 79 [(AV.lit (.bool false)), (AV.lit (.slice none 0 0))])), (3, (oZ 79 .u32 (y))), (2, (oZ 79 .u32 (x)))] Gd.none Ws_tZ79 rfl rfl rfl rfl rfl rfl ?_
    refine aops_end ?_
    refine hK5 _ ?_
    refine awp_seq fun K6 hK6 => ?_
    refine awp_seq fun K7 hK7 => ?_
    refine awp_region rfl ?_
    refine o_loadA [(bp ((sg (true) (val (digs ((x).natAbs % (y).natAbs)))) < 0)), (AV.sl 1 (ns .u32 (digs ((sg (true) (val (digs ((x).natAbs % (y).natAbs))))).natAbs)))] Gd.none Ws_tA79 rfl rfl rfl rfl rfl ?_
    refine o_call [(intW ((sg (true) (val (digs ((x).natAbs % (y).natAbs))))))] (AV.lit (.int .i64 (sgn ((sg (true) (val (digs ((x).natAbs % (y).natAbs)))))))) Gd.none Ws_tC68 rfl (c_wSign ((sg (true) (val (digs ((x).natAbs % (y).natAbs)))))) ?_
    refine o_lss (a := (sgn ((sg (true) (val (digs ((x).natAbs % (y).natAbs))))))) (c := (((0 : Nat) : Int))) Gd.none rfl rfl ?_
    refine aops_end ?_
    refine hK7 _ ?_
    refine awp_condQ (q := (sgn ((sg (true) (val (digs ((x).natAbs % (y).natAbs)))))) < (((0 : Nat) : Int))) rfl (fun h2 => ?_) (fun h2 => ?_)
    · refine awp_seq fun K8 hK8 => ?_
      refine awp_regionD rfl ?_
      refine o_loadA [(bp ((sg (true) (val (dgn (digs ((x).natAbs)).length ((x).natAbs / (y).natAbs)))) < 0)), (AV.sl 1 (ns .u32 (digs ((sg (true) (val (dgn (digs ((x).natAbs)).length ((x).natAbs / (y).natAbs))))).natAbs)))] Gd.none Ws_tA79 rfl rfl rfl rfl rfl ?_
      refine o_call [(nm .i64 (1))] (intW ((1 : Int))) Gd.none Ws_tC59 rfl (c_wOf ((1 : Int)) (by first | decide | omega) (by first | decide | omega)) ?_
      refine o_call [(intW ((sg (true) (val (dgn (digs ((x).natAbs)).length ((x).natAbs / (y).natAbs)))))), (intW ((1 : Int)))] (intW (((sg (true) (val (dgn (digs ((x).natAbs)).length ((x).natAbs / (y).natAbs)))) - (1 : Int)))) Gd.none Ws_tC90 rfl (c_wSub ((sg (true) (val (dgn (digs ((x).natAbs)).length ((x).natAbs / (y).natAbs))))) ((1 : Int)) (by first | omega | assumption | (simp only [Int.natAbs_neg]; omega)) (by first | omega | assumption | (simp only [Int.natAbs_neg]; omega))) ?_
      refine o_loadA [(bp ((sg (true) (val (digs ((x).natAbs % (y).natAbs)))) < 0)), (AV.sl 1 (ns .u32 (digs ((sg (true) (val (digs ((x).natAbs % (y).natAbs))))).natAbs)))] Gd.none Ws_tA79 rfl rfl rfl rfl rfl ?_
      refine o_loadA [(bp (y < 0)), (AV.sl 1 (ns .u32 (digs (y).natAbs)))] Gd.none Ws_tA79 rfl rfl rfl rfl rfl ?_
      refine o_call [(intW ((sg (true) (val (digs ((x).natAbs % (y).natAbs)))))), (intW (y))] (intW (((sg (true) (val (digs ((x).natAbs % (y).natAbs)))) + y))) Gd.none Ws_tC61 rfl (c_wAdd ((sg (true) (val (digs ((x).natAbs % (y).natAbs))))) (y) (by first | omega | assumption | (simp only [Int.natAbs_neg]; omega)) (by first | omega | assumption | (simp only [Int.natAbs_neg]; omega))) ?_
      refine o_store [(7, (oZ 79 .u32 ((sg (true) (val (digs ((x).natAbs % (y).natAbs))))))), (6, (oZ 79 .u32 ((sg (true) (val (dgn (digs ((x).natAbs)).length ((x).natAbs / (y).natAbs))))))), (5, (AO.var 79 [(AV.lit (.bool false)), (AV.lit (.slice none 0 0))])), (4, (oZ 79 .u32 (((sg (true) (val (dgn (digs ((x).natAbs)).length ((x).natAbs / (y).natAbs)))) - (1 : Int))))), (3, (oZ 79 .u32 (y))), (2, (oZ 79 .u32 (x)))] Gd.none Ws_tZ79 rfl rfl rfl rfl rfl rfl ?_
      refine o_store [(7, (oZ 79 .u32 ((sg (true) (val (digs ((x).natAbs % (y).natAbs))))))), (6, (oZ 79 .u32 ((sg (true) (val (dgn (digs ((x).natAbs)).length ((x).natAbs / (y).natAbs))))))), (5, (oZ 79 .u32 (((sg (true) (val (digs ((x).natAbs % (y).natAbs)))) + y)))), (4, (oZ 79 .u32 (((sg (true) (val (dgn (digs ((x).natAbs)).length ((x).natAbs / (y).natAbs)))) - (1 : Int))))), (3, (oZ 79 .u32 (y))), (2, (oZ 79 .u32 (x)))] Gd.none Ws_tZ79 rfl rfl rfl rfl rfl rfl ?_
      refine aops_end ⟨by kernel_rfl, ?_⟩
      refine hK8 _ ?_
      refine awp_ret ?_
      refine post_ret ⟨[(intW (((sg (true) (val (dgn (digs ((x).natAbs)).length ((x).natAbs / (y).natAbs)))) - (1 : Int)))), (intW (((sg (true) (val (digs ((x).natAbs % (y).natAbs)))) + y)))], And.intro ⟨4, (oZ 79 .u32 (((sg (true) (val (dgn (digs ((x).natAbs)).length ((x).natAbs / (y).natAbs)))) - (1 : Int)))), rfl, rfl, rfl, Or.inl ⟨Ws_tA79, AV.le_refl _⟩⟩ (And.intro ⟨5, (oZ 79 .u32 (((sg (true) (val (digs ((x).natAbs % (y).natAbs)))) + y))), rfl, rfl, rfl, Or.inl ⟨Ws_tA79, AV.le_refl _⟩⟩ (trivial)), rfl, ?_⟩
      have e := div2 (Decidable.not_not.1 h1) hy h2
      exact tup_eq2 (congrArg intW e.1) (congrArg intW e.2)
    · refine awp_skip ?_
      refine hK6 _ ?_
      refine awp_seq fun K9 hK9 => ?_
      refine awp_regionD rfl ?_
      refine o_loadA [(bp ((sg (true) (val (dgn (digs ((x).natAbs)).length ((x).natAbs / (y).natAbs)))) < 0)), (AV.sl 1 (ns .u32 (digs ((sg (true) (val (dgn (digs ((x).natAbs)).length ((x).natAbs / (y).natAbs))))).natAbs)))] Gd.none Ws_tA79 rfl rfl rfl rfl rfl ?_
      refine o_loadA [(bp ((sg (true) (val (digs ((x).natAbs % (y).natAbs)))) < 0)), (AV.sl 1 (ns .u32 (digs ((sg (true) (val (digs ((x).natAbs % (y).natAbs))))).natAbs)))] Gd.none Ws_tA79 rfl rfl rfl rfl rfl ?_
      refine o_store [(7, (oZ 79 .u32 ((sg (true) (val (digs ((x).natAbs % (y).natAbs))))))), (6, (oZ 79 .u32 ((sg (true) (val (dgn (digs ((x).natAbs)).length ((x).natAbs / (y).natAbs))))))), (5, (AO.var 79 [(AV.lit (.bool false)), (AV.lit (.slice none 0 0))])), (4, (oZ 79 .u32 ((sg (true) (val (dgn (digs ((x).natAbs)).length ((x).natAbs / (y).natAbs))))))), (3, (oZ 79 .u32 (y))), (2, (oZ 79 .u32 (x)))] Gd.none Ws_tZ79 rfl rfl rfl rfl rfl rfl ?_
      refine o_store [(7, (oZ 79 .u32 ((sg (true) (val (digs ((x).natAbs % (y).natAbs))))))), (6, (oZ 79 .u32 ((sg (true) (val (dgn (digs ((x).natAbs)).length ((x).natAbs / (y).natAbs))))))), (5, (oZ 79 .u32 ((sg (true) (val (digs ((x).natAbs % (y).natAbs))))))), (4, (oZ 79 .u32 ((sg (true) (val (dgn (digs ((x).natAbs)).length ((x).natAbs / (y).natAbs))))))), (3, (oZ 79 .u32 (y))), (2, (oZ 79 .u32 (x)))] Gd.none Ws_tZ79 rfl rfl rfl rfl rfl rfl ?_
      refine aops_end ⟨by kernel_rfl, ?_⟩
      refine hK9 _ ?_
      refine awp_ret ?_
      refine post_ret ⟨[(intW ((sg (true) (val (dgn (digs ((x).natAbs)).length ((x).natAbs / (y).natAbs)))))), (intW ((sg (true) (val (digs ((x).natAbs % (y).natAbs))))))], And.intro ⟨4, (oZ 79 .u32 ((sg (true) (val (dgn (digs ((x).natAbs)).length ((x).natAbs / (y).natAbs)))))), rfl, rfl, rfl, Or.inl ⟨Ws_tA79, AV.le_refl _⟩⟩ (And.intro ⟨5, (oZ 79 .u32 ((sg (true) (val (digs ((x).natAbs % (y).natAbs)))))), rfl, rfl, rfl, Or.inl ⟨Ws_tA79, AV.le_refl _⟩⟩ (trivial)), rfl, ?_⟩
      have e := div3 (Decidable.not_not.1 h1) hy h2
      exact tup_eq2 (congrArg intW e.1) (congrArg intW e.2)

end Go.Proofs.YtbilndahjkimkaaDoor

set_option linter.unusedVariables false
set_option linter.unusedSimpArgs false
namespace Go.Proofs.YtbilndahjkimkaaDoor
open Go Go.Ab Go.Mth
theorem Xa_tU22 : cx.P.underlying 22 = some (.slice 3) := by kernel_rfl
theorem Xa_tE22 : tyElem cx.P 22 = some (3, 1, 8) := by kernel_rfl
theorem Xa_tS3 : tySc cx.P 3 = true := by kernel_rfl
theorem Xa_tF24_0 : tyField cx.P 24 0 = some (0, 3) := by kernel_rfl
theorem Xa_tO89 : tyZero cx.P 89 = some [(Go.Value.bool false), (Go.Value.slice none 0 0), (Go.Value.bool false), (Go.Value.slice none 0 0), (Go.Value.bool false), (Go.Value.slice none 0 0)] := by kernel_rfl
theorem Xa_tC59 : callable cx.P 59 = true := by kernel_rfl
theorem Xa_tP89 : tyPlaces cx.P 89 = some (fun i => (#[(0, 2), (2, 2), (4, 2)] : Array (Nat × Nat))[i]?) := by kernel_rfl
theorem Xa_tZ89 : tySize cx.P 89 = some 6 := by kernel_rfl
theorem Xa_tC84 : callable cx.P 84 = true := by kernel_rfl
theorem Xa_tF24_1 : tyField cx.P 24 1 = some (1, 22) := by kernel_rfl
theorem Xa_tS22 : tySc cx.P 22 = true := by kernel_rfl
theorem Xa_tO79 : tyZero cx.P 79 = some [(Go.Value.bool false), (Go.Value.slice none 0 0)] := by kernel_rfl
theorem Xa_tZ79 : tySize cx.P 79 = some 2 := by kernel_rfl
theorem Xa_tF89_0 : tyField cx.P 89 0 = some (0, 79) := by kernel_rfl
theorem Xa_tA79 : tyAgg cx.P 79 = some 2 := by kernel_rfl
theorem Xa_tC60 : callable cx.P 60 = true := by kernel_rfl
theorem Xa_tF89_1 : tyField cx.P 89 1 = some (2, 79) := by kernel_rfl
theorem Xa_tF89_2 : tyField cx.P 89 2 = some (4, 79) := by kernel_rfl
theorem Xa_tF24_2 : tyField cx.P 24 2 = some (2, 22) := by kernel_rfl
theorem Xa_tC61 : callable cx.P 61 = true := by kernel_rfl
theorem Xa_tA89 : tyAgg cx.P 89 = some 6 := by kernel_rfl
theorem Xa_tO41 : tyZero cx.P 41 = some [(Go.Value.string {data := #[]}), (Go.Value.string {data := #[]}), (Go.Value.string {data := #[]})] := by kernel_rfl
theorem Xa_tC64 : callable cx.P 64 = true := by kernel_rfl
theorem Xa_tP41 : tyPlaces cx.P 41 = some (fun i => (#[(0, 1), (1, 1), (2, 1)] : Array (Nat × Nat))[i]?) := by kernel_rfl
theorem Xa_tZ41 : tySize cx.P 41 = some 3 := by kernel_rfl
theorem Xa_tA41 : tyAgg cx.P 41 = some 3 := by kernel_rfl
theorem Xa_tA24 : tyAgg cx.P 24 = some 3 := by kernel_rfl
theorem Xa_tC46 : callable cx.P 46 = true := by kernel_rfl
theorem Xa_tC55 : callable cx.P 55 = true := by kernel_rfl
theorem Xa_tC56 : callable cx.P 56 = true := by kernel_rfl
theorem Xa_tC57 : callable cx.P 57 = true := by kernel_rfl
theorem c_oIs (m : MapM) (w : List Int) : ECalls cx 55 [(mapV m), (AV.sl 1 (is .i64 (w)))] (bp (OkW m w)) := by
  refine ecalls_of_awp Tryd.func55 (c := _) rfl (Nat.le_of_ble_eq_true rfl) ?_
  show awp cx 25 _ (postF cx Tryd.f55 _) ⟨[(0, (mapV m)), (1, (AV.sl 1 (is .i64 (w))))], []⟩
  refine awp_bound (i := 1) rfl fun hwl => ?_
  replace hwl := is_bnd hwl
  refine awp_seq fun K0 hK0 => ?_
  refine awp_region rfl ?_
  refine o_box 2 [(AV.lit (.int .i64 (m.mod))), (AV.sl 1 (is .i64 (m.mul))), (AV.sl 1 (is .i64 (m.add)))] Gd.none rfl rfl ?_
  refine o_assign (AV.lit (.bool false)) Gd.none rfl ?_
  refine aops_end ?_
  refine hK0 _ ?_
  refine awp_seq fun K1 hK1 => ?_
  refine awp_seq fun K2 hK2 => ?_
  refine awp_region rfl ?_
  refine o_move (AV.sl 1 (is .i64 (w))) Gd.none rfl ?_
  refine i_len (w) Gd.none Xa_tU22 rfl ?_
  refine o_move (nm .i64 (0)) Gd.none rfl ?_
  refine aops_end ?_
  refine hK2 _ ?_
  refine awp_block ?_
  refine awp_loopR (fun κ σ => ∃ (i : Nat), (i ≤ w.length) ∧ (∀ k, k < i → 0 ≤ w.getD k 0 ∧ w.getD k 0 < m.mod) ∧ (w.length - i) = κ ∧ σ = ⟨[(1, (AV.sl 1 (is .i64 (w)))), (2, (AV.ref 2 (0))), (7, (AV.sl 1 (is .i64 (w)))), (8, (nm .i64 ((w).length))), (9, (nm .i64 (i)))], [(2, (oM 24 m))]⟩) ⟨_, _, ⟨0, (by omega), (fun k hk => by omega), rfl, rfl⟩, ?wk0⟩ ?rd0
  case wk0 =>
    exact Wk.sub (And.intro rfl (And.intro rfl (And.intro rfl (And.intro rfl (And.intro (by first | rfl | exact congrArg (nm _) (by omega) | exact nm_int (by omega) | exact nm_int (by simp [IntKind.wrap, IntKind.bits, IntKind.signed]; omega)) (trivial)))))) (And.intro rfl (trivial))
  rintro κ _ ⟨i, hi, hf, rfl, rfl⟩
  refine awp_seq fun K3 hK3 => ?_
  refine awp_region rfl ?_
  refine n_lss (i) ((w).length) Gd.none rfl rfl ?_
  refine aops_end ?_
  refine hK3 _ ?_
  refine awp_seq fun K4 hK4 => ?_
  refine awp_condQ (q := (i) < ((w).length)) rfl (fun h1 => ?_) (fun h1 => ?_)
  · refine awp_skip ?_
    refine hK4 _ ?_
    refine awp_seq fun K5 hK5 => ?_
    refine awp_block ?_
    refine awp_seq fun K6 hK6 => ?_
    refine awp_region rfl ?_
    refine i_index (w) (i) Gd.none Xa_tE22 rfl rfl (by omega) ?_
    refine i_loadI (w) (i) Gd.none Xa_tS3 rfl (by omega) ?_
    refine o_assign (AV.lit (.int .i64 ((w).getD (i) 0))) Gd.none rfl ?_
    refine aops_end ?_
    refine hK6 _ ?_
    refine awp_seq fun K7 hK7 => ?_
    refine awp_region rfl ?_
    refine o_move (AV.lit (.int .i64 ((w).getD (i) 0))) Gd.none rfl ?_
    refine o_lss (a := ((w).getD (i) 0)) (c := (((0 : Nat) : Int))) Gd.none rfl rfl ?_
    refine o_move (bp (((w).getD (i) 0) < (((0 : Nat) : Int)))) Gd.none rfl ?_
    refine o_splitP (q := ((w).getD (i) 0) < (((0 : Nat) : Int))) 15 rfl (fun h2 => ?_) (fun h2 => ?_)
    · refine o_skip (b := decide (((w).getD (i) 0) < (((0 : Nat) : Int)))) rfl rfl (decide_eq_true h2) ?_
      refine o_skip (b := decide (((w).getD (i) 0) < (((0 : Nat) : Int)))) rfl rfl (decide_eq_true h2) ?_
      refine o_skip (b := decide (((w).getD (i) 0) < (((0 : Nat) : Int)))) rfl rfl (decide_eq_true h2) ?_
      refine o_skip (b := decide (((w).getD (i) 0) < (((0 : Nat) : Int)))) rfl rfl (decide_eq_true h2) ?_
      refine o_pickT (b := decide (((w).getD (i) 0) < (((0 : Nat) : Int)))) (AV.lit (.bool true)) Gd.none rfl (decide_eq_true h2) rfl ?_
      refine aops_end ?_
      refine hK7 _ ?_
      refine awp_condB (b := true) rfl (fun _ => ?_) (fun hh => absurd (hh.symm.trans rfl) (by decide))
      refine awp_seq fun K8 hK8 => ?_
      refine awp_region rfl ?_
      refine o_assign (AV.lit (.bool false)) Gd.none rfl ?_
      refine aops_end ?_
      refine hK8 _ ?_
      refine awp_ret ?_
      refine post_ret ⟨[(AV.lit (.bool false))], And.intro (AV.le_refl _) (trivial), rfl, ?_⟩
      exact (bl_bp (b := false) ⟨fun h => (by cases h), fun h => absurd h (fun hh => absurd (isW_get hh.1 h1).1 (by omega))⟩).symm
    · refine o_move (AV.lit (.int .i64 ((w).getD (i) 0))) (Gd.yes rfl rfl (decide_eq_false h2)) rfl ?_
      refine o_fieldRef 0 (Gd.yes rfl rfl (decide_eq_false h2)) Xa_tF24_0 rfl rfl ?_
      refine o_loadS (AV.lit (.int .i64 (m.mod))) (Gd.yes rfl rfl (decide_eq_false h2)) Xa_tS3 rfl rfl rfl ?_
      refine o_geq (a := ((w).getD (i) 0)) (c := (m.mod)) (Gd.yes rfl rfl (decide_eq_false h2)) rfl rfl ?_
      refine o_pickF (b := decide (((w).getD (i) 0) < (((0 : Nat) : Int)))) (bp ((m.mod) ≤ ((w).getD (i) 0))) Gd.none rfl (decide_eq_false h2) rfl ?_
      refine aops_end ?_
      refine hK7 _ ?_
      refine awp_condQ (q := (m.mod) ≤ ((w).getD (i) 0)) rfl (fun h3 => ?_) (fun h3 => ?_)
      · refine awp_seq fun K9 hK9 => ?_
        refine awp_region rfl ?_
        refine o_assign (AV.lit (.bool false)) Gd.none rfl ?_
        refine aops_end ?_
        refine hK9 _ ?_
        refine awp_ret ?_
        refine post_ret ⟨[(AV.lit (.bool false))], And.intro (AV.le_refl _) (trivial), rfl, ?_⟩
        exact (bl_bp (b := false) ⟨fun h => (by cases h), fun h => absurd h (fun hh => absurd (isW_get hh.1 h1).2 (by omega))⟩).symm
      · refine awp_skip ?_
        refine hK5 _ ?_
        refine awp_region rfl ?_
        refine n_add (i) (1) Gd.none rfl rfl (by simp only [topOf]; omega) ?_
        refine o_move (nm .i64 ((i) + (1))) Gd.none rfl ?_
        refine aops_end ?_
        refine ⟨_, _, ?lt, ⟨i + 1, (by omega), (fun k hk => by rcases Nat.lt_or_ge k i with e | e; exact hf k e; rw [show k = i by omega]; omega), rfl, rfl⟩, ?wk⟩
        case lt => omega
        case wk => exact Wk.sub (And.intro rfl (And.intro rfl (And.intro rfl (And.intro rfl (And.intro (by first | rfl | exact congrArg (nm _) (by omega) | exact nm_int (by omega) | exact nm_int (by simp [IntKind.wrap, IntKind.bits, IntKind.signed]; omega)) (trivial)))))) (And.intro rfl (trivial))
  · refine awp_exit ?_
    refine hK1 _ ?_
    refine awp_seq fun K10 hK10 => ?_
    refine awp_region rfl ?_
    refine o_move (AV.sl 1 (is .i64 (w))) Gd.none rfl ?_
    refine i_len (w) Gd.none Xa_tU22 rfl ?_
    refine n_leq ((w).length) (200) Gd.none rfl rfl ?_
    refine o_assign (bp (((w).length) ≤ (200))) Gd.none rfl ?_
    refine aops_end ?_
    refine hK10 _ ?_
    refine awp_ret ?_
    refine post_ret ⟨[(bp (((w).length) ≤ (200)))], And.intro (AV.le_refl _) (trivial), rfl, ?_⟩
    exact bp_congr ⟨fun h => h.2, fun h => ⟨isW_of fun k hk => hf k (by omega), h⟩⟩

theorem c_oOf (m : MapM) (w : List Int) (hM : OkM m) (hw : IsW m w) (hl : w.length ≤ 200) : ECalls cx 56 [(mapV m), (AV.sl 1 (is .i64 (w)))] (linW (lineZ m w)) := by
  refine ecalls_of_awp Tryd.func56 (c := _) rfl (Nat.le_of_ble_eq_true rfl) ?_
  show awp cx 25 _ (postF cx Tryd.f56 _) ⟨[(0, (mapV m)), (1, (AV.sl 1 (is .i64 (w))))], []⟩
  have hM2 := hM
  obtain ⟨o1, o2, o3, o4, o5⟩ := hM2
  refine awp_seq fun K0 hK0 => ?_
  refine awp_region rfl ?_
  refine o_box 2 [(AV.lit (.int .i64 (m.mod))), (AV.sl 1 (is .i64 (m.mul))), (AV.sl 1 (is .i64 (m.add)))] Gd.none rfl rfl ?_
  refine o_alloc 3 [(AV.lit (.bool false)), (AV.lit (.slice none 0 0)), (AV.lit (.bool false)), (AV.lit (.slice none 0 0)), (AV.lit (.bool false)), (AV.lit (.slice none 0 0))] Gd.none Xa_tO89 rfl rfl rfl ?_
  refine aops_end ?_
  refine hK0 _ ?_
  refine awp_seq fun K1 hK1 => ?_
  refine awp_region rfl ?_
  refine o_call [(nm .i64 (1))] (intW ((1 : Int))) Gd.none Xa_tC59 rfl (c_wOf ((1 : Int)) (by first | decide | omega) (by first | decide | omega)) ?_
  refine o_call [(nm .i64 (0))] (intW ((0 : Int))) Gd.none Xa_tC59 rfl (c_wOf ((0 : Int)) (by first | decide | omega) (by first | decide | omega)) ?_
  refine o_call [(nm .i64 (1))] (intW ((1 : Int))) Gd.none Xa_tC59 rfl (c_wOf ((1 : Int)) (by first | decide | omega) (by first | decide | omega)) ?_
  refine o_build [(bp ((1 : Int) < 0)), (AV.sl 1 (ns .u32 (digs ((1 : Int)).natAbs))), (bp ((0 : Int) < 0)), (AV.sl 1 (ns .u32 (digs ((0 : Int)).natAbs))), (bp ((1 : Int) < 0)), (AV.sl 1 (ns .u32 (digs ((1 : Int)).natAbs)))] [(0, [(bp ((1 : Int) < 0)), (AV.sl 1 (ns .u32 (digs ((1 : Int)).natAbs)))]), (1, [(bp ((0 : Int) < 0)), (AV.sl 1 (ns .u32 (digs ((0 : Int)).natAbs)))]), (2, [(bp ((1 : Int) < 0)), (AV.sl 1 (ns .u32 (digs ((1 : Int)).natAbs)))])] Gd.none Xa_tP89 Xa_tO89 rfl rfl rfl ?_
  refine o_alloc 4 [(AV.lit (.bool false)), (AV.lit (.slice none 0 0)), (AV.lit (.bool false)), (AV.lit (.slice none 0 0)), (AV.lit (.bool false)), (AV.lit (.slice none 0 0))] Gd.none Xa_tO89 rfl rfl rfl ?_
  refine o_store [(4, (AO.var 89 [(bp ((1 : Int) < 0)), (AV.sl 1 (ns .u32 (digs ((1 : Int)).natAbs))), (bp ((0 : Int) < 0)), (AV.sl 1 (ns .u32 (digs ((0 : Int)).natAbs))), (bp ((1 : Int) < 0)), (AV.sl 1 (ns .u32 (digs ((1 : Int)).natAbs)))])), (3, (AO.var 89 [(AV.lit (.bool false)), (AV.lit (.slice none 0 0)), (AV.lit (.bool false)), (AV.lit (.slice none 0 0)), (AV.lit (.bool false)), (AV.lit (.slice none 0 0))])), (2, (oM 24 m))] Gd.none Xa_tZ89 rfl rfl rfl rfl rfl rfl ?_
  refine aops_end ?_
  refine hK1 _ ?_
  refine awp_seq fun K2 hK2 => ?_
  refine awp_region rfl ?_
  refine o_makeFunc [(AV.ref 2 (0)), (AV.ref 4 (0))] Gd.none rfl ?_
  refine o_assign (AV.clo 84 [(AV.ref 2 (0)), (AV.ref 4 (0))]) Gd.none rfl ?_
  refine aops_end ?_
  refine hK2 _ ?_
  refine awp_seq fun K3 hK3 => ?_
  refine awp_seq fun K4 hK4 => ?_
  refine awp_region rfl ?_
  refine o_move (AV.sl 1 (is .i64 (w))) Gd.none rfl ?_
  refine i_len (w) Gd.none Xa_tU22 rfl ?_
  refine o_move (nm .i64 (0)) Gd.none rfl ?_
  refine aops_end ?_
  refine hK4 _ ?_
  refine awp_block ?_
  refine awp_loopR (fun κ σ => ∃ (i : Nat), ∃ (l : LinZ), (i ≤ w.length) ∧ (l = lineZ m (w.take i)) ∧ (w.length - i) = κ ∧ σ = ⟨[(2, (AV.ref 2 (0))), (4, (AV.ref 3 (0))), (5, (AV.ref 4 (0))), (6, (AV.clo 84 [(AV.ref 2 (0)), (AV.ref 4 (0))])), (14, (AV.sl 1 (is .i64 (w)))), (15, (nm .i64 ((w).length))), (16, (nm .i64 (i)))], [(2, (oM 24 m)), (3, (AO.var 89 [(AV.lit (.bool false)), (AV.lit (.slice none 0 0)), (AV.lit (.bool false)), (AV.lit (.slice none 0 0)), (AV.lit (.bool false)), (AV.lit (.slice none 0 0))])), (4, (AO.var 89 [(bp (((l).mul) < 0)), (AV.sl 1 (ns .u32 (digs ((l).mul).natAbs))), (bp (((l).add) < 0)), (AV.sl 1 (ns .u32 (digs ((l).add).natAbs))), (bp (((l).div) < 0)), (AV.sl 1 (ns .u32 (digs ((l).div).natAbs)))]))]⟩) ⟨_, _, ⟨0, oneZ, (by omega), rfl, rfl, rfl⟩, ?wk0⟩ ?rd0
  case wk0 =>
    exact Wk.sub (And.intro rfl (And.intro rfl (And.intro rfl (And.intro rfl (And.intro rfl (And.intro rfl (And.intro (by first | rfl | exact congrArg (nm _) (by omega) | exact nm_int (by omega) | exact nm_int (by simp [IntKind.wrap, IntKind.bits, IntKind.signed]; omega)) (trivial)))))))) (And.intro rfl (And.intro rfl (And.intro rfl (trivial))))
  rintro κ _ ⟨i, l, hi, hl2, rfl, rfl⟩
  refine awp_seq fun K5 hK5 => ?_
  refine awp_region rfl ?_
  refine n_lss (i) ((w).length) Gd.none rfl rfl ?_
  refine aops_end ?_
  refine hK5 _ ?_
  refine awp_seq fun K6 hK6 => ?_
  refine awp_condQ (q := (i) < ((w).length)) rfl (fun h1 => ?_) (fun h1 => ?_)
  · have hwi := isW_get hw h1
    refine awp_skip ?_
    refine hK6 _ ?_
    refine awp_seq fun K7 hK7 => ?_
    refine awp_block ?_
    refine awp_seq fun K8 hK8 => ?_
    refine awp_region rfl ?_
    refine i_index (w) (i) Gd.none Xa_tE22 rfl rfl (by omega) ?_
    refine i_loadI (w) (i) Gd.none Xa_tS3 rfl (by omega) ?_
    refine n_as (v' := (nm .i64 (((w).getD (i) 0).toNat))) (nm_int (by omega)) ?_
    refine o_assign (nm .i64 (((w).getD (i) 0).toNat)) Gd.none rfl ?_
    refine aops_end ?_
    refine hK8 _ ?_
    refine awp_wk (σ' := ⟨[(2, (AV.ref 2 (0))), (4, (AV.ref 3 (0))), (5, (AV.ref 4 (0))), (6, (AV.clo 84 [(AV.ref 2 (0)), (AV.ref 4 (0))])), (14, (AV.sl 1 (is .i64 (w)))), (15, (nm .i64 ((w).length))), (16, (nm .i64 (i))), (17, (bp ((i) < ((w).length)))), (18, (AV.ip ((is .i64 (w)).drop (i)))), (19, (nm .i64 (((w).getD (i) 0).toNat))), (8, (nm .i64 (((w).getD (i) 0).toNat)))], [(2, (oM 24 m)), (3, (AO.var 89 [(AV.lit (.bool false)), (AV.lit (.slice none 0 0)), (AV.lit (.bool false)), (AV.lit (.slice none 0 0)), (AV.lit (.bool false)), (AV.lit (.slice none 0 0))])), (4, (AO.var 89 [(bp (((l).mul) < 0)), (AV.sl 1 (ns .u32 (digs ((l).mul).natAbs))), (bp (((l).add) < 0)), (AV.sl 1 (ns .u32 (digs ((l).add).natAbs))), (bp (((l).div) < 0)), (AV.sl 1 (ns .u32 (digs ((l).div).natAbs)))]))]⟩) (Wk.sub (And.intro rfl (And.intro rfl (And.intro rfl (And.intro rfl (And.intro rfl (And.intro rfl (And.intro rfl (And.intro rfl (And.intro rfl (And.intro rfl (And.intro rfl (trivial)))))))))))) (And.intro rfl (And.intro rfl (And.intro rfl (trivial))))) ?_
    refine awp_regionSK 2 22 _ 84 [(AV.ref 2 (0)), (AV.ref 4 (0))] _ _ _ _ _ [(nm .i64 (((w).getD (i) 0).toNat)), (AV.ref 2 (0)), (AV.ref 4 (0))] (linW (thenZ m l ((w).getD (i) 0))) [(2, (oM 24 m)), (3, (AO.var 89 [(AV.lit (.bool false)), (AV.lit (.slice none 0 0)), (AV.lit (.bool false)), (AV.lit (.slice none 0 0)), (AV.lit (.bool false)), (AV.lit (.slice none 0 0))])), (4, (AO.var 89 [(bp (((l).mul) < 0)), (AV.sl 1 (ns .u32 (digs ((l).mul).natAbs))), (bp (((l).add) < 0)), (AV.sl 1 (ns .u32 (digs ((l).add).natAbs))), (bp (((l).div) < 0)), (AV.sl 1 (ns .u32 (digs ((l).div).natAbs)))]))] rfl rfl Xa_tC84 ?_
    refine o_move (AV.clo 84 [(AV.ref 2 (0)), (AV.ref 4 (0))]) Gd.none rfl ?_
    refine o_move (nm .i64 (((w).getD (i) 0).toNat)) Gd.none rfl ?_
    refine aops_end ⟨rfl, rfl, ?sc1, ?_⟩
    case sc1 =>
      refine scalls_of_awpB 9010 Tryd.func84 (c := _) rfl (Nat.le_of_ble_eq_true rfl) rfl rfl rfl (fun us1 => ?_)
      show awp cx 37 _ (postS cx Tryd.f84 (linW (thenZ m l ((w).getD (i) 0))) [(2, (oM 24 m)), (3, (AO.var 89 [(AV.lit (.bool false)), (AV.lit (.slice none 0 0)), (AV.lit (.bool false)), (AV.lit (.slice none 0 0)), (AV.lit (.bool false)), (AV.lit (.slice none 0 0))])), (4, (AO.var 89 [(bp (((l).mul) < 0)), (AV.sl 1 (ns .u32 (digs ((l).mul).natAbs))), (bp (((l).add) < 0)), (AV.sl 1 (ns .u32 (digs ((l).add).natAbs))), (bp (((l).div) < 0)), (AV.sl 1 (ns .u32 (digs ((l).div).natAbs)))]))] 9010 [(nm .i64 (((w).getD (i) 0).toNat)), (AV.clo 84 [(AV.ref 2 (0)), (AV.ref 4 (0))]), (AV.ref 2 (0)), (AV.ref 3 (0)), (AV.ref 4 (0)), (AV.clo 84 [(AV.ref 2 (0)), (AV.ref 4 (0))]), (AV.sl 1 (is .i64 (w))), (nm .i64 ((w).length)), (nm .i64 (i)), (bp ((i) < ((w).length))), (AV.ip ((is .i64 (w)).drop (i))), (nm .i64 (((w).getD (i) 0).toNat)), (nm .i64 (((w).getD (i) 0).toNat))] us1) ⟨[(0, (nm .i64 (((w).getD (i) 0).toNat))), (1, (AV.ref 2 (0))), (2, (AV.ref 4 (0)))], [(9010, (AO.pin [(nm .i64 (((w).getD (i) 0).toNat)), (AV.clo 84 [(AV.ref 2 (0)), (AV.ref 4 (0))]), (AV.ref 2 (0)), (AV.ref 3 (0)), (AV.ref 4 (0)), (AV.clo 84 [(AV.ref 2 (0)), (AV.ref 4 (0))]), (AV.sl 1 (is .i64 (w))), (nm .i64 ((w).length)), (nm .i64 (i)), (bp ((i) < ((w).length))), (AV.ip ((is .i64 (w)).drop (i))), (nm .i64 (((w).getD (i) 0).toNat)), (nm .i64 (((w).getD (i) 0).toNat))] us1)), (2, (oM 24 m)), (3, (AO.var 89 [(AV.lit (.bool false)), (AV.lit (.slice none 0 0)), (AV.lit (.bool false)), (AV.lit (.slice none 0 0)), (AV.lit (.bool false)), (AV.lit (.slice none 0 0))])), (4, (AO.var 89 [(bp (((l).mul) < 0)), (AV.sl 1 (ns .u32 (digs ((l).mul).natAbs))), (bp (((l).add) < 0)), (AV.sl 1 (ns .u32 (digs ((l).add).natAbs))), (bp (((l).div) < 0)), (AV.sl 1 (ns .u32 (digs ((l).div).natAbs)))]))]⟩
      have hor := o5 (((w).getD (i) 0).toNat) (by omega)
      obtain ⟨L1, L2, L3⟩ := line_len hM (w.take i) (isW_take hw i)
      have L4 : (w.take i).length ≤ 200 := by rw [List.length_take]; omega
      rw [← hl2] at L1 L2 L3
      have hq1 := small_len (z := ((m.mul).getD (((w).getD (i) 0).toNat) 0)) (by omega)
      have ha1 := small_len (z := ((m.add).getD (((w).getD (i) 0).toNat) 0)) (by omega)
      have hd1 := small_len (z := m.mod) (by omega)
      have hm1 := len_mulZ l.mul ((m.mul).getD (((w).getD (i) 0).toNat) 0)
      have hm2 := len_mulZ l.add ((m.mul).getD (((w).getD (i) 0).toNat) 0)
      have hm3 := len_mulZ l.div ((m.add).getD (((w).getD (i) 0).toNat) 0)
      refine awp_seq fun K9 hK9 => ?_
      refine awp_region rfl ?_
      refine o_alloc 101 [(AV.lit (.bool false)), (AV.lit (.slice none 0 0)), (AV.lit (.bool false)), (AV.lit (.slice none 0 0)), (AV.lit (.bool false)), (AV.lit (.slice none 0 0))] Gd.none Xa_tO89 rfl rfl rfl ?_
      refine aops_end ?_
      refine hK9 _ ?_
      refine awp_seq fun K10 hK10 => ?_
      refine awp_region rfl ?_
      refine o_fieldRef 1 Gd.none Xa_tF24_1 rfl rfl ?_
      refine o_loadS (AV.sl 1 (is .i64 (m.mul))) Gd.none Xa_tS22 rfl rfl rfl ?_
      refine o_move (nm .i64 (((w).getD (i) 0).toNat)) Gd.none rfl ?_
      refine i_index (m.mul) (((w).getD (i) 0).toNat) Gd.none Xa_tE22 rfl rfl (by omega) ?_
      refine i_loadI (m.mul) (((w).getD (i) 0).toNat) Gd.none Xa_tS3 rfl (by omega) ?_
      refine o_call [(AV.lit (.int .i64 ((m.mul).getD (((w).getD (i) 0).toNat) 0)))] (intW ((m.mul).getD (((w).getD (i) 0).toNat) 0)) Gd.none Xa_tC59 rfl (c_wOf ((m.mul).getD (((w).getD (i) 0).toNat) 0) (by first | decide | omega) (by first | decide | omega)) ?_
      refine o_alloc 102 [(AV.lit (.bool false)), (AV.lit (.slice none 0 0))] Gd.none Xa_tO79 rfl rfl rfl ?_
      refine o_store [(102, (oZ 79 .u32 ((m.mul).getD (((w).getD (i) 0).toNat) 0))), (101, (AO.var 89 [(AV.lit (.bool false)), (AV.lit (.slice none 0 0)), (AV.lit (.bool false)), (AV.lit (.slice none 0 0)), (AV.lit (.bool false)), (AV.lit (.slice none 0 0))])), (9010, (AO.pin [(nm .i64 (((w).getD (i) 0).toNat)), (AV.clo 84 [(AV.ref 2 (0)), (AV.ref 4 (0))]), (AV.ref 2 (0)), (AV.ref 3 (0)), (AV.ref 4 (0)), (AV.clo 84 [(AV.ref 2 (0)), (AV.ref 4 (0))]), (AV.sl 1 (is .i64 (w))), (nm .i64 ((w).length)), (nm .i64 (i)), (bp ((i) < ((w).length))), (AV.ip ((is .i64 (w)).drop (i))), (nm .i64 (((w).getD (i) 0).toNat)), (nm .i64 (((w).getD (i) 0).toNat))] us1)), (2, (oM 24 m)), (3, (AO.var 89 [(AV.lit (.bool false)), (AV.lit (.slice none 0 0)), (AV.lit (.bool false)), (AV.lit (.slice none 0 0)), (AV.lit (.bool false)), (AV.lit (.slice none 0 0))])), (4, (AO.var 89 [(bp (((l).mul) < 0)), (AV.sl 1 (ns .u32 (digs ((l).mul).natAbs))), (bp (((l).add) < 0)), (AV.sl 1 (ns .u32 (digs ((l).add).natAbs))), (bp (((l).div) < 0)), (AV.sl 1 (ns .u32 (digs ((l).div).natAbs)))]))] Gd.none Xa_tZ79 rfl rfl rfl rfl rfl rfl ?_
      refine aops_end ?_
      refine hK10 _ ?_
      refine awp_seq fun K11 hK11 => ?_
      refine awp_regionD rfl ?_
      refine o_fieldRef 0 Gd.none Xa_tF89_0 rfl rfl ?_
      refine o_loadA [(bp (((l).mul) < 0)), (AV.sl 1 (ns .u32 (digs ((l).mul).natAbs)))] Gd.none Xa_tA79 rfl rfl rfl rfl rfl ?_
      refine o_loadA [(bp ((m.mul).getD (((w).getD (i) 0).toNat) 0 < 0)), (AV.sl 1 (ns .u32 (digs ((m.mul).getD (((w).getD (i) 0).toNat) 0).natAbs)))] Gd.none Xa_tA79 rfl rfl rfl rfl rfl ?_
      refine o_call [(AV.agg [(bp (((l).mul) < 0)), (AV.sl 1 (ns .u32 (digs ((l).mul).natAbs)))]), (intW ((m.mul).getD (((w).getD (i) 0).toNat) 0))] (intW ((((l).mul) * (m.mul).getD (((w).getD (i) 0).toNat) 0))) Gd.none Xa_tC60 rfl (c_wMul (((l).mul)) ((m.mul).getD (((w).getD (i) 0).toNat) 0) (by first | omega | assumption | (simp only [Int.natAbs_neg]; omega)) (by first | omega | assumption | (simp only [Int.natAbs_neg]; omega))) ?_
      refine o_fieldRef 2 Gd.none Xa_tF89_1 rfl rfl ?_
      refine o_loadA [(bp (((l).add) < 0)), (AV.sl 1 (ns .u32 (digs ((l).add).natAbs)))] Gd.none Xa_tA79 rfl rfl rfl rfl rfl ?_
      refine o_loadA [(bp ((m.mul).getD (((w).getD (i) 0).toNat) 0 < 0)), (AV.sl 1 (ns .u32 (digs ((m.mul).getD (((w).getD (i) 0).toNat) 0).natAbs)))] Gd.none Xa_tA79 rfl rfl rfl rfl rfl ?_
      refine o_call [(AV.agg [(bp (((l).add) < 0)), (AV.sl 1 (ns .u32 (digs ((l).add).natAbs)))]), (intW ((m.mul).getD (((w).getD (i) 0).toNat) 0))] (intW ((((l).add) * (m.mul).getD (((w).getD (i) 0).toNat) 0))) Gd.none Xa_tC60 rfl (c_wMul (((l).add)) ((m.mul).getD (((w).getD (i) 0).toNat) 0) (by first | omega | assumption | (simp only [Int.natAbs_neg]; omega)) (by first | omega | assumption | (simp only [Int.natAbs_neg]; omega))) ?_
      refine o_fieldRef 4 Gd.none Xa_tF89_2 rfl rfl ?_
      refine o_loadA [(bp (((l).div) < 0)), (AV.sl 1 (ns .u32 (digs ((l).div).natAbs)))] Gd.none Xa_tA79 rfl rfl rfl rfl rfl ?_
      refine o_fieldRef 2 Gd.none Xa_tF24_2 rfl rfl ?_
      refine o_loadS (AV.sl 1 (is .i64 (m.add))) Gd.none Xa_tS22 rfl rfl rfl ?_
      refine o_move (nm .i64 (((w).getD (i) 0).toNat)) Gd.none rfl ?_
      refine i_index (m.add) (((w).getD (i) 0).toNat) Gd.none Xa_tE22 rfl rfl (by omega) ?_
      refine i_loadI (m.add) (((w).getD (i) 0).toNat) Gd.none Xa_tS3 rfl (by omega) ?_
      refine o_call [(AV.lit (.int .i64 ((m.add).getD (((w).getD (i) 0).toNat) 0)))] (intW ((m.add).getD (((w).getD (i) 0).toNat) 0)) Gd.none Xa_tC59 rfl (c_wOf ((m.add).getD (((w).getD (i) 0).toNat) 0) (by first | decide | omega) (by first | decide | omega)) ?_
      refine o_call [(AV.agg [(bp (((l).div) < 0)), (AV.sl 1 (ns .u32 (digs ((l).div).natAbs)))]), (intW ((m.add).getD (((w).getD (i) 0).toNat) 0))] (intW ((((l).div) * (m.add).getD (((w).getD (i) 0).toNat) 0))) Gd.none Xa_tC60 rfl (c_wMul (((l).div)) ((m.add).getD (((w).getD (i) 0).toNat) 0) (by first | omega | assumption | (simp only [Int.natAbs_neg]; omega)) (by first | omega | assumption | (simp only [Int.natAbs_neg]; omega))) ?_
      refine o_call [(intW ((((l).add) * (m.mul).getD (((w).getD (i) 0).toNat) 0))), (intW ((((l).div) * (m.add).getD (((w).getD (i) 0).toNat) 0)))] (intW (((((l).add) * (m.mul).getD (((w).getD (i) 0).toNat) 0) + (((l).div) * (m.add).getD (((w).getD (i) 0).toNat) 0)))) Gd.none Xa_tC61 rfl (c_wAdd ((((l).add) * (m.mul).getD (((w).getD (i) 0).toNat) 0)) ((((l).div) * (m.add).getD (((w).getD (i) 0).toNat) 0)) (by first | omega | assumption | (simp only [Int.natAbs_neg]; omega)) (by first | omega | assumption | (simp only [Int.natAbs_neg]; omega))) ?_
      refine o_fieldRef 4 Gd.none Xa_tF89_2 rfl rfl ?_
      refine o_loadA [(bp (((l).div) < 0)), (AV.sl 1 (ns .u32 (digs ((l).div).natAbs)))] Gd.none Xa_tA79 rfl rfl rfl rfl rfl ?_
      refine o_fieldRef 0 Gd.none Xa_tF24_0 rfl rfl ?_
      refine o_loadS (AV.lit (.int .i64 (m.mod))) Gd.none Xa_tS3 rfl rfl rfl ?_
      refine o_call [(AV.lit (.int .i64 (m.mod)))] (intW ((m.mod))) Gd.none Xa_tC59 rfl (c_wOf (m.mod) (by first | decide | omega) (by first | decide | omega)) ?_
      refine o_call [(AV.agg [(bp (((l).div) < 0)), (AV.sl 1 (ns .u32 (digs ((l).div).natAbs)))]), (intW ((m.mod)))] (intW ((((l).div) * (m.mod)))) Gd.none Xa_tC60 rfl (c_wMul (((l).div)) ((m.mod)) (by first | omega | assumption | (simp only [Int.natAbs_neg]; omega)) (by first | omega | assumption | (simp only [Int.natAbs_neg]; omega))) ?_
      refine o_build [(bp ((((l).mul) * (m.mul).getD (((w).getD (i) 0).toNat) 0) < 0)), (AV.sl 1 (ns .u32 (digs ((((l).mul) * (m.mul).getD (((w).getD (i) 0).toNat) 0)).natAbs))), (bp (((((l).add) * (m.mul).getD (((w).getD (i) 0).toNat) 0) + (((l).div) * (m.add).getD (((w).getD (i) 0).toNat) 0)) < 0)), (AV.sl 1 (ns .u32 (digs (((((l).add) * (m.mul).getD (((w).getD (i) 0).toNat) 0) + (((l).div) * (m.add).getD (((w).getD (i) 0).toNat) 0))).natAbs))), (bp ((((l).div) * (m.mod)) < 0)), (AV.sl 1 (ns .u32 (digs ((((l).div) * (m.mod))).natAbs)))] [(0, [(bp ((((l).mul) * (m.mul).getD (((w).getD (i) 0).toNat) 0) < 0)), (AV.sl 1 (ns .u32 (digs ((((l).mul) * (m.mul).getD (((w).getD (i) 0).toNat) 0)).natAbs)))]), (1, [(bp (((((l).add) * (m.mul).getD (((w).getD (i) 0).toNat) 0) + (((l).div) * (m.add).getD (((w).getD (i) 0).toNat) 0)) < 0)), (AV.sl 1 (ns .u32 (digs (((((l).add) * (m.mul).getD (((w).getD (i) 0).toNat) 0) + (((l).div) * (m.add).getD (((w).getD (i) 0).toNat) 0))).natAbs)))]), (2, [(bp ((((l).div) * (m.mod)) < 0)), (AV.sl 1 (ns .u32 (digs ((((l).div) * (m.mod))).natAbs)))])] Gd.none Xa_tP89 Xa_tO89 rfl rfl rfl ?_
      refine o_store [(102, (oZ 79 .u32 ((m.mul).getD (((w).getD (i) 0).toNat) 0))), (101, (AO.var 89 [(bp ((((l).mul) * (m.mul).getD (((w).getD (i) 0).toNat) 0) < 0)), (AV.sl 1 (ns .u32 (digs ((((l).mul) * (m.mul).getD (((w).getD (i) 0).toNat) 0)).natAbs))), (bp (((((l).add) * (m.mul).getD (((w).getD (i) 0).toNat) 0) + (((l).div) * (m.add).getD (((w).getD (i) 0).toNat) 0)) < 0)), (AV.sl 1 (ns .u32 (digs (((((l).add) * (m.mul).getD (((w).getD (i) 0).toNat) 0) + (((l).div) * (m.add).getD (((w).getD (i) 0).toNat) 0))).natAbs))), (bp ((((l).div) * (m.mod)) < 0)), (AV.sl 1 (ns .u32 (digs ((((l).div) * (m.mod))).natAbs)))])), (9010, (AO.pin [(nm .i64 (((w).getD (i) 0).toNat)), (AV.clo 84 [(AV.ref 2 (0)), (AV.ref 4 (0))]), (AV.ref 2 (0)), (AV.ref 3 (0)), (AV.ref 4 (0)), (AV.clo 84 [(AV.ref 2 (0)), (AV.ref 4 (0))]), (AV.sl 1 (is .i64 (w))), (nm .i64 ((w).length)), (nm .i64 (i)), (bp ((i) < ((w).length))), (AV.ip ((is .i64 (w)).drop (i))), (nm .i64 (((w).getD (i) 0).toNat)), (nm .i64 (((w).getD (i) 0).toNat))] us1)), (2, (oM 24 m)), (3, (AO.var 89 [(AV.lit (.bool false)), (AV.lit (.slice none 0 0)), (AV.lit (.bool false)), (AV.lit (.slice none 0 0)), (AV.lit (.bool false)), (AV.lit (.slice none 0 0))])), (4, (AO.var 89 [(bp (((l).mul) < 0)), (AV.sl 1 (ns .u32 (digs ((l).mul).natAbs))), (bp (((l).add) < 0)), (AV.sl 1 (ns .u32 (digs ((l).add).natAbs))), (bp (((l).div) < 0)), (AV.sl 1 (ns .u32 (digs ((l).div).natAbs)))]))] Gd.none Xa_tZ89 rfl rfl rfl rfl rfl rfl ?_
      refine aops_end ⟨by kernel_rfl, ?_⟩
      refine hK11 _ ?_
      refine awp_wk (σ' := ⟨[(4, (AV.ref 101 (0)))], [(9010, (AO.pin [(nm .i64 (((w).getD (i) 0).toNat)), (AV.clo 84 [(AV.ref 2 (0)), (AV.ref 4 (0))]), (AV.ref 2 (0)), (AV.ref 3 (0)), (AV.ref 4 (0)), (AV.clo 84 [(AV.ref 2 (0)), (AV.ref 4 (0))]), (AV.sl 1 (is .i64 (w))), (nm .i64 ((w).length)), (nm .i64 (i)), (bp ((i) < ((w).length))), (AV.ip ((is .i64 (w)).drop (i))), (nm .i64 (((w).getD (i) 0).toNat)), (nm .i64 (((w).getD (i) 0).toNat))] us1)), (2, (oM 24 m)), (3, (AO.var 89 [(AV.lit (.bool false)), (AV.lit (.slice none 0 0)), (AV.lit (.bool false)), (AV.lit (.slice none 0 0)), (AV.lit (.bool false)), (AV.lit (.slice none 0 0))])), (4, (AO.var 89 [(bp (((l).mul) < 0)), (AV.sl 1 (ns .u32 (digs ((l).mul).natAbs))), (bp (((l).add) < 0)), (AV.sl 1 (ns .u32 (digs ((l).add).natAbs))), (bp (((l).div) < 0)), (AV.sl 1 (ns .u32 (digs ((l).div).natAbs)))])), (101, (AO.var 89 [(bp ((((l).mul) * (m.mul).getD (((w).getD (i) 0).toNat) 0) < 0)), (AV.sl 1 (ns .u32 (digs ((((l).mul) * (m.mul).getD (((w).getD (i) 0).toNat) 0)).natAbs))), (bp (((((l).add) * (m.mul).getD (((w).getD (i) 0).toNat) 0) + (((l).div) * (m.add).getD (((w).getD (i) 0).toNat) 0)) < 0)), (AV.sl 1 (ns .u32 (digs (((((l).add) * (m.mul).getD (((w).getD (i) 0).toNat) 0) + (((l).div) * (m.add).getD (((w).getD (i) 0).toNat) 0))).natAbs))), (bp ((((l).div) * (m.mod)) < 0)), (AV.sl 1 (ns .u32 (digs ((((l).div) * (m.mod))).natAbs)))]))]⟩) (Wk.sub (And.intro rfl (trivial)) (And.intro rfl (And.intro rfl (And.intro rfl (And.intro rfl (And.intro rfl (trivial))))))) ?_
      refine awp_ret ?_
      refine postS_ret (extra := [(101, (AO.var 89 [(bp ((((l).mul) * (m.mul).getD (((w).getD (i) 0).toNat) 0) < 0)), (AV.sl 1 (ns .u32 (digs ((((l).mul) * (m.mul).getD (((w).getD (i) 0).toNat) 0)).natAbs))), (bp (((((l).add) * (m.mul).getD (((w).getD (i) 0).toNat) 0) + (((l).div) * (m.add).getD (((w).getD (i) 0).toNat) 0)) < 0)), (AV.sl 1 (ns .u32 (digs (((((l).add) * (m.mul).getD (((w).getD (i) 0).toNat) 0) + (((l).div) * (m.add).getD (((w).getD (i) 0).toNat) 0))).natAbs))), (bp ((((l).div) * (m.mod)) < 0)), (AV.sl 1 (ns .u32 (digs ((((l).div) * (m.mod))).natAbs)))]))]) ⟨[(AV.agg [(bp ((((l).mul) * (m.mul).getD (((w).getD (i) 0).toNat) 0) < 0)), (AV.sl 1 (ns .u32 (digs ((((l).mul) * (m.mul).getD (((w).getD (i) 0).toNat) 0)).natAbs))), (bp (((((l).add) * (m.mul).getD (((w).getD (i) 0).toNat) 0) + (((l).div) * (m.add).getD (((w).getD (i) 0).toNat) 0)) < 0)), (AV.sl 1 (ns .u32 (digs (((((l).add) * (m.mul).getD (((w).getD (i) 0).toNat) 0) + (((l).div) * (m.add).getD (((w).getD (i) 0).toNat) 0))).natAbs))), (bp ((((l).div) * (m.mod)) < 0)), (AV.sl 1 (ns .u32 (digs ((((l).div) * (m.mod))).natAbs)))])], And.intro ⟨101, (AO.var 89 [(bp ((((l).mul) * (m.mul).getD (((w).getD (i) 0).toNat) 0) < 0)), (AV.sl 1 (ns .u32 (digs ((((l).mul) * (m.mul).getD (((w).getD (i) 0).toNat) 0)).natAbs))), (bp (((((l).add) * (m.mul).getD (((w).getD (i) 0).toNat) 0) + (((l).div) * (m.add).getD (((w).getD (i) 0).toNat) 0)) < 0)), (AV.sl 1 (ns .u32 (digs (((((l).add) * (m.mul).getD (((w).getD (i) 0).toNat) 0) + (((l).div) * (m.add).getD (((w).getD (i) 0).toNat) 0))).natAbs))), (bp ((((l).div) * (m.mod)) < 0)), (AV.sl 1 (ns .u32 (digs ((((l).div) * (m.mod))).natAbs)))]), rfl, rfl, rfl, Or.inl ⟨Xa_tA89, AV.le_refl _⟩⟩ (trivial), ?_⟩ rfl
      exact linK_eq (Int.mul_comm _ _) (congr (congrArg HAdd.hAdd (Int.mul_comm _ _)) (Int.mul_comm _ _)) rfl
    refine o_store [(2, (oM 24 m)), (3, (AO.var 89 [(AV.lit (.bool false)), (AV.lit (.slice none 0 0)), (AV.lit (.bool false)), (AV.lit (.slice none 0 0)), (AV.lit (.bool false)), (AV.lit (.slice none 0 0))])), (4, (AO.var 89 [(bp (((thenZ m l ((w).getD (i) 0)).mul) < 0)), (AV.sl 1 (ns .u32 (digs ((thenZ m l ((w).getD (i) 0)).mul).natAbs))), (bp (((thenZ m l ((w).getD (i) 0)).add) < 0)), (AV.sl 1 (ns .u32 (digs ((thenZ m l ((w).getD (i) 0)).add).natAbs))), (bp (((thenZ m l ((w).getD (i) 0)).div) < 0)), (AV.sl 1 (ns .u32 (digs ((thenZ m l ((w).getD (i) 0)).div).natAbs)))]))] Gd.none Xa_tZ89 rfl rfl rfl rfl rfl rfl ?_
    refine aops_end ?_
    refine hK7 _ ?_
    refine awp_region rfl ?_
    refine n_add (i) (1) Gd.none rfl rfl (by simp only [topOf]; omega) ?_
    refine o_move (nm .i64 ((i) + (1))) Gd.none rfl ?_
    refine aops_end ?_
    refine ⟨_, _, ?lt, ⟨i + 1, (thenZ m l ((w).getD (i) 0)), (by omega), (by rw [hl2]; exact lineZ_next h1), rfl, rfl⟩, ?wk⟩
    case lt => omega
    case wk => exact Wk.sub (And.intro rfl (And.intro rfl (And.intro rfl (And.intro rfl (And.intro rfl (And.intro rfl (And.intro (by first | rfl | exact congrArg (nm _) (by omega) | exact nm_int (by omega) | exact nm_int (by simp [IntKind.wrap, IntKind.bits, IntKind.signed]; omega)) (trivial)))))))) (And.intro rfl (And.intro rfl (And.intro rfl (trivial))))
  · refine awp_exit ?_
    refine hK3 _ ?_
    refine awp_seq fun K12 hK12 => ?_
    refine awp_region rfl ?_
    refine o_loadA [(bp (((l).mul) < 0)), (AV.sl 1 (ns .u32 (digs ((l).mul).natAbs))), (bp (((l).add) < 0)), (AV.sl 1 (ns .u32 (digs ((l).add).natAbs))), (bp (((l).div) < 0)), (AV.sl 1 (ns .u32 (digs ((l).div).natAbs)))] Gd.none Xa_tA89 rfl rfl rfl rfl rfl ?_
    refine o_store [(2, (oM 24 m)), (3, (AO.var 89 [(bp (((l).mul) < 0)), (AV.sl 1 (ns .u32 (digs ((l).mul).natAbs))), (bp (((l).add) < 0)), (AV.sl 1 (ns .u32 (digs ((l).add).natAbs))), (bp (((l).div) < 0)), (AV.sl 1 (ns .u32 (digs ((l).div).natAbs)))])), (4, (AO.var 89 [(bp (((l).mul) < 0)), (AV.sl 1 (ns .u32 (digs ((l).mul).natAbs))), (bp (((l).add) < 0)), (AV.sl 1 (ns .u32 (digs ((l).add).natAbs))), (bp (((l).div) < 0)), (AV.sl 1 (ns .u32 (digs ((l).div).natAbs)))]))] Gd.none Xa_tZ89 rfl rfl rfl rfl rfl rfl ?_
    refine aops_end ?_
    refine hK12 _ ?_
    refine awp_ret ?_
    refine post_ret ⟨[(AV.agg [(bp (((l).mul) < 0)), (AV.sl 1 (ns .u32 (digs ((l).mul).natAbs))), (bp (((l).add) < 0)), (AV.sl 1 (ns .u32 (digs ((l).add).natAbs))), (bp (((l).div) < 0)), (AV.sl 1 (ns .u32 (digs ((l).div).natAbs)))])], And.intro ⟨3, (AO.var 89 [(bp (((l).mul) < 0)), (AV.sl 1 (ns .u32 (digs ((l).mul).natAbs))), (bp (((l).add) < 0)), (AV.sl 1 (ns .u32 (digs ((l).add).natAbs))), (bp (((l).div) < 0)), (AV.sl 1 (ns .u32 (digs ((l).div).natAbs)))]), rfl, rfl, rfl, Or.inl ⟨Xa_tA89, AV.le_refl _⟩⟩ (trivial), rfl, ?_⟩
    exact congrArg linW (by rw [hl2, List.take_of_length_le (by omega)])

theorem c_oTold (l : LinZ) (h1 : (digs l.mul.natAbs).length ≤ 1000000) (h2 : (digs l.add.natAbs).length ≤ 1000000) (h3 : (digs l.div.natAbs).length ≤ 1000000) : ECalls cx 57 [(linW (l))] (lineV (lineT l)) := by
  refine ecalls_of_awp Tryd.func57 (c := _) rfl (Nat.le_of_ble_eq_true rfl) ?_
  show awp cx 13 _ (postF cx Tryd.f57 _) ⟨[(0, (linW (l)))], []⟩
  refine awp_seq fun K0 hK0 => ?_
  refine awp_region rfl ?_
  refine o_box 2 [(bp (((l).mul) < 0)), (AV.sl 1 (ns .u32 (digs ((l).mul).natAbs))), (bp (((l).add) < 0)), (AV.sl 1 (ns .u32 (digs ((l).add).natAbs))), (bp (((l).div) < 0)), (AV.sl 1 (ns .u32 (digs ((l).div).natAbs)))] Gd.none rfl rfl ?_
  refine o_alloc 3 [(AV.lit (.string (({data := #[]} : ByteArray)))), (AV.lit (.string (({data := #[]} : ByteArray)))), (AV.lit (.string (({data := #[]} : ByteArray))))] Gd.none Xa_tO41 rfl rfl rfl ?_
  refine aops_end ?_
  refine hK0 _ ?_
  refine awp_seq fun K1 hK1 => ?_
  refine awp_regionD rfl ?_
  refine o_fieldRef 0 Gd.none Xa_tF89_0 rfl rfl ?_
  refine o_loadA [(bp (((l).mul) < 0)), (AV.sl 1 (ns .u32 (digs ((l).mul).natAbs)))] Gd.none Xa_tA79 rfl rfl rfl rfl rfl ?_
  refine o_call [(AV.agg [(bp (((l).mul) < 0)), (AV.sl 1 (ns .u32 (digs ((l).mul).natAbs)))])] (AV.lit (.string (txt (((l).mul))))) Gd.none Xa_tC64 rfl (c_wText (((l).mul)) (by first | omega | assumption | (simp only [Int.natAbs_neg]; omega))) ?_
  refine o_fieldRef 2 Gd.none Xa_tF89_1 rfl rfl ?_
  refine o_loadA [(bp (((l).add) < 0)), (AV.sl 1 (ns .u32 (digs ((l).add).natAbs)))] Gd.none Xa_tA79 rfl rfl rfl rfl rfl ?_
  refine o_call [(AV.agg [(bp (((l).add) < 0)), (AV.sl 1 (ns .u32 (digs ((l).add).natAbs)))])] (AV.lit (.string (txt (((l).add))))) Gd.none Xa_tC64 rfl (c_wText (((l).add)) (by first | omega | assumption | (simp only [Int.natAbs_neg]; omega))) ?_
  refine o_fieldRef 4 Gd.none Xa_tF89_2 rfl rfl ?_
  refine o_loadA [(bp (((l).div) < 0)), (AV.sl 1 (ns .u32 (digs ((l).div).natAbs)))] Gd.none Xa_tA79 rfl rfl rfl rfl rfl ?_
  refine o_call [(AV.agg [(bp (((l).div) < 0)), (AV.sl 1 (ns .u32 (digs ((l).div).natAbs)))])] (AV.lit (.string (txt (((l).div))))) Gd.none Xa_tC64 rfl (c_wText (((l).div)) (by first | omega | assumption | (simp only [Int.natAbs_neg]; omega))) ?_
  refine o_build [(AV.lit (.string (txt (((l).mul))))), (AV.lit (.string (txt (((l).add))))), (AV.lit (.string (txt (((l).div)))))] [(0, [(AV.lit (.string (txt (((l).mul)))))]), (1, [(AV.lit (.string (txt (((l).add)))))]), (2, [(AV.lit (.string (txt (((l).div)))))])] Gd.none Xa_tP41 Xa_tO41 rfl rfl rfl ?_
  refine o_store [(3, (AO.var 41 [(AV.lit (.string (txt (((l).mul))))), (AV.lit (.string (txt (((l).add))))), (AV.lit (.string (txt (((l).div)))))])), (2, (AO.var 89 [(bp (((l).mul) < 0)), (AV.sl 1 (ns .u32 (digs ((l).mul).natAbs))), (bp (((l).add) < 0)), (AV.sl 1 (ns .u32 (digs ((l).add).natAbs))), (bp (((l).div) < 0)), (AV.sl 1 (ns .u32 (digs ((l).div).natAbs)))]))] Gd.none Xa_tZ41 rfl rfl rfl rfl rfl rfl ?_
  refine aops_end ⟨by kernel_rfl, ?_⟩
  refine hK1 _ ?_
  refine awp_ret ?_
  refine post_ret ⟨[(AV.agg [(AV.lit (.string (txt (((l).mul))))), (AV.lit (.string (txt (((l).add))))), (AV.lit (.string (txt (((l).div)))))])], And.intro ⟨3, (AO.var 41 [(AV.lit (.string (txt (((l).mul))))), (AV.lit (.string (txt (((l).add))))), (AV.lit (.string (txt (((l).div)))))]), rfl, rfl, rfl, Or.inl ⟨Xa_tA41, AV.le_refl _⟩⟩ (trivial), rfl, ?_⟩
  rfl

theorem c_oLine (m : MapM) (w : List Int) (hwl : w.length ≤ 17592186044416) : ECalls cx 20 [(mapV m), (AV.sl 1 (is .i64 (w)))] (.tup [lineV (lineS m w), nm .i64 (lineE m w)]) := by
  refine ecalls_of_awp Tryd.func20 (c := _) rfl (Nat.le_of_ble_eq_true rfl) ?_
  show awp cx 21 _ (postF cx Tryd.f20 _) ⟨[(0, (mapV m)), (1, (AV.sl 1 (is .i64 (w))))], []⟩
  refine awp_seq fun K0 hK0 => ?_
  refine awp_region rfl ?_
  refine o_box 2 [(AV.lit (.int .i64 (m.mod))), (AV.sl 1 (is .i64 (m.mul))), (AV.sl 1 (is .i64 (m.add)))] Gd.none rfl rfl ?_
  refine o_alloc 3 [(AV.lit (.string (({data := #[]} : ByteArray)))), (AV.lit (.string (({data := #[]} : ByteArray)))), (AV.lit (.string (({data := #[]} : ByteArray))))] Gd.none Xa_tO41 rfl rfl rfl ?_
  refine o_assign (nm .i64 (0)) Gd.none rfl ?_
  refine aops_end ?_
  refine hK0 _ ?_
  refine awp_seq fun K1 hK1 => ?_
  refine awp_block ?_
  refine awp_seq fun K2 hK2 => ?_
  refine awp_region rfl ?_
  refine o_loadA [(AV.lit (.int .i64 (m.mod))), (AV.sl 1 (is .i64 (m.mul))), (AV.sl 1 (is .i64 (m.add)))] Gd.none Xa_tA24 rfl rfl rfl rfl rfl ?_
  refine o_call [(mapV m)] (AV.lit (.bool (okM m))) Gd.none Xa_tC46 rfl (c_sValid m) ?_
  refine o_not (b := okM m) Gd.none rfl ?_
  refine o_assign (AV.lit (.bool (!(okM m)))) Gd.none rfl ?_
  refine aops_end ?_
  refine hK2 _ ?_
  refine awp_condB (b := !(okM m)) rfl (fun h1 => ?_) (fun h1 => ?_)
  · have hm' : ¬ okM m = true := by simpa using h1
    refine awp_seq fun K3 hK3 => ?_
    refine awp_region rfl ?_
    refine o_build [(AV.lit (.string (({data := #[]} : ByteArray)))), (AV.lit (.string (({data := #[]} : ByteArray)))), (AV.lit (.string (({data := #[]} : ByteArray))))] [] Gd.none Xa_tP41 Xa_tO41 rfl rfl rfl ?_
    refine o_store [(3, (AO.var 41 [(AV.lit (.string (({data := #[]} : ByteArray)))), (AV.lit (.string (({data := #[]} : ByteArray)))), (AV.lit (.string (({data := #[]} : ByteArray))))])), (2, (oM 24 m))] Gd.none Xa_tZ41 rfl rfl rfl rfl rfl rfl ?_
    refine o_assign (nm .i64 (1)) Gd.none rfl ?_
    refine aops_end ?_
    refine hK3 _ ?_
    refine awp_ret ?_
    refine post_ret ⟨[(AV.agg [(AV.lit (.string (({data := #[]} : ByteArray)))), (AV.lit (.string (({data := #[]} : ByteArray)))), (AV.lit (.string (({data := #[]} : ByteArray))))]), (nm .i64 (1))], And.intro ⟨3, (AO.var 41 [(AV.lit (.string (({data := #[]} : ByteArray)))), (AV.lit (.string (({data := #[]} : ByteArray)))), (AV.lit (.string (({data := #[]} : ByteArray))))]), rfl, rfl, rfl, Or.inl ⟨Xa_tA41, AV.le_refl _⟩⟩ (And.intro (AV.le_refl _) (trivial)), rfl, ?_⟩
    exact tup_eq2 (congrArg lineV (line_1 hm').2) (congrArg (nm _) (line_1 hm').1)
  · have hm' : okM m = true := by simpa using h1
    have hM := okM_iff.1 hm'
    refine awp_seq fun K4 hK4 => ?_
    refine awp_region rfl ?_
    refine o_loadA [(AV.lit (.int .i64 (m.mod))), (AV.sl 1 (is .i64 (m.mul))), (AV.sl 1 (is .i64 (m.add)))] Gd.none Xa_tA24 rfl rfl rfl rfl rfl ?_
    refine o_move (AV.sl 1 (is .i64 (w))) Gd.none rfl ?_
    refine o_call [(mapV m), (AV.sl 1 (is .i64 (w)))] (bp (OkW m (w))) Gd.none Xa_tC55 rfl (c_oIs m (w)) ?_
    refine o_notP (q := OkW m (w)) Gd.none rfl ?_
    refine o_assign (bp (¬ (OkW m (w)))) Gd.none rfl ?_
    refine aops_end ?_
    refine hK4 _ ?_
    refine awp_condQ (q := ¬ (OkW m (w))) rfl (fun h2 => ?_) (fun h2 => ?_)
    · refine awp_seq fun K5 hK5 => ?_
      refine awp_region rfl ?_
      refine o_build [(AV.lit (.string (({data := #[]} : ByteArray)))), (AV.lit (.string (({data := #[]} : ByteArray)))), (AV.lit (.string (({data := #[]} : ByteArray))))] [] Gd.none Xa_tP41 Xa_tO41 rfl rfl rfl ?_
      refine o_store [(3, (AO.var 41 [(AV.lit (.string (({data := #[]} : ByteArray)))), (AV.lit (.string (({data := #[]} : ByteArray)))), (AV.lit (.string (({data := #[]} : ByteArray))))])), (2, (oM 24 m))] Gd.none Xa_tZ41 rfl rfl rfl rfl rfl rfl ?_
      refine o_assign (nm .i64 (2)) Gd.none rfl ?_
      refine aops_end ?_
      refine hK5 _ ?_
      refine awp_ret ?_
      refine post_ret ⟨[(AV.agg [(AV.lit (.string (({data := #[]} : ByteArray)))), (AV.lit (.string (({data := #[]} : ByteArray)))), (AV.lit (.string (({data := #[]} : ByteArray))))]), (nm .i64 (2))], And.intro ⟨3, (AO.var 41 [(AV.lit (.string (({data := #[]} : ByteArray)))), (AV.lit (.string (({data := #[]} : ByteArray)))), (AV.lit (.string (({data := #[]} : ByteArray))))]), rfl, rfl, rfl, Or.inl ⟨Xa_tA41, AV.le_refl _⟩⟩ (And.intro (AV.le_refl _) (trivial)), rfl, ?_⟩
      exact tup_eq2 (congrArg lineV (line_2 hm' h2).2) (congrArg (nm _) (line_2 hm' h2).1)
    · have hW : OkW m w := Decidable.not_not.1 h2
      obtain ⟨L1, L2, L3⟩ := line_len hM w hW.1
      have hWl := hW.2
      refine awp_skip ?_
      refine hK1 _ ?_
      refine awp_seq fun K6 hK6 => ?_
      refine awp_region rfl ?_
      refine o_loadA [(AV.lit (.int .i64 (m.mod))), (AV.sl 1 (is .i64 (m.mul))), (AV.sl 1 (is .i64 (m.add)))] Gd.none Xa_tA24 rfl rfl rfl rfl rfl ?_
      refine o_move (AV.sl 1 (is .i64 (w))) Gd.none rfl ?_
      refine o_call [(mapV m), (AV.sl 1 (is .i64 (w)))] (linW (lineZ m (w))) Gd.none Xa_tC56 rfl (c_oOf m (w) (by first | assumption | exact okM_iff.1 (by assumption)) (by first | assumption | exact (by assumption : OkW _ _).1 | exact isW_take (by assumption : OkW _ _).1 _) (by first | omega | exact (by assumption : OkW _ _).2)) ?_
      refine o_call [(linW (lineZ m (w)))] (AV.agg [(AV.lit (.string ((lineT (lineZ m (w))).mul))), (AV.lit (.string ((lineT (lineZ m (w))).add))), (AV.lit (.string ((lineT (lineZ m (w))).div)))]) Gd.none Xa_tC57 rfl (c_oTold (lineZ m (w)) (by omega) (by omega) (by omega)) ?_
      refine o_store [(3, (AO.var 41 [(AV.lit (.string ((lineT (lineZ m (w))).mul))), (AV.lit (.string ((lineT (lineZ m (w))).add))), (AV.lit (.string ((lineT (lineZ m (w))).div)))])), (2, (oM 24 m))] Gd.none Xa_tZ41 rfl rfl rfl rfl rfl rfl ?_
      refine o_assign (nm .i64 (0)) Gd.none rfl ?_
      refine aops_end ?_
      refine hK6 _ ?_
      refine awp_ret ?_
      refine post_ret ⟨[(AV.agg [(AV.lit (.string ((lineT (lineZ m (w))).mul))), (AV.lit (.string ((lineT (lineZ m (w))).add))), (AV.lit (.string ((lineT (lineZ m (w))).div)))]), (nm .i64 (0))], And.intro ⟨3, (AO.var 41 [(AV.lit (.string ((lineT (lineZ m (w))).mul))), (AV.lit (.string ((lineT (lineZ m (w))).add))), (AV.lit (.string ((lineT (lineZ m (w))).div)))]), rfl, rfl, rfl, Or.inl ⟨Xa_tA41, AV.le_refl _⟩⟩ (And.intro (AV.le_refl _) (trivial)), rfl, ?_⟩
      exact tup_eq2 (congrArg lineV (line_0 hm' hW).2) (congrArg (nm _) (line_0 hm' hW).1)

end Go.Proofs.YtbilndahjkimkaaDoor

set_option linter.unusedVariables false
set_option linter.unusedSimpArgs false
namespace Go.Proofs.YtbilndahjkimkaaDoor
open Go Go.Ab Go.Mth
theorem Xb_tA24 : tyAgg cx.P 24 = some 3 := by kernel_rfl
theorem Xb_tC46 : callable cx.P 46 = true := by kernel_rfl
theorem Xb_tC47 : callable cx.P 47 = true := by kernel_rfl
theorem Xb_tC48 : callable cx.P 48 = true := by kernel_rfl
theorem Xb_tO79 : tyZero cx.P 79 = some [(Go.Value.bool false), (Go.Value.slice none 0 0)] := by kernel_rfl
theorem Xb_tZ79 : tySize cx.P 79 = some 2 := by kernel_rfl
theorem Xb_tA79 : tyAgg cx.P 79 = some 2 := by kernel_rfl
theorem Xb_tC49 : callable cx.P 49 = true := by kernel_rfl
theorem Xb_tC50 : callable cx.P 50 = true := by kernel_rfl
theorem Xb_tE22 : tyElem cx.P 22 = some (3, 1, 8) := by kernel_rfl
theorem Xb_tO3 : tyZero cx.P 3 = some [(Go.Value.int IntKind.i64 0)] := by kernel_rfl
theorem Xb_tF41_0 : tyField cx.P 41 0 = some (0, 9) := by kernel_rfl
theorem Xb_tS9 : tySc cx.P 9 = true := by kernel_rfl
theorem Xb_tF41_1 : tyField cx.P 41 1 = some (1, 9) := by kernel_rfl
theorem Xb_tF41_2 : tyField cx.P 41 2 = some (2, 9) := by kernel_rfl
theorem Xb_tA41 : tyAgg cx.P 41 = some 3 := by kernel_rfl
theorem Xb_tP41 : tyPlaces cx.P 41 = some (fun i => (#[(0, 1), (1, 1), (2, 1)] : Array (Nat × Nat))[i]?) := by kernel_rfl
theorem Xb_tO41 : tyZero cx.P 41 = some [(Go.Value.string {data := #[]}), (Go.Value.string {data := #[]}), (Go.Value.string {data := #[]})] := by kernel_rfl
theorem Xb_tC68 : callable cx.P 68 = true := by kernel_rfl
theorem Xb_tC60 : callable cx.P 60 = true := by kernel_rfl
theorem Xb_tC61 : callable cx.P 61 = true := by kernel_rfl
theorem Xb_tC62 : callable cx.P 62 = true := by kernel_rfl
theorem Xb_tC64 : callable cx.P 64 = true := by kernel_rfl
theorem Xb_tC55 : callable cx.P 55 = true := by kernel_rfl
theorem Xb_tC58 : callable cx.P 58 = true := by kernel_rfl
theorem Xb_tC59 : callable cx.P 59 = true := by kernel_rfl
theorem Xb_tU22 : cx.P.underlying 22 = some (.slice 3) := by kernel_rfl
theorem Xb_tS3 : tySc cx.P 3 = true := by kernel_rfl
theorem Xb_tC56 : callable cx.P 56 = true := by kernel_rfl
theorem Xb_tO89 : tyZero cx.P 89 = some [(Go.Value.bool false), (Go.Value.slice none 0 0), (Go.Value.bool false), (Go.Value.slice none 0 0), (Go.Value.bool false), (Go.Value.slice none 0 0)] := by kernel_rfl
theorem Xb_tZ89 : tySize cx.P 89 = some 6 := by kernel_rfl
theorem Xb_tF89_0 : tyField cx.P 89 0 = some (0, 79) := by kernel_rfl
theorem Xb_tF89_1 : tyField cx.P 89 1 = some (2, 79) := by kernel_rfl
theorem Xb_tF89_2 : tyField cx.P 89 2 = some (4, 79) := by kernel_rfl
theorem Xb_tF24_0 : tyField cx.P 24 0 = some (0, 3) := by kernel_rfl
theorem Xb_tC63 : callable cx.P 63 = true := by kernel_rfl
theorem c_oWord (m : MapM) (a : ByteArray) (K : Int) (ha : a.size ≤ 9223372036854775807) : ECalls cx 12 [(mapV m), (AV.lit (.string (a))), (AV.lit (.int .i64 (K)))] (.tup [.sl 1 (is .i64 (wordL m a K)), nm .i64 (wordE m a K)]) := by
  refine ecalls_of_awp Tryd.func12 (c := _) rfl (Nat.le_of_ble_eq_true rfl) ?_
  show awp cx 49 _ (postF cx Tryd.f12 _) ⟨[(0, (mapV m)), (1, (AV.lit (.string (a)))), (2, (AV.lit (.int .i64 (K))))], []⟩
  refine awp_seq fun K0 hK0 => ?_
  refine awp_region rfl ?_
  refine o_box 2 [(AV.lit (.int .i64 (m.mod))), (AV.sl 1 (is .i64 (m.mul))), (AV.sl 1 (is .i64 (m.add)))] Gd.none rfl rfl ?_
  refine o_assign (AV.lit (.slice none 0 0)) Gd.none rfl ?_
  refine o_assign (nm .i64 (0)) Gd.none rfl ?_
  refine aops_end ?_
  refine hK0 _ ?_
  refine awp_seq fun K1 hK1 => ?_
  refine awp_block ?_
  refine awp_seq fun K2 hK2 => ?_
  refine awp_region rfl ?_
  refine o_loadA [(AV.lit (.int .i64 (m.mod))), (AV.sl 1 (is .i64 (m.mul))), (AV.sl 1 (is .i64 (m.add)))] Gd.none Xb_tA24 rfl rfl rfl rfl rfl ?_
  refine o_call [(mapV m)] (AV.lit (.bool (okM m))) Gd.none Xb_tC46 rfl (c_sValid m) ?_
  refine o_not (b := okM m) Gd.none rfl ?_
  refine o_move (AV.lit (.bool (!(okM m)))) Gd.none rfl ?_
  refine o_split (b := !(okM m)) 16 rfl (fun h1 => ?_) (fun h1 => ?_)
  · have hm' : ¬ okM m = true := by simpa using h1
    refine o_skip (b := !(okM m)) rfl rfl h1 ?_
    refine o_skip (b := !(okM m)) rfl rfl h1 ?_
    refine o_skip (b := !(okM m)) rfl rfl h1 ?_
    refine o_pickT (b := !(okM m)) (AV.lit (.bool true)) Gd.none rfl h1 rfl ?_
    refine o_assign (AV.lit (.bool true)) Gd.none rfl ?_
    refine aops_end ?_
    refine hK2 _ ?_
    refine awp_condB (b := true) rfl (fun _ => ?_) (fun hh => absurd (hh.symm.trans rfl) (by decide))
    refine awp_seq fun K3 hK3 => ?_
    refine awp_region rfl ?_
    refine o_assign (AV.lit (.slice none 0 0)) Gd.none rfl ?_
    refine o_assign (nm .i64 (1)) Gd.none rfl ?_
    refine aops_end ?_
    refine hK3 _ ?_
    refine awp_ret ?_
    refine post_ret ⟨[(AV.sl 1 (is .i64 ([]))), (nm .i64 (1))], And.intro (AV.le_nil' (by decide) (by first | rfl | simp [digs_zero, ns, is])) (And.intro (AV.le_refl _) (trivial)), rfl, ?_⟩
    have e := wordE_1 (m := m) (a := a) (K := K) (fun e => hm' e.1)
    exact tup_eq2 (congrArg (fun l => AV.sl 1 (is .i64 l)) e.2) (congrArg (nm _) e.1)
  · have hm' : okM m = true := by simpa using h1
    refine o_move (AV.lit (.string (a))) (Gd.yes rfl rfl h1) rfl ?_
    refine o_call [(AV.lit (.string (a)))] (AV.lit (.bool (okS (a)))) (Gd.yes rfl rfl h1) Xb_tC47 rfl (c_nValid (a) (by first | assumption | decide | omega)) ?_
    refine o_not (b := okS (a)) (Gd.yes rfl rfl h1) rfl ?_
    refine o_pickF (b := !(okM m)) (AV.lit (.bool (!(okS (a))))) Gd.none rfl h1 rfl ?_
    refine o_assign (AV.lit (.bool (!(okS (a))))) Gd.none rfl ?_
    refine aops_end ?_
    refine hK2 _ ?_
    refine awp_condB (b := !(okS (a))) rfl (fun h2 => ?_) (fun h2 => ?_)
    · have ha' : ¬ okS a = true := by simpa using h2
      refine awp_seq fun K4 hK4 => ?_
      refine awp_region rfl ?_
      refine o_assign (AV.lit (.slice none 0 0)) Gd.none rfl ?_
      refine o_assign (nm .i64 (1)) Gd.none rfl ?_
      refine aops_end ?_
      refine hK4 _ ?_
      refine awp_ret ?_
      refine post_ret ⟨[(AV.sl 1 (is .i64 ([]))), (nm .i64 (1))], And.intro (AV.le_nil' (by decide) (by first | rfl | simp [digs_zero, ns, is])) (And.intro (AV.le_refl _) (trivial)), rfl, ?_⟩
      have e := wordE_1 (m := m) (a := a) (K := K) (fun e => ha' e.2)
      exact tup_eq2 (congrArg (fun l => AV.sl 1 (is .i64 l)) e.2) (congrArg (nm _) e.1)
    · have ha' : okS a = true := by simpa using h2
      have hM := okM_iff.1 hm'
      have hl0 := len_numS (okS_iff.1 ha')
      refine awp_seq fun K5 hK5 => ?_
      refine awp_region rfl ?_
      refine o_move (AV.lit (.int .i64 (K))) Gd.none rfl ?_
      refine o_lss (a := (K)) (c := (((0 : Nat) : Int))) Gd.none rfl rfl ?_
      refine o_move (bp ((K) < (((0 : Nat) : Int)))) Gd.none rfl ?_
      refine o_splitP (q := (K) < (((0 : Nat) : Int))) 24 rfl (fun h3 => ?_) (fun h3 => ?_)
      · refine o_skip (b := decide ((K) < (((0 : Nat) : Int)))) rfl rfl (decide_eq_true h3) ?_
        refine o_skip (b := decide ((K) < (((0 : Nat) : Int)))) rfl rfl (decide_eq_true h3) ?_
        refine o_pickT (b := decide ((K) < (((0 : Nat) : Int)))) (AV.lit (.bool true)) Gd.none rfl (decide_eq_true h3) rfl ?_
        refine o_assign (AV.lit (.bool true)) Gd.none rfl ?_
        refine aops_end ?_
        refine hK5 _ ?_
        refine awp_condB (b := true) rfl (fun _ => ?_) (fun hh => absurd (hh.symm.trans rfl) (by decide))
        refine awp_seq fun K6 hK6 => ?_
        refine awp_region rfl ?_
        refine o_assign (AV.lit (.slice none 0 0)) Gd.none rfl ?_
        refine o_assign (nm .i64 (2)) Gd.none rfl ?_
        refine aops_end ?_
        refine hK6 _ ?_
        refine awp_ret ?_
        refine post_ret ⟨[(AV.sl 1 (is .i64 ([]))), (nm .i64 (2))], And.intro (AV.le_nil' (by decide) (by first | rfl | simp [digs_zero, ns, is])) (And.intro (AV.le_refl _) (trivial)), rfl, ?_⟩
        have e := wordE_2 (m := m) (a := a) (K := K) ⟨hm', ha'⟩ (by omega)
        exact tup_eq2 (congrArg (fun l => AV.sl 1 (is .i64 l)) e.2) (congrArg (nm _) e.1)
      · refine o_move (AV.lit (.int .i64 (K))) (Gd.yes rfl rfl (decide_eq_false h3)) rfl ?_
        refine o_gtr (a := (K)) (c := (((200 : Nat) : Int))) (Gd.yes rfl rfl (decide_eq_false h3)) rfl rfl ?_
        refine o_pickF (b := decide ((K) < (((0 : Nat) : Int)))) (bp ((((200 : Nat) : Int)) < (K))) Gd.none rfl (decide_eq_false h3) rfl ?_
        refine o_assign (bp ((((200 : Nat) : Int)) < (K))) Gd.none rfl ?_
        refine aops_end ?_
        refine hK5 _ ?_
        refine awp_condQ (q := (((200 : Nat) : Int)) < (K)) rfl (fun h4 => ?_) (fun h4 => ?_)
        · refine awp_seq fun K7 hK7 => ?_
          refine awp_region rfl ?_
          refine o_assign (AV.lit (.slice none 0 0)) Gd.none rfl ?_
          refine o_assign (nm .i64 (2)) Gd.none rfl ?_
          refine aops_end ?_
          refine hK7 _ ?_
          refine awp_ret ?_
          refine post_ret ⟨[(AV.sl 1 (is .i64 ([]))), (nm .i64 (2))], And.intro (AV.le_nil' (by decide) (by first | rfl | simp [digs_zero, ns, is])) (And.intro (AV.le_refl _) (trivial)), rfl, ?_⟩
          have e := wordE_2 (m := m) (a := a) (K := K) ⟨hm', ha'⟩ (by omega)
          exact tup_eq2 (congrArg (fun l => AV.sl 1 (is .i64 l)) e.2) (congrArg (nm _) e.1)
        · refine awp_skip ?_
          refine hK1 _ ?_
          refine awp_seq fun K8 hK8 => ?_
          refine awp_region rfl ?_
          refine o_assign (AV.lit (.slice none 0 0)) Gd.none rfl ?_
          refine aops_end ?_
          refine hK8 _ ?_
          refine awp_seq fun K9 hK9 => ?_
          refine awp_region rfl ?_
          refine o_move (AV.lit (.string (a))) Gd.none rfl ?_
          refine o_call [(AV.lit (.string (a)))] (intW ((numS (a)))) Gd.none Xb_tC48 rfl (c_wParse (a) (by first | assumption | exact okS_iff.1 (by assumption))) ?_
          refine o_alloc 3 [(AV.lit (.bool false)), (AV.lit (.slice none 0 0))] Gd.none Xb_tO79 rfl rfl rfl ?_
          refine o_store [(3, (oZ 79 .u32 ((numS (a))))), (2, (oM 24 m))] Gd.none Xb_tZ79 rfl rfl rfl rfl rfl rfl ?_
          refine aops_end ?_
          refine hK9 _ ?_
          refine awp_seq fun K10 hK10 => ?_
          refine awp_seq fun K11 hK11 => ?_
          refine awp_region rfl ?_
          refine o_move (AV.lit (.int .i64 (K))) Gd.none rfl ?_
          refine o_move (nm .i64 (0)) Gd.none rfl ?_
          refine aops_end ?_
          refine hK11 _ ?_
          refine awp_block ?_
          refine awp_loopR (fun κ σ => ∃ (i : Nat), ((i : Int) ≤ K) ∧ (FitK m (numS a) i) ∧ ((digs (iterZ m i (numS a)).natAbs).length ≤ 1000) ∧ (K.toNat - i) = κ ∧ σ = ⟨[(3, (AV.ref 2 (0))), (8, (AV.row 50)), (9, (AV.ref 3 (0))), (30, (AV.lit (.int .i64 (K)))), (31, (nm .i64 (i)))], [(2, (oM 24 m)), (3, (oZ 79 .u32 ((iterZ m i (numS a))))), (50, (AO.row 3 1 (is .i64 (wordZ m (numS a) i))))]⟩) ⟨_, _, ⟨0, (by omega), (fun j hj => by omega), (show (digs (numS a).natAbs).length ≤ 1000 by omega), rfl, rfl⟩, ?wk0⟩ ?rd0
          case wk0 =>
            exact Wk.trans (Wk.newNil (i := 8) (id := 504) (e := 3) (sz := 1) rfl rfl (by decide)) (Wk.trans (Wk.sub (σ' := ⟨[(3, (AV.ref 2 (0))), (8, (AV.row 504)), (9, (AV.ref 3 (0))), (30, (AV.lit (.int .i64 (K)))), (31, (nm .i64 (0)))], [(2, (oM 24 m)), (504, (AO.row 3 1 (is .i64 ([])))), (3, (oZ 79 .u32 ((numS (a)))))]⟩) (And.intro rfl (And.intro rfl (And.intro rfl (And.intro rfl (And.intro rfl (trivial)))))) (And.intro rfl (And.intro rfl (And.intro rfl (trivial))))) (Wk.trans (Wk.ren (id := 504) (id' := 50) rfl) (Wk.sub (And.intro rfl (And.intro (by first | rfl | (simp)) (And.intro rfl (And.intro rfl (And.intro (by first | rfl | exact congrArg (nm _) (by omega) | exact nm_int (by omega) | exact nm_int (by simp [IntKind.wrap, IntKind.bits, IntKind.signed]; omega)) (trivial)))))) (And.intro rfl (And.intro rfl (And.intro (by first | rfl | exact row_ns (by simp)) (trivial)))))))
          rintro κ _ ⟨i, hi, hf, hlz, rfl, rfl⟩
          refine awp_seq fun K12 hK12 => ?_
          refine awp_region rfl ?_
          refine o_lss (a := (((i : Nat) : Int))) (c := (K)) Gd.none rfl rfl ?_
          refine aops_end ?_
          refine hK12 _ ?_
          refine awp_seq fun K13 hK13 => ?_
          refine awp_condQ (q := (((i : Nat) : Int)) < (K)) rfl (fun h5 => ?_) (fun h5 => ?_)
          · refine awp_skip ?_
            refine hK13 _ ?_
            refine awp_seq fun K14 hK14 => ?_
            refine awp_block ?_
            refine awp_seq fun K15 hK15 => ?_
            refine awp_seq fun K16 hK16 => ?_
            refine awp_region rfl ?_
            refine o_loadA [(bp ((iterZ m i (numS a)) < 0)), (AV.sl 1 (ns .u32 (digs ((iterZ m i (numS a))).natAbs)))] Gd.none Xb_tA79 rfl rfl rfl rfl rfl ?_
            refine o_call [(intW ((iterZ m i (numS a))))] (nm .i64 (ndig ((iterZ m i (numS a))).natAbs)) Gd.none Xb_tC49 rfl (c_wDigits ((iterZ m i (numS a))) (by first | omega | assumption | (simp only [Int.natAbs_neg]; omega))) ?_
            refine n_gtr (ndig ((iterZ m i (numS a))).natAbs) (2000) Gd.none rfl rfl ?_
            refine aops_end ?_
            refine hK16 _ ?_
            refine awp_condQ (q := (2000) < (ndig ((iterZ m i (numS a))).natAbs)) rfl (fun h6 => ?_) (fun h6 => ?_)
            · refine awp_seq fun K17 hK17 => ?_
              refine awp_region rfl ?_
              refine o_assign (AV.lit (.slice none 0 0)) Gd.none rfl ?_
              refine o_assign (nm .i64 (3)) Gd.none rfl ?_
              refine aops_end ?_
              refine hK17 _ ?_
              refine awp_ret ?_
              refine post_ret ⟨[(AV.sl 1 (is .i64 ([]))), (nm .i64 (3))], And.intro (AV.le_nil' (by decide) (by first | rfl | simp [digs_zero, ns, is])) (And.intro (AV.le_refl _) (trivial)), rfl, ?_⟩
              have e := wordE_3 (m := m) (a := a) (K := K) ⟨hm', ha'⟩ (by omega) (fun hF => by have := hF i (by omega); unfold Fit at this; omega)
              exact tup_eq2 (congrArg (fun l => AV.sl 1 (is .i64 l)) e.2) (congrArg (nm _) e.1)
            · have hfi : Fit (iterZ m i (numS a)) := by unfold Fit; omega
              have hli := fit_len hfi
              have hln := step_len (z := (iterZ m i (numS a))) hM hli (by omega)
              refine awp_skip ?_
              refine hK15 _ ?_
              refine awp_seq fun K18 hK18 => ?_
              refine awp_region rfl ?_
              refine o_loadA [(AV.lit (.int .i64 (m.mod))), (AV.sl 1 (is .i64 (m.mul))), (AV.sl 1 (is .i64 (m.add)))] Gd.none Xb_tA24 rfl rfl rfl rfl rfl ?_
              refine o_loadA [(bp ((iterZ m i (numS a)) < 0)), (AV.sl 1 (ns .u32 (digs ((iterZ m i (numS a))).natAbs)))] Gd.none Xb_tA79 rfl rfl rfl rfl rfl ?_
              refine o_call [(mapV m), (intW ((iterZ m i (numS a))))] (AV.tup [(intW ((stepZ m (iterZ m i (numS a))))), (AV.lit (.int .i64 ((iterZ m i (numS a)) % m.mod)))]) Gd.none Xb_tC50 rfl (c_sNext m ((iterZ m i (numS a))) (by first | assumption | exact okM_iff.1 (by assumption)) (by first | omega | assumption | (simp only [Int.natAbs_neg]; omega))) ?_
              refine o_move (AV.tup [(intW ((stepZ m (iterZ m i (numS a))))), (AV.lit (.int .i64 ((iterZ m i (numS a)) % m.mod)))]) Gd.none rfl ?_
              refine o_extract (intW ((stepZ m (iterZ m i (numS a))))) Gd.none rfl rfl ?_
              refine o_extract (AV.lit (.int .i64 ((iterZ m i (numS a)) % m.mod))) Gd.none rfl rfl ?_
              refine o_alloc 101 [(AV.lit (.bool false)), (AV.lit (.slice none 0 0))] Gd.none Xb_tO79 rfl rfl rfl ?_
              refine o_store [(101, (oZ 79 .u32 ((stepZ m (iterZ m i (numS a)))))), (2, (oM 24 m)), (3, (oZ 79 .u32 ((iterZ m i (numS a))))), (50, (AO.row 3 1 (is .i64 (wordZ m (numS a) i))))] Gd.none Xb_tZ79 rfl rfl rfl rfl rfl rfl ?_
              refine o_assign (AV.lit (.int .i64 ((iterZ m i (numS a)) % m.mod))) Gd.none rfl ?_
              refine aops_end ?_
              refine hK18 _ ?_
              refine awp_seq fun K19 hK19 => ?_
              refine awp_region rfl ?_
              refine o_move (AV.row 50) Gd.none rfl ?_
              refine o_move (AV.lit (.int .i64 ((iterZ m i (numS a)) % m.mod))) Gd.none rfl ?_
              refine o_buildSlice 102 (is .i64 ([(iterZ m i (numS a)) % m.mod])) [(0, [(AV.lit (.int .i64 ((iterZ m i (numS a)) % m.mod)))])] Gd.none Xb_tE22 rfl Xb_tO3 rfl rfl rfl rfl rfl rfl rfl ?_
              refine i_append 103 (wordZ m (numS a) i) ([(iterZ m i (numS a)) % m.mod]) [(102, (AO.row 3 1 (is .i64 ([(iterZ m i (numS a)) % m.mod])))), (101, (oZ 79 .u32 ((stepZ m (iterZ m i (numS a)))))), (2, (oM 24 m)), (3, (oZ 79 .u32 ((iterZ m i (numS a)))))] Gd.none Xb_tE22 Xb_tO3 rfl rfl rfl rfl rfl (by simp only [wordZ_len, List.length_cons, List.length_nil]; omega) (by decide) rfl rfl ?_
              refine o_assign (AV.row 103) Gd.none rfl ?_
              refine aops_end ?_
              refine hK19 _ ?_
              refine awp_region rfl ?_
              refine o_loadA [(bp ((stepZ m (iterZ m i (numS a))) < 0)), (AV.sl 1 (ns .u32 (digs ((stepZ m (iterZ m i (numS a)))).natAbs)))] Gd.none Xb_tA79 rfl rfl rfl rfl rfl ?_
              refine o_store [(103, (AO.row 3 1 (is .i64 ((wordZ m (numS a) i) ++ ([(iterZ m i (numS a)) % m.mod]))))), (102, (AO.row 3 1 (is .i64 ([(iterZ m i (numS a)) % m.mod])))), (101, (oZ 79 .u32 ((stepZ m (iterZ m i (numS a)))))), (2, (oM 24 m)), (3, (oZ 79 .u32 ((stepZ m (iterZ m i (numS a))))))] Gd.none Xb_tZ79 rfl rfl rfl rfl rfl rfl ?_
              refine aops_end ?_
              refine hK14 _ ?_
              refine awp_region rfl ?_
              refine n_add (i) (1) Gd.none rfl rfl (by simp only [topOf]; omega) ?_
              refine o_move (nm .i64 ((i) + (1))) Gd.none rfl ?_
              refine aops_end ?_
              refine ⟨_, _, ?lt, ⟨i + 1, (by omega), (fitK_snoc hf hfi), (show (digs (stepZ m (iterZ m i (numS a))).natAbs).length ≤ 1000 by omega), rfl, rfl⟩, ?wk⟩
              case lt => omega
              case wk => exact Wk.trans (Wk.sub (σ' := ⟨[(3, (AV.ref 2 (0))), (8, (AV.row 103)), (9, (AV.ref 3 (0))), (30, (AV.lit (.int .i64 (K)))), (31, (nm .i64 ((i) + (1))))], [(2, (oM 24 m)), (103, (AO.row 3 1 (is .i64 ((wordZ m (numS a) i) ++ ([(iterZ m i (numS a)) % m.mod]))))), (3, (oZ 79 .u32 ((stepZ m (iterZ m i (numS a))))))]⟩) (And.intro rfl (And.intro rfl (And.intro rfl (And.intro rfl (And.intro rfl (trivial)))))) (And.intro rfl (And.intro rfl (And.intro rfl (trivial))))) (Wk.trans (Wk.ren (id := 103) (id' := 50) rfl) (Wk.sub (And.intro rfl (And.intro (by first | rfl | (simp)) (And.intro rfl (And.intro rfl (And.intro (by first | rfl | exact congrArg (nm _) (by omega) | exact nm_int (by omega) | exact nm_int (by simp [IntKind.wrap, IntKind.bits, IntKind.signed]; omega)) (trivial)))))) (And.intro rfl (And.intro rfl (And.intro (by first | rfl | exact row_ns (by simp)) (trivial))))))
          · refine awp_exit ?_
            refine hK10 _ ?_
            refine awp_seq fun K20 hK20 => ?_
            refine awp_region rfl ?_
            refine o_move (AV.row 50) Gd.none rfl ?_
            refine o_assign (AV.row 50) Gd.none rfl ?_
            refine o_assign (nm .i64 (0)) Gd.none rfl ?_
            refine aops_end ?_
            refine hK20 _ ?_
            refine awp_wk (σ' := ⟨[(6, (AV.row 50)), (7, (nm .i64 (0)))], [(50, (AO.row 3 1 (is .i64 (wordZ m (numS a) i))))]⟩) (Wk.sub (And.intro rfl (And.intro rfl (trivial))) (And.intro rfl (trivial))) ?_
            refine awp_wk (σ' := ⟨[(6, (AV.sl 1 (is .i64 (wordZ m (numS a) i)))), (7, (nm .i64 (0)))], []⟩) (Wk.freeze (id := 50) (e := 3) (sz := 1) (cs := (is .i64 (wordZ m (numS a) i))) rfl) ?_
            refine awp_ret ?_
            refine post_ret ⟨[(AV.sl 1 (is .i64 (wordZ m (numS a) i))), (nm .i64 (0))], And.intro (AV.le_refl _) (And.intro (AV.le_refl _) (trivial)), rfl, ?_⟩
            have e := wordE_0 (m := m) (a := a) (K := K) ⟨hm', ha'⟩ (by omega) (by rw [show K.toNat = i by omega]; exact hf); rw [show K.toNat = i by omega] at e
            exact tup_eq2 (congrArg (fun l => AV.sl 1 (is .i64 l)) e.2) (congrArg (nm _) e.1)

theorem c_oApply (l : LineS) (a : ByteArray) (h1m : l.mul.size ≤ 9223372036854775807) (h2m : l.add.size ≤ 9223372036854775807) (h3m : l.div.size ≤ 9223372036854775807) (ha : a.size ≤ 9223372036854775807) : ECalls cx 28 [(AV.agg [(AV.lit (.string ((l).mul))), (AV.lit (.string ((l).add))), (AV.lit (.string ((l).div)))]), (AV.lit (.string (a)))] (.tup [.lit (.string (appS l a)), bp (AppB l a), nm .i64 (appE l a)]) := by
  refine ecalls_of_awp Tryd.func28 (c := _) rfl (Nat.le_of_ble_eq_true rfl) ?_
  show awp cx 66 _ (postF cx Tryd.f28 _) ⟨[(0, (AV.agg [(AV.lit (.string ((l).mul))), (AV.lit (.string ((l).add))), (AV.lit (.string ((l).div)))])), (1, (AV.lit (.string (a))))], []⟩
  refine awp_seq fun K0 hK0 => ?_
  refine awp_region rfl ?_
  refine o_box 2 [(AV.lit (.string ((l).mul))), (AV.lit (.string ((l).add))), (AV.lit (.string ((l).div)))] Gd.none rfl rfl ?_
  refine o_assign (AV.lit (.string (({data := #[]} : ByteArray)))) Gd.none rfl ?_
  refine o_assign (AV.lit (.bool false)) Gd.none rfl ?_
  refine o_assign (nm .i64 (0)) Gd.none rfl ?_
  refine aops_end ?_
  refine hK0 _ ?_
  refine awp_seq fun K1 hK1 => ?_
  refine awp_seq fun K2 hK2 => ?_
  refine awp_region rfl ?_
  refine o_fieldRef 0 Gd.none Xb_tF41_0 rfl rfl ?_
  refine o_loadS (AV.lit (.string ((l).mul))) Gd.none Xb_tS9 rfl rfl rfl ?_
  refine o_call [(AV.lit (.string ((l).mul)))] (AV.lit (.bool (okS ((l).mul)))) Gd.none Xb_tC47 rfl (c_nValid ((l).mul) (by first | assumption | decide | omega)) ?_
  refine o_not (b := okS ((l).mul)) Gd.none rfl ?_
  refine o_move (AV.lit (.bool (!(okS ((l).mul))))) Gd.none rfl ?_
  refine o_split (b := !(okS ((l).mul))) 15 rfl (fun h1 => ?_) (fun h1 => ?_)
  · have k1 : okS l.mul = false := by simpa using h1
    refine o_skip (b := !(okS ((l).mul))) rfl rfl h1 ?_
    refine o_skip (b := !(okS ((l).mul))) rfl rfl h1 ?_
    refine o_skip (b := !(okS ((l).mul))) rfl rfl h1 ?_
    refine o_skip (b := !(okS ((l).mul))) rfl rfl h1 ?_
    refine o_pickT (b := !(okS ((l).mul))) (AV.lit (.bool true)) Gd.none rfl h1 rfl ?_
    refine o_move (AV.lit (.bool true)) Gd.none rfl ?_
    refine o_skip (b := true) rfl rfl rfl ?_
    refine o_skip (b := true) rfl rfl rfl ?_
    refine o_skip (b := true) rfl rfl rfl ?_
    refine o_skip (b := true) rfl rfl rfl ?_
    refine o_pickT (b := true) (AV.lit (.bool true)) Gd.none rfl rfl rfl ?_
    refine o_move (AV.lit (.bool true)) Gd.none rfl ?_
    refine o_skip (b := true) rfl rfl rfl ?_
    refine o_skip (b := true) rfl rfl rfl ?_
    refine o_skip (b := true) rfl rfl rfl ?_
    refine o_pickT (b := true) (AV.lit (.bool true)) Gd.none rfl rfl rfl ?_
    refine aops_end ?_
    refine hK2 _ ?_
    refine awp_condB (b := true) rfl (fun _ => ?_) (fun hh => absurd (hh.symm.trans rfl) (by decide))
    refine awp_seq fun K3 hK3 => ?_
    refine awp_region rfl ?_
    refine o_assign (AV.lit (.string (({data := #[]} : ByteArray)))) Gd.none rfl ?_
    refine o_assign (AV.lit (.bool false)) Gd.none rfl ?_
    refine o_assign (nm .i64 (1)) Gd.none rfl ?_
    refine aops_end ?_
    refine hK3 _ ?_
    refine awp_ret ?_
    refine post_ret ⟨[(AV.lit (.string (({data := #[]} : ByteArray)))), (AV.lit (.bool false)), (nm .i64 (1))], And.intro (AV.le_refl _) (And.intro (AV.le_refl _) (And.intro (AV.le_refl _) (trivial))), rfl, ?_⟩
    have e := app_1 (l := l) (a := a) (fun e => by have := e.1; unfold okL at this; rw [k1] at this; simp at this)
    exact tup_eq3 (str_as e.2.2) (bp_no e.2.1) (congrArg (nm _) e.1)
  · have k1 : okS l.mul = true := by simpa using h1
    refine o_fieldRef 1 (Gd.yes rfl rfl h1) Xb_tF41_1 rfl rfl ?_
    refine o_loadS (AV.lit (.string ((l).add))) (Gd.yes rfl rfl h1) Xb_tS9 rfl rfl rfl ?_
    refine o_call [(AV.lit (.string ((l).add)))] (AV.lit (.bool (okS ((l).add)))) (Gd.yes rfl rfl h1) Xb_tC47 rfl (c_nValid ((l).add) (by first | assumption | decide | omega)) ?_
    refine o_not (b := okS ((l).add)) (Gd.yes rfl rfl h1) rfl ?_
    refine o_pickF (b := !(okS ((l).mul))) (AV.lit (.bool (!(okS ((l).add))))) Gd.none rfl h1 rfl ?_
    refine o_move (AV.lit (.bool (!(okS ((l).add))))) Gd.none rfl ?_
    refine o_split (b := !(okS ((l).add))) 21 rfl (fun h2 => ?_) (fun h2 => ?_)
    · have k2 : okS l.add = false := by simpa using h2
      refine o_skip (b := !(okS ((l).add))) rfl rfl h2 ?_
      refine o_skip (b := !(okS ((l).add))) rfl rfl h2 ?_
      refine o_skip (b := !(okS ((l).add))) rfl rfl h2 ?_
      refine o_skip (b := !(okS ((l).add))) rfl rfl h2 ?_
      refine o_pickT (b := !(okS ((l).add))) (AV.lit (.bool true)) Gd.none rfl h2 rfl ?_
      refine o_move (AV.lit (.bool true)) Gd.none rfl ?_
      refine o_skip (b := true) rfl rfl rfl ?_
      refine o_skip (b := true) rfl rfl rfl ?_
      refine o_skip (b := true) rfl rfl rfl ?_
      refine o_pickT (b := true) (AV.lit (.bool true)) Gd.none rfl rfl rfl ?_
      refine aops_end ?_
      refine hK2 _ ?_
      refine awp_condB (b := true) rfl (fun _ => ?_) (fun hh => absurd (hh.symm.trans rfl) (by decide))
      refine awp_seq fun K4 hK4 => ?_
      refine awp_region rfl ?_
      refine o_assign (AV.lit (.string (({data := #[]} : ByteArray)))) Gd.none rfl ?_
      refine o_assign (AV.lit (.bool false)) Gd.none rfl ?_
      refine o_assign (nm .i64 (1)) Gd.none rfl ?_
      refine aops_end ?_
      refine hK4 _ ?_
      refine awp_ret ?_
      refine post_ret ⟨[(AV.lit (.string (({data := #[]} : ByteArray)))), (AV.lit (.bool false)), (nm .i64 (1))], And.intro (AV.le_refl _) (And.intro (AV.le_refl _) (And.intro (AV.le_refl _) (trivial))), rfl, ?_⟩
      have e := app_1 (l := l) (a := a) (fun e => by have := e.1; unfold okL at this; rw [k2] at this; simp at this)
      exact tup_eq3 (str_as e.2.2) (bp_no e.2.1) (congrArg (nm _) e.1)
    · have k2 : okS l.add = true := by simpa using h2
      refine o_fieldRef 2 (Gd.yes rfl rfl h2) Xb_tF41_2 rfl rfl ?_
      refine o_loadS (AV.lit (.string ((l).div))) (Gd.yes rfl rfl h2) Xb_tS9 rfl rfl rfl ?_
      refine o_call [(AV.lit (.string ((l).div)))] (AV.lit (.bool (okS ((l).div)))) (Gd.yes rfl rfl h2) Xb_tC47 rfl (c_nValid ((l).div) (by first | assumption | decide | omega)) ?_
      refine o_not (b := okS ((l).div)) (Gd.yes rfl rfl h2) rfl ?_
      refine o_pickF (b := !(okS ((l).add))) (AV.lit (.bool (!(okS ((l).div))))) Gd.none rfl h2 rfl ?_
      refine o_move (AV.lit (.bool (!(okS ((l).div))))) Gd.none rfl ?_
      refine o_split (b := !(okS ((l).div))) 27 rfl (fun h3 => ?_) (fun h3 => ?_)
      · have k3 : okS l.div = false := by simpa using h3
        refine o_skip (b := !(okS ((l).div))) rfl rfl h3 ?_
        refine o_skip (b := !(okS ((l).div))) rfl rfl h3 ?_
        refine o_skip (b := !(okS ((l).div))) rfl rfl h3 ?_
        refine o_pickT (b := !(okS ((l).div))) (AV.lit (.bool true)) Gd.none rfl h3 rfl ?_
        refine aops_end ?_
        refine hK2 _ ?_
        refine awp_condB (b := true) rfl (fun _ => ?_) (fun hh => absurd (hh.symm.trans rfl) (by decide))
        refine awp_seq fun K5 hK5 => ?_
        refine awp_region rfl ?_
        refine o_assign (AV.lit (.string (({data := #[]} : ByteArray)))) Gd.none rfl ?_
        refine o_assign (AV.lit (.bool false)) Gd.none rfl ?_
        refine o_assign (nm .i64 (1)) Gd.none rfl ?_
        refine aops_end ?_
        refine hK5 _ ?_
        refine awp_ret ?_
        refine post_ret ⟨[(AV.lit (.string (({data := #[]} : ByteArray)))), (AV.lit (.bool false)), (nm .i64 (1))], And.intro (AV.le_refl _) (And.intro (AV.le_refl _) (And.intro (AV.le_refl _) (trivial))), rfl, ?_⟩
        have e := app_1 (l := l) (a := a) (fun e => by have := e.1; unfold okL at this; rw [k3] at this; simp at this)
        exact tup_eq3 (str_as e.2.2) (bp_no e.2.1) (congrArg (nm _) e.1)
      · have k3 : okS l.div = true := by simpa using h3
        refine o_move (AV.lit (.string (a))) (Gd.yes rfl rfl h3) rfl ?_
        refine o_call [(AV.lit (.string (a)))] (AV.lit (.bool (okS (a)))) (Gd.yes rfl rfl h3) Xb_tC47 rfl (c_nValid (a) (by first | assumption | decide | omega)) ?_
        refine o_not (b := okS (a)) (Gd.yes rfl rfl h3) rfl ?_
        refine o_pickF (b := !(okS ((l).div))) (AV.lit (.bool (!(okS (a))))) Gd.none rfl h3 rfl ?_
        refine aops_end ?_
        refine hK2 _ ?_
        refine awp_condB (b := !(okS (a))) rfl (fun h4 => ?_) (fun h4 => ?_)
        · have k4 : okS a = false := by simpa using h4
          refine awp_seq fun K6 hK6 => ?_
          refine awp_region rfl ?_
          refine o_assign (AV.lit (.string (({data := #[]} : ByteArray)))) Gd.none rfl ?_
          refine o_assign (AV.lit (.bool false)) Gd.none rfl ?_
          refine o_assign (nm .i64 (1)) Gd.none rfl ?_
          refine aops_end ?_
          refine hK6 _ ?_
          refine awp_ret ?_
          refine post_ret ⟨[(AV.lit (.string (({data := #[]} : ByteArray)))), (AV.lit (.bool false)), (nm .i64 (1))], And.intro (AV.le_refl _) (And.intro (AV.le_refl _) (And.intro (AV.le_refl _) (trivial))), rfl, ?_⟩
          have e := app_1 (l := l) (a := a) (fun e => by rw [k4] at e; simp at e)
          exact tup_eq3 (str_as e.2.2) (bp_no e.2.1) (congrArg (nm _) e.1)
        · have k4 : okS a = true := by simpa using h4
          have ho : okL l = true ∧ okS a = true := ⟨by unfold okL; rw [k1, k2, k3]; rfl, k4⟩
          have s1 := len_numS (okS_iff.1 k1)
          have s2 := len_numS (okS_iff.1 k2)
          have s3 := len_numS (okS_iff.1 k3)
          have s4 := len_numS (okS_iff.1 k4)
          have hA := len_mulZ (numS l.mul) (numS a)
          have hB := len_addZ (numS l.mul * numS a) (numS l.add)
          refine awp_skip ?_
          refine hK1 _ ?_
          refine awp_seq fun K7 hK7 => ?_
          refine awp_seq fun K8 hK8 => ?_
          refine awp_region rfl ?_
          refine o_loadA [(AV.lit (.string ((l).mul))), (AV.lit (.string ((l).add))), (AV.lit (.string ((l).div)))] Gd.none Xb_tA41 rfl rfl rfl rfl rfl ?_
          refine o_build [(AV.lit (.string (({data := #[49]} : ByteArray)))), (AV.lit (.string (({data := #[48]} : ByteArray)))), (AV.lit (.string (({data := #[49]} : ByteArray))))] [(0, [(AV.lit (.string (({data := #[49]} : ByteArray))))]), (1, [(AV.lit (.string (({data := #[48]} : ByteArray))))]), (2, [(AV.lit (.string (({data := #[49]} : ByteArray))))])] Gd.none Xb_tP41 Xb_tO41 rfl rfl rfl ?_
          refine o_eqlA [.string ((l).mul), .string ((l).add), .string ((l).div)] [.string (({data := #[49]} : ByteArray)), .string (({data := #[48]} : ByteArray)), .string (({data := #[49]} : ByteArray))] (((l).mul) = (({data := #[49]} : ByteArray)) ∧ ((l).add) = (({data := #[48]} : ByteArray)) ∧ ((l).div) = (({data := #[49]} : ByteArray))) Gd.none rfl rfl (eq_api_Line _ _ _ _ _ _) ?_
          refine aops_end ?_
          refine hK8 _ ?_
          refine awp_condQ (q := ((l).mul) = (({data := #[49]} : ByteArray)) ∧ ((l).add) = (({data := #[48]} : ByteArray)) ∧ ((l).div) = (({data := #[49]} : ByteArray))) rfl (fun h5 => ?_) (fun h5 => ?_)
          · refine awp_seq fun K9 hK9 => ?_
            refine awp_region rfl ?_
            refine o_move (AV.lit (.string (a))) Gd.none rfl ?_
            refine o_assign (AV.lit (.string (a))) Gd.none rfl ?_
            refine o_assign (AV.lit (.bool true)) Gd.none rfl ?_
            refine o_assign (nm .i64 (0)) Gd.none rfl ?_
            refine aops_end ?_
            refine hK9 _ ?_
            refine awp_ret ?_
            refine post_ret ⟨[(AV.lit (.string (a))), (AV.lit (.bool true)), (nm .i64 (0))], And.intro (AV.le_refl _) (And.intro (AV.le_refl _) (And.intro (AV.le_refl _) (trivial))), rfl, ?_⟩
            have e := app_one ho h5.1 h5.2.1 h5.2.2
            exact tup_eq3 (str_as e.2.2) (bp_yes e.2.1) (congrArg (nm _) e.1)
          · refine awp_skip ?_
            refine hK7 _ ?_
            refine awp_seq fun K10 hK10 => ?_
            refine awp_region rfl ?_
            refine o_fieldRef 2 Gd.none Xb_tF41_2 rfl rfl ?_
            refine o_loadS (AV.lit (.string ((l).div))) Gd.none Xb_tS9 rfl rfl rfl ?_
            refine o_call [(AV.lit (.string ((l).div)))] (intW ((numS ((l).div)))) Gd.none Xb_tC48 rfl (c_wParse ((l).div) (by first | assumption | exact okS_iff.1 (by assumption))) ?_
            refine o_alloc 3 [(AV.lit (.bool false)), (AV.lit (.slice none 0 0))] Gd.none Xb_tO79 rfl rfl rfl ?_
            refine o_store [(3, (oZ 79 .u32 ((numS ((l).div))))), (2, (AO.var 41 [(AV.lit (.string ((l).mul))), (AV.lit (.string ((l).add))), (AV.lit (.string ((l).div)))]))] Gd.none Xb_tZ79 rfl rfl rfl rfl rfl rfl ?_
            refine aops_end ?_
            refine hK10 _ ?_
            refine awp_seq fun K11 hK11 => ?_
            refine awp_seq fun K12 hK12 => ?_
            refine awp_region rfl ?_
            refine o_loadA [(bp ((numS ((l).div)) < 0)), (AV.sl 1 (ns .u32 (digs ((numS ((l).div))).natAbs)))] Gd.none Xb_tA79 rfl rfl rfl rfl rfl ?_
            refine o_call [(intW ((numS ((l).div))))] (AV.lit (.int .i64 (sgn ((numS ((l).div)))))) Gd.none Xb_tC68 rfl (c_wSign ((numS ((l).div)))) ?_
            refine o_leq (a := (sgn ((numS ((l).div))))) (c := (((0 : Nat) : Int))) Gd.none rfl rfl ?_
            refine aops_end ?_
            refine hK12 _ ?_
            refine awp_condQ (q := (sgn ((numS ((l).div)))) ≤ (((0 : Nat) : Int))) rfl (fun h6 => ?_) (fun h6 => ?_)
            · have hd : ¬ 0 < numS l.div := by have := sgn_le.1 h6; omega
              refine awp_seq fun K13 hK13 => ?_
              refine awp_region rfl ?_
              refine o_assign (AV.lit (.string (({data := #[]} : ByteArray)))) Gd.none rfl ?_
              refine o_assign (AV.lit (.bool false)) Gd.none rfl ?_
              refine o_assign (nm .i64 (2)) Gd.none rfl ?_
              refine aops_end ?_
              refine hK13 _ ?_
              refine awp_ret ?_
              refine post_ret ⟨[(AV.lit (.string (({data := #[]} : ByteArray)))), (AV.lit (.bool false)), (nm .i64 (2))], And.intro (AV.le_refl _) (And.intro (AV.le_refl _) (And.intro (AV.le_refl _) (trivial))), rfl, ?_⟩
              have e := app_2 ho hd
              exact tup_eq3 (str_as e.2.2) (bp_no e.2.1) (congrArg (nm _) e.1)
            · have hd : 0 < numS l.div := by rcases Int.lt_or_le 0 (numS l.div) with e | e; exact e; exact absurd (sgn_le.2 e) h6
              have hE := len_ediv (numS l.mul * numS a + numS l.add) hd
              refine awp_skip ?_
              refine hK11 _ ?_
              refine awp_seq fun K14 hK14 => ?_
              refine awp_regionD rfl ?_
              refine o_fieldRef 0 Gd.none Xb_tF41_0 rfl rfl ?_
              refine o_loadS (AV.lit (.string ((l).mul))) Gd.none Xb_tS9 rfl rfl rfl ?_
              refine o_call [(AV.lit (.string ((l).mul)))] (intW ((numS ((l).mul)))) Gd.none Xb_tC48 rfl (c_wParse ((l).mul) (by first | assumption | exact okS_iff.1 (by assumption))) ?_
              refine o_move (AV.lit (.string (a))) Gd.none rfl ?_
              refine o_call [(AV.lit (.string (a)))] (intW ((numS (a)))) Gd.none Xb_tC48 rfl (c_wParse (a) (by first | assumption | exact okS_iff.1 (by assumption))) ?_
              refine o_call [(intW ((numS ((l).mul)))), (intW ((numS (a))))] (intW (((numS ((l).mul)) * (numS (a))))) Gd.none Xb_tC60 rfl (c_wMul ((numS ((l).mul))) ((numS (a))) (by first | omega | assumption | (simp only [Int.natAbs_neg]; omega)) (by first | omega | assumption | (simp only [Int.natAbs_neg]; omega))) ?_
              refine o_fieldRef 1 Gd.none Xb_tF41_1 rfl rfl ?_
              refine o_loadS (AV.lit (.string ((l).add))) Gd.none Xb_tS9 rfl rfl rfl ?_
              refine o_call [(AV.lit (.string ((l).add)))] (intW ((numS ((l).add)))) Gd.none Xb_tC48 rfl (c_wParse ((l).add) (by first | assumption | exact okS_iff.1 (by assumption))) ?_
              refine o_call [(intW (((numS ((l).mul)) * (numS (a))))), (intW ((numS ((l).add))))] (intW ((((numS ((l).mul)) * (numS (a))) + (numS ((l).add))))) Gd.none Xb_tC61 rfl (c_wAdd (((numS ((l).mul)) * (numS (a)))) ((numS ((l).add))) (by first | omega | assumption | (simp only [Int.natAbs_neg]; omega)) (by first | omega | assumption | (simp only [Int.natAbs_neg]; omega))) ?_
              refine o_alloc 4 [(AV.lit (.bool false)), (AV.lit (.slice none 0 0))] Gd.none Xb_tO79 rfl rfl rfl ?_
              refine o_store [(4, (oZ 79 .u32 ((((numS ((l).mul)) * (numS (a))) + (numS ((l).add)))))), (3, (oZ 79 .u32 ((numS ((l).div))))), (2, (AO.var 41 [(AV.lit (.string ((l).mul))), (AV.lit (.string ((l).add))), (AV.lit (.string ((l).div)))]))] Gd.none Xb_tZ79 rfl rfl rfl rfl rfl rfl ?_
              refine aops_end ⟨by kernel_rfl, ?_⟩
              refine hK14 _ ?_
              refine awp_seq fun K15 hK15 => ?_
              refine awp_seq fun K16 hK16 => ?_
              refine awp_region rfl ?_
              refine o_loadA [(bp ((((numS ((l).mul)) * (numS (a))) + (numS ((l).add))) < 0)), (AV.sl 1 (ns .u32 (digs ((((numS ((l).mul)) * (numS (a))) + (numS ((l).add)))).natAbs)))] Gd.none Xb_tA79 rfl rfl rfl rfl rfl ?_
              refine o_call [(intW ((((numS ((l).mul)) * (numS (a))) + (numS ((l).add)))))] (nm .i64 (ndig ((((numS ((l).mul)) * (numS (a))) + (numS ((l).add)))).natAbs)) Gd.none Xb_tC49 rfl (c_wDigits ((((numS ((l).mul)) * (numS (a))) + (numS ((l).add)))) (by first | omega | assumption | (simp only [Int.natAbs_neg]; omega))) ?_
              refine n_gtr (ndig ((((numS ((l).mul)) * (numS (a))) + (numS ((l).add)))).natAbs) (2000) Gd.none rfl rfl ?_
              refine aops_end ?_
              refine hK16 _ ?_
              refine awp_condQ (q := (2000) < (ndig ((((numS ((l).mul)) * (numS (a))) + (numS ((l).add)))).natAbs)) rfl (fun h7 => ?_) (fun h7 => ?_)
              · have hf : ¬ Fit (appV l a) := by unfold Fit appV; omega
                refine awp_seq fun K17 hK17 => ?_
                refine awp_region rfl ?_
                refine o_assign (AV.lit (.string (({data := #[]} : ByteArray)))) Gd.none rfl ?_
                refine o_assign (AV.lit (.bool false)) Gd.none rfl ?_
                refine o_assign (nm .i64 (3)) Gd.none rfl ?_
                refine aops_end ?_
                refine hK17 _ ?_
                refine awp_ret ?_
                refine post_ret ⟨[(AV.lit (.string (({data := #[]} : ByteArray)))), (AV.lit (.bool false)), (nm .i64 (3))], And.intro (AV.le_refl _) (And.intro (AV.le_refl _) (And.intro (AV.le_refl _) (trivial))), rfl, ?_⟩
                have e := app_3 ho hd hf
                exact tup_eq3 (str_as e.2.2) (bp_no e.2.1) (congrArg (nm _) e.1)
              · have hf : Fit (appV l a) := by unfold Fit appV; omega
                refine awp_skip ?_
                refine hK15 _ ?_
                refine awp_seq fun K18 hK18 => ?_
                refine awp_region rfl ?_
                refine o_loadA [(bp ((((numS ((l).mul)) * (numS (a))) + (numS ((l).add))) < 0)), (AV.sl 1 (ns .u32 (digs ((((numS ((l).mul)) * (numS (a))) + (numS ((l).add)))).natAbs)))] Gd.none Xb_tA79 rfl rfl rfl rfl rfl ?_
                refine o_loadA [(bp ((numS ((l).div)) < 0)), (AV.sl 1 (ns .u32 (digs ((numS ((l).div))).natAbs)))] Gd.none Xb_tA79 rfl rfl rfl rfl rfl ?_
                refine o_call [(intW ((((numS ((l).mul)) * (numS (a))) + (numS ((l).add))))), (intW ((numS ((l).div))))] (AV.tup [(intW (((((numS ((l).mul)) * (numS (a))) + (numS ((l).add))) / (numS ((l).div))))), (intW (((((numS ((l).mul)) * (numS (a))) + (numS ((l).add))) % (numS ((l).div)))))]) Gd.none Xb_tC62 rfl (c_wDivide ((((numS ((l).mul)) * (numS (a))) + (numS ((l).add)))) ((numS ((l).div))) (by omega) (by omega) (by omega)) ?_
                refine o_move (AV.tup [(intW (((((numS ((l).mul)) * (numS (a))) + (numS ((l).add))) / (numS ((l).div))))), (intW (((((numS ((l).mul)) * (numS (a))) + (numS ((l).add))) % (numS ((l).div)))))]) Gd.none rfl ?_
                refine o_extract (intW (((((numS ((l).mul)) * (numS (a))) + (numS ((l).add))) / (numS ((l).div))))) Gd.none rfl rfl ?_
                refine o_extract (intW (((((numS ((l).mul)) * (numS (a))) + (numS ((l).add))) % (numS ((l).div))))) Gd.none rfl rfl ?_
                refine o_alloc 5 [(AV.lit (.bool false)), (AV.lit (.slice none 0 0))] Gd.none Xb_tO79 rfl rfl rfl ?_
                refine o_alloc 6 [(AV.lit (.bool false)), (AV.lit (.slice none 0 0))] Gd.none Xb_tO79 rfl rfl rfl ?_
                refine o_store [(6, (AO.var 79 [(AV.lit (.bool false)), (AV.lit (.slice none 0 0))])), (5, (oZ 79 .u32 (((((numS ((l).mul)) * (numS (a))) + (numS ((l).add))) / (numS ((l).div)))))), (4, (oZ 79 .u32 ((((numS ((l).mul)) * (numS (a))) + (numS ((l).add)))))), (3, (oZ 79 .u32 ((numS ((l).div))))), (2, (AO.var 41 [(AV.lit (.string ((l).mul))), (AV.lit (.string ((l).add))), (AV.lit (.string ((l).div)))]))] Gd.none Xb_tZ79 rfl rfl rfl rfl rfl rfl ?_
                refine o_store [(6, (oZ 79 .u32 (((((numS ((l).mul)) * (numS (a))) + (numS ((l).add))) % (numS ((l).div)))))), (5, (oZ 79 .u32 (((((numS ((l).mul)) * (numS (a))) + (numS ((l).add))) / (numS ((l).div)))))), (4, (oZ 79 .u32 ((((numS ((l).mul)) * (numS (a))) + (numS ((l).add)))))), (3, (oZ 79 .u32 ((numS ((l).div))))), (2, (AO.var 41 [(AV.lit (.string ((l).mul))), (AV.lit (.string ((l).add))), (AV.lit (.string ((l).div)))]))] Gd.none Xb_tZ79 rfl rfl rfl rfl rfl rfl ?_
                refine aops_end ?_
                refine hK18 _ ?_
                refine awp_seq fun K19 hK19 => ?_
                refine awp_seq fun K20 hK20 => ?_
                refine awp_region rfl ?_
                refine o_loadA [(bp (((((numS ((l).mul)) * (numS (a))) + (numS ((l).add))) % (numS ((l).div))) < 0)), (AV.sl 1 (ns .u32 (digs (((((numS ((l).mul)) * (numS (a))) + (numS ((l).add))) % (numS ((l).div)))).natAbs)))] Gd.none Xb_tA79 rfl rfl rfl rfl rfl ?_
                refine o_call [(intW (((((numS ((l).mul)) * (numS (a))) + (numS ((l).add))) % (numS ((l).div)))))] (AV.lit (.int .i64 (sgn (((((numS ((l).mul)) * (numS (a))) + (numS ((l).add))) % (numS ((l).div))))))) Gd.none Xb_tC68 rfl (c_wSign (((((numS ((l).mul)) * (numS (a))) + (numS ((l).add))) % (numS ((l).div))))) ?_
                refine o_neq (a := (sgn (((((numS ((l).mul)) * (numS (a))) + (numS ((l).add))) % (numS ((l).div)))))) (c := (((0 : Nat) : Int))) Gd.none rfl rfl ?_
                refine aops_end ?_
                refine hK20 _ ?_
                refine awp_condQ (q := (sgn (((((numS ((l).mul)) * (numS (a))) + (numS ((l).add))) % (numS ((l).div))))) ≠ (((0 : Nat) : Int))) rfl (fun h8 => ?_) (fun h8 => ?_)
                · have hr : ¬ appV l a % numS l.div = 0 := fun e => h8 (sgn_z0.2 e)
                  refine awp_seq fun K21 hK21 => ?_
                  refine awp_region rfl ?_
                  refine o_assign (AV.lit (.string (({data := #[]} : ByteArray)))) Gd.none rfl ?_
                  refine o_assign (AV.lit (.bool false)) Gd.none rfl ?_
                  refine o_assign (nm .i64 (0)) Gd.none rfl ?_
                  refine aops_end ?_
                  refine hK21 _ ?_
                  refine awp_ret ?_
                  refine post_ret ⟨[(AV.lit (.string (({data := #[]} : ByteArray)))), (AV.lit (.bool false)), (nm .i64 (0))], And.intro (AV.le_refl _) (And.intro (AV.le_refl _) (And.intro (AV.le_refl _) (trivial))), rfl, ?_⟩
                  have e := app_no ho hd hf hr
                  exact tup_eq3 (str_as e.2.2) (bp_no e.2.1) (congrArg (nm _) e.1)
                · have hr : appV l a % numS l.div = 0 := sgn_z0.1 (Decidable.not_not.1 h8)
                  refine awp_skip ?_
                  refine hK19 _ ?_
                  refine awp_seq fun K22 hK22 => ?_
                  refine awp_region rfl ?_
                  refine o_loadA [(bp (((((numS ((l).mul)) * (numS (a))) + (numS ((l).add))) / (numS ((l).div))) < 0)), (AV.sl 1 (ns .u32 (digs (((((numS ((l).mul)) * (numS (a))) + (numS ((l).add))) / (numS ((l).div)))).natAbs)))] Gd.none Xb_tA79 rfl rfl rfl rfl rfl ?_
                  refine o_call [(intW (((((numS ((l).mul)) * (numS (a))) + (numS ((l).add))) / (numS ((l).div)))))] (AV.lit (.string (txt (((((numS ((l).mul)) * (numS (a))) + (numS ((l).add))) / (numS ((l).div))))))) Gd.none Xb_tC64 rfl (c_wText (((((numS ((l).mul)) * (numS (a))) + (numS ((l).add))) / (numS ((l).div)))) (by first | omega | assumption | (simp only [Int.natAbs_neg]; omega))) ?_
                  refine o_assign (AV.lit (.string (txt (((((numS ((l).mul)) * (numS (a))) + (numS ((l).add))) / (numS ((l).div))))))) Gd.none rfl ?_
                  refine o_assign (AV.lit (.bool true)) Gd.none rfl ?_
                  refine o_assign (nm .i64 (0)) Gd.none rfl ?_
                  refine aops_end ?_
                  refine hK22 _ ?_
                  refine awp_ret ?_
                  refine post_ret ⟨[(AV.lit (.string (txt (((((numS ((l).mul)) * (numS (a))) + (numS ((l).add))) / (numS ((l).div))))))), (AV.lit (.bool true)), (nm .i64 (0))], And.intro (AV.le_refl _) (And.intro (AV.le_refl _) (And.intro (AV.le_refl _) (trivial))), rfl, ?_⟩
                  have e := app_yes ho hd hf hr
                  exact tup_eq3 (str_as e.2.2) (bp_yes e.2.1) (congrArg (nm _) e.1)

theorem c_oRest (m : MapM) (w : List Int) (hwl : w.length ≤ 17592186044416) : ECalls cx 21 [(mapV m), (AV.sl 1 (is .i64 (w)))] (.tup [.lit (.string (restS m w)), .lit (.string (restD m w)), nm .i64 (restE m w)]) := by
  refine ecalls_of_awp Tryd.func21 (c := _) rfl (Nat.le_of_ble_eq_true rfl) ?_
  show awp cx 84 _ (postF cx Tryd.f21 _) ⟨[(0, (mapV m)), (1, (AV.sl 1 (is .i64 (w))))], []⟩
  refine awp_seq fun K0 hK0 => ?_
  refine awp_region rfl ?_
  refine o_box 2 [(AV.lit (.int .i64 (m.mod))), (AV.sl 1 (is .i64 (m.mul))), (AV.sl 1 (is .i64 (m.add)))] Gd.none rfl rfl ?_
  refine o_assign (AV.lit (.string (({data := #[]} : ByteArray)))) Gd.none rfl ?_
  refine o_assign (AV.lit (.string (({data := #[]} : ByteArray)))) Gd.none rfl ?_
  refine o_assign (nm .i64 (0)) Gd.none rfl ?_
  refine aops_end ?_
  refine hK0 _ ?_
  refine awp_seq fun K1 hK1 => ?_
  refine awp_block ?_
  refine awp_seq fun K2 hK2 => ?_
  refine awp_region rfl ?_
  refine o_loadA [(AV.lit (.int .i64 (m.mod))), (AV.sl 1 (is .i64 (m.mul))), (AV.sl 1 (is .i64 (m.add)))] Gd.none Xb_tA24 rfl rfl rfl rfl rfl ?_
  refine o_call [(mapV m)] (AV.lit (.bool (okM m))) Gd.none Xb_tC46 rfl (c_sValid m) ?_
  refine o_not (b := okM m) Gd.none rfl ?_
  refine o_assign (AV.lit (.bool (!(okM m)))) Gd.none rfl ?_
  refine aops_end ?_
  refine hK2 _ ?_
  refine awp_condB (b := !(okM m)) rfl (fun h1 => ?_) (fun h1 => ?_)
  · have hm' : ¬ okM m = true := by simpa using h1
    refine awp_seq fun K3 hK3 => ?_
    refine awp_region rfl ?_
    refine o_assign (AV.lit (.string (({data := #[]} : ByteArray)))) Gd.none rfl ?_
    refine o_assign (AV.lit (.string (({data := #[]} : ByteArray)))) Gd.none rfl ?_
    refine o_assign (nm .i64 (1)) Gd.none rfl ?_
    refine aops_end ?_
    refine hK3 _ ?_
    refine awp_ret ?_
    refine post_ret ⟨[(AV.lit (.string (({data := #[]} : ByteArray)))), (AV.lit (.string (({data := #[]} : ByteArray)))), (nm .i64 (1))], And.intro (AV.le_refl _) (And.intro (AV.le_refl _) (And.intro (AV.le_refl _) (trivial))), rfl, ?_⟩
    have e := rest_1 (m := m) (w := w) hm'
    exact tup_eq3 (str_as e.2.1) (str_as e.2.2) (congrArg (nm _) e.1)
  · have hm' : okM m = true := by simpa using h1
    have hM := okM_iff.1 hm'
    have hM2 := hM
    obtain ⟨o1, o2, o3, o4, o5⟩ := hM2
    refine awp_seq fun K4 hK4 => ?_
    refine awp_region rfl ?_
    refine o_loadA [(AV.lit (.int .i64 (m.mod))), (AV.sl 1 (is .i64 (m.mul))), (AV.sl 1 (is .i64 (m.add)))] Gd.none Xb_tA24 rfl rfl rfl rfl rfl ?_
    refine o_move (AV.sl 1 (is .i64 (w))) Gd.none rfl ?_
    refine o_call [(mapV m), (AV.sl 1 (is .i64 (w)))] (bp (OkW m (w))) Gd.none Xb_tC55 rfl (c_oIs m (w)) ?_
    refine o_notP (q := OkW m (w)) Gd.none rfl ?_
    refine o_move (bp (¬ (OkW m (w)))) Gd.none rfl ?_
    refine o_splitP (q := ¬ (OkW m (w))) 25 rfl (fun h2 => ?_) (fun h2 => ?_)
    · refine o_skip (b := decide (¬ (OkW m (w)))) rfl rfl (decide_eq_true h2) ?_
      refine o_skip (b := decide (¬ (OkW m (w)))) rfl rfl (decide_eq_true h2) ?_
      refine o_skip (b := decide (¬ (OkW m (w)))) rfl rfl (decide_eq_true h2) ?_
      refine o_pickT (b := decide (¬ (OkW m (w)))) (AV.lit (.bool true)) Gd.none rfl (decide_eq_true h2) rfl ?_
      refine o_assign (AV.lit (.bool true)) Gd.none rfl ?_
      refine aops_end ?_
      refine hK4 _ ?_
      refine awp_condB (b := true) rfl (fun _ => ?_) (fun hh => absurd (hh.symm.trans rfl) (by decide))
      refine awp_seq fun K5 hK5 => ?_
      refine awp_region rfl ?_
      refine o_assign (AV.lit (.string (({data := #[]} : ByteArray)))) Gd.none rfl ?_
      refine o_assign (AV.lit (.string (({data := #[]} : ByteArray)))) Gd.none rfl ?_
      refine o_assign (nm .i64 (2)) Gd.none rfl ?_
      refine aops_end ?_
      refine hK5 _ ?_
      refine awp_ret ?_
      refine post_ret ⟨[(AV.lit (.string (({data := #[]} : ByteArray)))), (AV.lit (.string (({data := #[]} : ByteArray)))), (nm .i64 (2))], And.intro (AV.le_refl _) (And.intro (AV.le_refl _) (And.intro (AV.le_refl _) (trivial))), rfl, ?_⟩
      have e := rest_2 (m := m) (w := w) hm' (fun e => h2 e.1)
      exact tup_eq3 (str_as e.2.1) (str_as e.2.2) (congrArg (nm _) e.1)
    · have hW : OkW m w := Decidable.not_not.1 h2
      have hWl := hW.2
      refine o_loadA [(AV.lit (.int .i64 (m.mod))), (AV.sl 1 (is .i64 (m.mul))), (AV.sl 1 (is .i64 (m.add)))] (Gd.yes rfl rfl (decide_eq_false h2)) Xb_tA24 rfl rfl rfl rfl rfl ?_
      refine o_call [(mapV m)] (bp (freeM m)) (Gd.yes rfl rfl (decide_eq_false h2)) Xb_tC58 rfl (c_sFree m (by first | assumption | exact okM_iff.1 (by assumption))) ?_
      refine o_notP (q := freeM m) (Gd.yes rfl rfl (decide_eq_false h2)) rfl ?_
      refine o_pickF (b := decide (¬ (OkW m (w)))) (bp (¬ (freeM m))) Gd.none rfl (decide_eq_false h2) rfl ?_
      refine o_assign (bp (¬ (freeM m))) Gd.none rfl ?_
      refine aops_end ?_
      refine hK4 _ ?_
      refine awp_condQ (q := ¬ (freeM m)) rfl (fun h3 => ?_) (fun h3 => ?_)
      · refine awp_seq fun K6 hK6 => ?_
        refine awp_region rfl ?_
        refine o_assign (AV.lit (.string (({data := #[]} : ByteArray)))) Gd.none rfl ?_
        refine o_assign (AV.lit (.string (({data := #[]} : ByteArray)))) Gd.none rfl ?_
        refine o_assign (nm .i64 (2)) Gd.none rfl ?_
        refine aops_end ?_
        refine hK6 _ ?_
        refine awp_ret ?_
        refine post_ret ⟨[(AV.lit (.string (({data := #[]} : ByteArray)))), (AV.lit (.string (({data := #[]} : ByteArray)))), (nm .i64 (2))], And.intro (AV.le_refl _) (And.intro (AV.le_refl _) (And.intro (AV.le_refl _) (trivial))), rfl, ?_⟩
        have e := rest_2 (m := m) (w := w) hm' (fun e => h3 e.2)
        exact tup_eq3 (str_as e.2.1) (str_as e.2.2) (congrArg (nm _) e.1)
      · have hF : freeM m := Decidable.not_not.1 h3
        refine awp_skip ?_
        refine hK1 _ ?_
        refine awp_seq fun K7 hK7 => ?_
        refine awp_region rfl ?_
        refine o_call [(nm .i64 (0))] (intW ((0 : Int))) Gd.none Xb_tC59 rfl (c_wOf ((0 : Int)) (by first | decide | omega) (by first | decide | omega)) ?_
        refine o_call [(nm .i64 (1))] (intW ((1 : Int))) Gd.none Xb_tC59 rfl (c_wOf ((1 : Int)) (by first | decide | omega) (by first | decide | omega)) ?_
        refine o_alloc 3 [(AV.lit (.bool false)), (AV.lit (.slice none 0 0))] Gd.none Xb_tO79 rfl rfl rfl ?_
        refine o_alloc 4 [(AV.lit (.bool false)), (AV.lit (.slice none 0 0))] Gd.none Xb_tO79 rfl rfl rfl ?_
        refine o_store [(4, (AO.var 79 [(AV.lit (.bool false)), (AV.lit (.slice none 0 0))])), (3, (oZ 79 .u32 ((0 : Int)))), (2, (oM 24 m))] Gd.none Xb_tZ79 rfl rfl rfl rfl rfl rfl ?_
        refine o_store [(4, (oZ 79 .u32 ((1 : Int)))), (3, (oZ 79 .u32 ((0 : Int)))), (2, (oM 24 m))] Gd.none Xb_tZ79 rfl rfl rfl rfl rfl rfl ?_
        refine aops_end ?_
        refine hK7 _ ?_
        refine awp_seq fun K8 hK8 => ?_
        refine awp_seq fun K9 hK9 => ?_
        refine awp_region rfl ?_
        refine o_move (AV.sl 1 (is .i64 (w))) Gd.none rfl ?_
        refine i_len (w) Gd.none Xb_tU22 rfl ?_
        refine o_move (nm .i64 (0)) Gd.none rfl ?_
        refine aops_end ?_
        refine hK9 _ ?_
        refine awp_block ?_
        refine awp_loopR (fun κ σ => ∃ (i : Nat), ∃ (R : Int), (i ≤ w.length) ∧ (R = (restZ m (w.take i)).1) ∧ ((digs R.natAbs).length ≤ 13 * i + 4) ∧ (w.length - i) = κ ∧ σ = ⟨[(1, (AV.sl 1 (is .i64 (w)))), (2, (AV.ref 2 (0))), (7, (AV.ref 3 (0))), (8, (AV.ref 4 (0))), (32, (AV.sl 1 (is .i64 (w)))), (33, (nm .i64 ((w).length))), (34, (nm .i64 (i)))], [(2, (oM 24 m)), (3, (oZ 79 .u32 (R))), (4, (oZ 79 .u32 ((m.mod ^ i))))]⟩) ⟨_, _, ⟨0, 0, (by omega), rfl, (by simp [digs_zero]), rfl, rfl⟩, ?wk0⟩ ?rd0
        case wk0 =>
          exact Wk.sub (And.intro rfl (And.intro rfl (And.intro rfl (And.intro rfl (And.intro rfl (And.intro rfl (And.intro (by first | rfl | exact congrArg (nm _) (by omega) | exact nm_int (by omega) | exact nm_int (by simp [IntKind.wrap, IntKind.bits, IntKind.signed]; omega)) (trivial)))))))) (And.intro (by first | rfl | (simp only [Int.pow_zero, Int.pow_succ]; rfl)) (And.intro (by first | rfl | (simp only [Int.pow_zero, Int.pow_succ]; rfl)) (And.intro (by first | rfl | (simp only [Int.pow_zero, Int.pow_succ]; rfl)) (trivial))))
        rintro κ _ ⟨i, R, hi, hR, hRl, rfl, rfl⟩
        obtain ⟨L1, L2, L3⟩ := line_len hM (w.take i) (isW_take hW.1 i)
        have L4 : (w.take i).length = i := by rw [List.length_take]; omega
        have L5 : (digs (m.mod ^ i).natAbs).length ≤ 3 * i + 3 := by have := lineZ_div m (w.take i); rw [L4] at this; rw [← this]; omega
        refine awp_seq fun K10 hK10 => ?_
        refine awp_region rfl ?_
        refine n_lss (i) ((w).length) Gd.none rfl rfl ?_
        refine aops_end ?_
        refine hK10 _ ?_
        refine awp_seq fun K11 hK11 => ?_
        refine awp_condQ (q := (i) < ((w).length)) rfl (fun h4 => ?_) (fun h4 => ?_)
        · have hwi := isW_get hW.1 h4
          have hd1 := small_len (z := m.mod) (by omega)
          obtain ⟨T, hT⟩ : ∃ T, T = lookT (lineZ m (w.take i)).mul m.mod (((lineZ m (w.take i)).mul * R + (lineZ m (w.take i)).add) / (lineZ m (w.take i)).div) (w.getD i 0) := ⟨_, rfl⟩
          obtain ⟨t1, t2, t3, t4⟩ := rest_step hM hF hW.1 h4 hR hT
          have hp1 := len_mulZ (lineZ m (w.take i)).mul R
          have hp2 := len_addZ ((lineZ m (w.take i)).mul * R) (lineZ m (w.take i)).add
          have hp3 : 0 < (lineZ m (w.take i)).div := by rw [lineZ_div]; exact Int.pow_pos (by omega)
          have hmd : ((m.mod.toNat : Nat) : Int) = m.mod := Int.toNat_of_nonneg (by omega)
          have hp5 := len_mulZ (m.mod ^ i) m.mod
          have hp4 := len_ediv ((lineZ m (w.take i)).mul * R + (lineZ m (w.take i)).add) hp3
          refine awp_skip ?_
          refine hK11 _ ?_
          refine awp_seq fun K12 hK12 => ?_
          refine awp_block ?_
          refine awp_seq fun K13 hK13 => ?_
          refine awp_region rfl ?_
          refine o_move (nm .i64 (i)) Gd.none rfl ?_
          refine i_index (w) (i) Gd.none Xb_tE22 rfl rfl (by omega) ?_
          refine i_loadI (w) (i) Gd.none Xb_tS3 rfl (by omega) ?_
          refine o_assign (nm .i64 (i)) Gd.none rfl ?_
          refine o_assign (AV.lit (.int .i64 ((w).getD (i) 0))) Gd.none rfl ?_
          refine aops_end ?_
          refine hK13 _ ?_
          refine awp_seq fun K14 hK14 => ?_
          refine awp_regionD rfl ?_
          refine o_loadA [(AV.lit (.int .i64 (m.mod))), (AV.sl 1 (is .i64 (m.mul))), (AV.sl 1 (is .i64 (m.add)))] Gd.none Xb_tA24 rfl rfl rfl rfl rfl ?_
          refine o_move (AV.sl 1 (is .i64 (w))) Gd.none rfl ?_
          refine o_move (nm .i64 (i)) Gd.none rfl ?_
          refine i_slice (w) (0) (i) Gd.none Xb_tE22 rfl rfl (hi_nm rfl) trivial (by omega) (by omega) ?_
          refine n_as (v' := (AV.sl 1 (is .i64 ((w).take (i))))) (by rfl) ?_
          refine o_call [(mapV m), (AV.sl 1 (is .i64 ((w).take (i))))] (linW (lineZ m ((w).take (i)))) Gd.none Xb_tC56 rfl (c_oOf m ((w).take (i)) (by first | assumption | exact okM_iff.1 (by assumption)) (by first | assumption | exact (by assumption : OkW _ _).1 | exact isW_take (by assumption : OkW _ _).1 _) (by first | omega | exact (by assumption : OkW _ _).2)) ?_
          refine o_alloc 101 [(AV.lit (.bool false)), (AV.lit (.slice none 0 0)), (AV.lit (.bool false)), (AV.lit (.slice none 0 0)), (AV.lit (.bool false)), (AV.lit (.slice none 0 0))] Gd.none Xb_tO89 rfl rfl rfl ?_
          refine o_store [(101, (AO.var 89 [(bp (((lineZ m ((w).take (i))).mul) < 0)), (AV.sl 1 (ns .u32 (digs ((lineZ m ((w).take (i))).mul).natAbs))), (bp (((lineZ m ((w).take (i))).add) < 0)), (AV.sl 1 (ns .u32 (digs ((lineZ m ((w).take (i))).add).natAbs))), (bp (((lineZ m ((w).take (i))).div) < 0)), (AV.sl 1 (ns .u32 (digs ((lineZ m ((w).take (i))).div).natAbs)))])), (2, (oM 24 m)), (3, (oZ 79 .u32 (R))), (4, (oZ 79 .u32 ((m.mod ^ i))))] Gd.none Xb_tZ89 rfl rfl rfl rfl rfl rfl ?_
          refine aops_end ⟨by kernel_rfl, ?_⟩
          refine hK14 _ ?_
          refine awp_seq fun K15 hK15 => ?_
          refine awp_regionD rfl ?_
          refine o_fieldRef 0 Gd.none Xb_tF89_0 rfl rfl ?_
          refine o_loadA [(bp (((lineZ m ((w).take (i))).mul) < 0)), (AV.sl 1 (ns .u32 (digs ((lineZ m ((w).take (i))).mul).natAbs)))] Gd.none Xb_tA79 rfl rfl rfl rfl rfl ?_
          refine o_loadA [(bp (R < 0)), (AV.sl 1 (ns .u32 (digs (R).natAbs)))] Gd.none Xb_tA79 rfl rfl rfl rfl rfl ?_
          refine o_call [(AV.agg [(bp (((lineZ m ((w).take (i))).mul) < 0)), (AV.sl 1 (ns .u32 (digs ((lineZ m ((w).take (i))).mul).natAbs)))]), (intW (R))] (intW ((((lineZ m ((w).take (i))).mul) * R))) Gd.none Xb_tC60 rfl (c_wMul (((lineZ m ((w).take (i))).mul)) (R) (by first | omega | assumption | (simp only [Int.natAbs_neg]; omega)) (by first | omega | assumption | (simp only [Int.natAbs_neg]; omega))) ?_
          refine o_fieldRef 2 Gd.none Xb_tF89_1 rfl rfl ?_
          refine o_loadA [(bp (((lineZ m ((w).take (i))).add) < 0)), (AV.sl 1 (ns .u32 (digs ((lineZ m ((w).take (i))).add).natAbs)))] Gd.none Xb_tA79 rfl rfl rfl rfl rfl ?_
          refine o_call [(intW ((((lineZ m ((w).take (i))).mul) * R))), (AV.agg [(bp (((lineZ m ((w).take (i))).add) < 0)), (AV.sl 1 (ns .u32 (digs ((lineZ m ((w).take (i))).add).natAbs)))])] (intW (((((lineZ m ((w).take (i))).mul) * R) + ((lineZ m ((w).take (i))).add)))) Gd.none Xb_tC61 rfl (c_wAdd ((((lineZ m ((w).take (i))).mul) * R)) (((lineZ m ((w).take (i))).add)) (by first | omega | assumption | (simp only [Int.natAbs_neg]; omega)) (by first | omega | assumption | (simp only [Int.natAbs_neg]; omega))) ?_
          refine o_fieldRef 4 Gd.none Xb_tF89_2 rfl rfl ?_
          refine o_loadA [(bp (((lineZ m ((w).take (i))).div) < 0)), (AV.sl 1 (ns .u32 (digs ((lineZ m ((w).take (i))).div).natAbs)))] Gd.none Xb_tA79 rfl rfl rfl rfl rfl ?_
          refine o_call [(intW (((((lineZ m ((w).take (i))).mul) * R) + ((lineZ m ((w).take (i))).add)))), (AV.agg [(bp (((lineZ m ((w).take (i))).div) < 0)), (AV.sl 1 (ns .u32 (digs ((lineZ m ((w).take (i))).div).natAbs)))])] (AV.tup [(intW ((((((lineZ m ((w).take (i))).mul) * R) + ((lineZ m ((w).take (i))).add)) / ((lineZ m ((w).take (i))).div)))), (intW ((((((lineZ m ((w).take (i))).mul) * R) + ((lineZ m ((w).take (i))).add)) % ((lineZ m ((w).take (i))).div))))]) Gd.none Xb_tC62 rfl (c_wDivide (((((lineZ m ((w).take (i))).mul) * R) + ((lineZ m ((w).take (i))).add))) (((lineZ m ((w).take (i))).div)) (by omega) (by omega) (by omega)) ?_
          refine o_move (AV.tup [(intW ((((((lineZ m ((w).take (i))).mul) * R) + ((lineZ m ((w).take (i))).add)) / ((lineZ m ((w).take (i))).div)))), (intW ((((((lineZ m ((w).take (i))).mul) * R) + ((lineZ m ((w).take (i))).add)) % ((lineZ m ((w).take (i))).div))))]) Gd.none rfl ?_
          refine o_extract (intW ((((((lineZ m ((w).take (i))).mul) * R) + ((lineZ m ((w).take (i))).add)) / ((lineZ m ((w).take (i))).div)))) Gd.none rfl rfl ?_
          refine o_extract (intW ((((((lineZ m ((w).take (i))).mul) * R) + ((lineZ m ((w).take (i))).add)) % ((lineZ m ((w).take (i))).div)))) Gd.none rfl rfl ?_
          refine o_alloc 102 [(AV.lit (.bool false)), (AV.lit (.slice none 0 0))] Gd.none Xb_tO79 rfl rfl rfl ?_
          refine o_alloc 103 [(AV.lit (.bool false)), (AV.lit (.slice none 0 0))] Gd.none Xb_tO79 rfl rfl rfl ?_
          refine o_store [(103, (AO.var 79 [(AV.lit (.bool false)), (AV.lit (.slice none 0 0))])), (102, (oZ 79 .u32 ((((((lineZ m ((w).take (i))).mul) * R) + ((lineZ m ((w).take (i))).add)) / ((lineZ m ((w).take (i))).div))))), (101, (AO.var 89 [(bp (((lineZ m ((w).take (i))).mul) < 0)), (AV.sl 1 (ns .u32 (digs ((lineZ m ((w).take (i))).mul).natAbs))), (bp (((lineZ m ((w).take (i))).add) < 0)), (AV.sl 1 (ns .u32 (digs ((lineZ m ((w).take (i))).add).natAbs))), (bp (((lineZ m ((w).take (i))).div) < 0)), (AV.sl 1 (ns .u32 (digs ((lineZ m ((w).take (i))).div).natAbs)))])), (2, (oM 24 m)), (3, (oZ 79 .u32 (R))), (4, (oZ 79 .u32 ((m.mod ^ i))))] Gd.none Xb_tZ79 rfl rfl rfl rfl rfl rfl ?_
          refine o_store [(103, (oZ 79 .u32 ((((((lineZ m ((w).take (i))).mul) * R) + ((lineZ m ((w).take (i))).add)) % ((lineZ m ((w).take (i))).div))))), (102, (oZ 79 .u32 ((((((lineZ m ((w).take (i))).mul) * R) + ((lineZ m ((w).take (i))).add)) / ((lineZ m ((w).take (i))).div))))), (101, (AO.var 89 [(bp (((lineZ m ((w).take (i))).mul) < 0)), (AV.sl 1 (ns .u32 (digs ((lineZ m ((w).take (i))).mul).natAbs))), (bp (((lineZ m ((w).take (i))).add) < 0)), (AV.sl 1 (ns .u32 (digs ((lineZ m ((w).take (i))).add).natAbs))), (bp (((lineZ m ((w).take (i))).div) < 0)), (AV.sl 1 (ns .u32 (digs ((lineZ m ((w).take (i))).div).natAbs)))])), (2, (oM 24 m)), (3, (oZ 79 .u32 (R))), (4, (oZ 79 .u32 ((m.mod ^ i))))] Gd.none Xb_tZ79 rfl rfl rfl rfl rfl rfl ?_
          refine aops_end ⟨by kernel_rfl, ?_⟩
          refine hK15 _ ?_
          refine awp_seq fun K16 hK16 => ?_
          refine awp_block ?_
          refine awp_loopR (fun κ σ => ∃ (t : Nat), ∃ (A : Int), ∃ (B : Int), (t ≤ T) ∧ (A = ((lineZ m (w.take i)).mul * R + (lineZ m (w.take i)).add) / (lineZ m (w.take i)).div + (t : Int) * (lineZ m (w.take i)).mul) ∧ (B = R + (t : Int) * m.mod ^ i) ∧ ((digs A.natAbs).length ≤ 10000 + t) ∧ ((digs B.natAbs).length ≤ 13 * i + 4 + t) ∧ (T - t) = κ ∧ σ = ⟨[(1, (AV.sl 1 (is .i64 (w)))), (2, (AV.ref 2 (0))), (7, (AV.ref 3 (0))), (8, (AV.ref 4 (0))), (10, (AV.lit (.int .i64 ((w).getD (i) 0)))), (11, (AV.ref 10 (0))), (12, (AV.ref 11 (0))), (32, (AV.sl 1 (is .i64 (w)))), (33, (nm .i64 ((w).length))), (34, (nm .i64 (i)))], [(2, (oM 24 m)), (3, (oZ 79 .u32 (B))), (4, (oZ 79 .u32 ((m.mod ^ i)))), (10, (AO.var 89 [(bp (((lineZ m ((w).take (i))).mul) < 0)), (AV.sl 1 (ns .u32 (digs ((lineZ m ((w).take (i))).mul).natAbs))), (bp (((lineZ m ((w).take (i))).add) < 0)), (AV.sl 1 (ns .u32 (digs ((lineZ m ((w).take (i))).add).natAbs))), (bp (((lineZ m ((w).take (i))).div) < 0)), (AV.sl 1 (ns .u32 (digs ((lineZ m ((w).take (i))).div).natAbs)))])), (11, (oZ 79 .u32 (A)))]⟩) ⟨_, _, ⟨0, ((((lineZ m ((w).take (i))).mul) * R + ((lineZ m ((w).take (i))).add)) / ((lineZ m ((w).take (i))).div)), R, (by omega), (by simp), (by simp), (by omega), (by omega), rfl, rfl⟩, ?wk1⟩ ?rd1
          case wk1 =>
            exact Wk.trans (Wk.sub (σ' := ⟨[(1, (AV.sl 1 (is .i64 (w)))), (2, (AV.ref 2 (0))), (7, (AV.ref 3 (0))), (8, (AV.ref 4 (0))), (10, (AV.lit (.int .i64 ((w).getD (i) 0)))), (11, (AV.ref 101 (0))), (12, (AV.ref 102 (0))), (32, (AV.sl 1 (is .i64 (w)))), (33, (nm .i64 ((w).length))), (34, (nm .i64 (i)))], [(2, (oM 24 m)), (3, (oZ 79 .u32 (R))), (4, (oZ 79 .u32 ((m.mod ^ i)))), (101, (AO.var 89 [(bp (((lineZ m ((w).take (i))).mul) < 0)), (AV.sl 1 (ns .u32 (digs ((lineZ m ((w).take (i))).mul).natAbs))), (bp (((lineZ m ((w).take (i))).add) < 0)), (AV.sl 1 (ns .u32 (digs ((lineZ m ((w).take (i))).add).natAbs))), (bp (((lineZ m ((w).take (i))).div) < 0)), (AV.sl 1 (ns .u32 (digs ((lineZ m ((w).take (i))).div).natAbs)))])), (102, (oZ 79 .u32 ((((((lineZ m ((w).take (i))).mul) * R) + ((lineZ m ((w).take (i))).add)) / ((lineZ m ((w).take (i))).div)))))]⟩) (And.intro rfl (And.intro rfl (And.intro rfl (And.intro rfl (And.intro rfl (And.intro rfl (And.intro rfl (And.intro rfl (And.intro rfl (And.intro rfl (trivial))))))))))) (And.intro rfl (And.intro rfl (And.intro rfl (And.intro rfl (And.intro rfl (trivial))))))) (Wk.trans (Wk.ren (id := 101) (id' := 10) rfl) (Wk.trans (Wk.ren (id := 102) (id' := 11) rfl) (Wk.sub (And.intro rfl (And.intro rfl (And.intro rfl (And.intro rfl (And.intro rfl (And.intro (by first | rfl | (simp)) (And.intro (by first | rfl | (simp)) (And.intro rfl (And.intro rfl (And.intro rfl (trivial))))))))))) (And.intro rfl (And.intro (by first | rfl | (simp only [Int.pow_zero, Int.pow_succ]; rfl)) (And.intro rfl (And.intro (by first | rfl | (simp only [Int.pow_zero, Int.pow_succ]; rfl)) (And.intro (by first | rfl | (simp only [Int.pow_zero, Int.pow_succ]; rfl)) (trivial)))))))))
          rintro κ _ ⟨t, A, B, ht, hA, hB, hAl, hBl, rfl, rfl⟩
          refine awp_block ?_
          refine awp_seq fun K17 hK17 => ?_
          refine awp_seq fun K18 hK18 => ?_
          refine awp_region rfl ?_
          refine o_loadA [(bp (A < 0)), (AV.sl 1 (ns .u32 (digs (A).natAbs)))] Gd.none Xb_tA79 rfl rfl rfl rfl rfl ?_
          refine o_fieldRef 0 Gd.none Xb_tF24_0 rfl rfl ?_
          refine o_loadS (AV.lit (.int .i64 (m.mod))) Gd.none Xb_tS3 rfl rfl rfl ?_
          refine n_as (v' := (nm .i64 (m.mod.toNat))) (nm_int (by omega)) ?_
          refine o_call [(intW (A)), (nm .i64 (m.mod.toNat))] (AV.tup [(intW ((A / ((m.mod.toNat : Nat) : Int)))), (AV.lit (.int .i64 (A % ((m.mod.toNat : Nat) : Int))))]) Gd.none Xb_tC63 rfl (c_wQR (A) (m.mod.toNat) (by omega) (by omega) (by first | omega | assumption | (simp only [Int.natAbs_neg]; omega))) ?_
          refine o_move (AV.tup [(intW ((A / ((m.mod.toNat : Nat) : Int)))), (AV.lit (.int .i64 (A % ((m.mod.toNat : Nat) : Int))))]) Gd.none rfl ?_
          refine o_extract (intW ((A / ((m.mod.toNat : Nat) : Int)))) Gd.none rfl rfl ?_
          refine o_extract (AV.lit (.int .i64 (A % ((m.mod.toNat : Nat) : Int)))) Gd.none rfl rfl ?_
          refine o_alloc 201 [(AV.lit (.bool false)), (AV.lit (.slice none 0 0))] Gd.none Xb_tO79 rfl rfl rfl ?_
          refine o_store [(201, (oZ 79 .u32 ((A / ((m.mod.toNat : Nat) : Int))))), (2, (oM 24 m)), (3, (oZ 79 .u32 (B))), (4, (oZ 79 .u32 ((m.mod ^ i)))), (10, (AO.var 89 [(bp (((lineZ m ((w).take (i))).mul) < 0)), (AV.sl 1 (ns .u32 (digs ((lineZ m ((w).take (i))).mul).natAbs))), (bp (((lineZ m ((w).take (i))).add) < 0)), (AV.sl 1 (ns .u32 (digs ((lineZ m ((w).take (i))).add).natAbs))), (bp (((lineZ m ((w).take (i))).div) < 0)), (AV.sl 1 (ns .u32 (digs ((lineZ m ((w).take (i))).div).natAbs)))])), (11, (oZ 79 .u32 (A)))] Gd.none Xb_tZ79 rfl rfl rfl rfl rfl rfl ?_
          refine o_assign (AV.lit (.int .i64 (A % ((m.mod.toNat : Nat) : Int)))) Gd.none rfl ?_
          refine aops_end ?_
          refine hK18 _ ?_
          refine awp_seq fun K19 hK19 => ?_
          refine awp_region rfl ?_
          refine o_move (AV.lit (.int .i64 (A % ((m.mod.toNat : Nat) : Int)))) Gd.none rfl ?_
          refine o_move (AV.lit (.int .i64 ((w).getD (i) 0))) Gd.none rfl ?_
          refine o_eql (a := (A % ((m.mod.toNat : Nat) : Int))) (c := ((w).getD (i) 0)) Gd.none rfl rfl ?_
          refine aops_end ?_
          refine hK19 _ ?_
          refine awp_condQ (q := (A % ((m.mod.toNat : Nat) : Int)) = ((w).getD (i) 0)) rfl (fun h5 => ?_) (fun h5 => ?_)
          · have h5' := h5
            rw [hmd, hA] at h5'
            have htT : t = T := by rcases Nat.lt_or_ge t T with e | e; exact absurd h5' (t3 t e); omega
            have hq4 : R + (t : Int) * m.mod ^ i = (restZ m (w.take (i + 1))).1 := by rw [htT]; exact t4
            refine awp_exit ?_
            refine hK16 _ ?_
            refine awp_regionD rfl ?_
            refine o_loadA [(bp ((m.mod ^ i) < 0)), (AV.sl 1 (ns .u32 (digs ((m.mod ^ i)).natAbs)))] Gd.none Xb_tA79 rfl rfl rfl rfl rfl ?_
            refine o_fieldRef 0 Gd.none Xb_tF24_0 rfl rfl ?_
            refine o_loadS (AV.lit (.int .i64 (m.mod))) Gd.none Xb_tS3 rfl rfl rfl ?_
            refine o_call [(AV.lit (.int .i64 (m.mod)))] (intW ((m.mod))) Gd.none Xb_tC59 rfl (c_wOf (m.mod) (by first | decide | omega) (by first | decide | omega)) ?_
            refine o_call [(intW ((m.mod ^ i))), (intW ((m.mod)))] (intW (((m.mod ^ i) * (m.mod)))) Gd.none Xb_tC60 rfl (c_wMul ((m.mod ^ i)) ((m.mod)) (by first | omega | assumption | (simp only [Int.natAbs_neg]; omega)) (by first | omega | assumption | (simp only [Int.natAbs_neg]; omega))) ?_
            refine o_store [(201, (oZ 79 .u32 ((A / ((m.mod.toNat : Nat) : Int))))), (2, (oM 24 m)), (3, (oZ 79 .u32 (B))), (4, (oZ 79 .u32 (((m.mod ^ i) * (m.mod))))), (10, (AO.var 89 [(bp (((lineZ m ((w).take (i))).mul) < 0)), (AV.sl 1 (ns .u32 (digs ((lineZ m ((w).take (i))).mul).natAbs))), (bp (((lineZ m ((w).take (i))).add) < 0)), (AV.sl 1 (ns .u32 (digs ((lineZ m ((w).take (i))).add).natAbs))), (bp (((lineZ m ((w).take (i))).div) < 0)), (AV.sl 1 (ns .u32 (digs ((lineZ m ((w).take (i))).div).natAbs)))])), (11, (oZ 79 .u32 (A)))] Gd.none Xb_tZ79 rfl rfl rfl rfl rfl rfl ?_
            refine aops_end ⟨by kernel_rfl, ?_⟩
            refine hK12 _ ?_
            refine awp_region rfl ?_
            refine n_add (i) (1) Gd.none rfl rfl (by simp only [topOf]; omega) ?_
            refine o_move (nm .i64 ((i) + (1))) Gd.none rfl ?_
            refine aops_end ?_
            refine ⟨_, _, ?lt, ⟨i + 1, B, (by omega), (hB.trans hq4), (by omega), rfl, rfl⟩, ?wk⟩
            case lt => omega
            case wk => exact Wk.sub (And.intro rfl (And.intro rfl (And.intro rfl (And.intro rfl (And.intro rfl (And.intro rfl (And.intro (by first | rfl | exact congrArg (nm _) (by omega) | exact nm_int (by omega) | exact nm_int (by simp [IntKind.wrap, IntKind.bits, IntKind.signed]; omega)) (trivial)))))))) (And.intro rfl (And.intro (by first | rfl | (simp only [Int.pow_zero, Int.pow_succ]; rfl)) (And.intro (by first | rfl | (simp only [Int.pow_zero, Int.pow_succ]; rfl)) (trivial))))
          · have htT : t < T := by rcases Nat.lt_or_ge t T with e | e; exact e; exact absurd (by rw [hmd, hA, show t = T by omega]; exact t2) h5
            have hz1 := len_addZ A (lineZ m (w.take i)).mul
            have hz2 := len_addZ B (m.mod ^ i)
            refine awp_skip ?_
            refine hK17 _ ?_
            refine awp_regionD rfl ?_
            refine o_loadA [(bp (B < 0)), (AV.sl 1 (ns .u32 (digs (B).natAbs)))] Gd.none Xb_tA79 rfl rfl rfl rfl rfl ?_
            refine o_loadA [(bp ((m.mod ^ i) < 0)), (AV.sl 1 (ns .u32 (digs ((m.mod ^ i)).natAbs)))] Gd.none Xb_tA79 rfl rfl rfl rfl rfl ?_
            refine o_call [(intW (B)), (intW ((m.mod ^ i)))] (intW ((B + (m.mod ^ i)))) Gd.none Xb_tC61 rfl (c_wAdd (B) ((m.mod ^ i)) (by first | omega | assumption | (simp only [Int.natAbs_neg]; omega)) (by first | omega | assumption | (simp only [Int.natAbs_neg]; omega))) ?_
            refine o_loadA [(bp (A < 0)), (AV.sl 1 (ns .u32 (digs (A).natAbs)))] Gd.none Xb_tA79 rfl rfl rfl rfl rfl ?_
            refine o_fieldRef 0 Gd.none Xb_tF89_0 rfl rfl ?_
            refine o_loadA [(bp (((lineZ m ((w).take (i))).mul) < 0)), (AV.sl 1 (ns .u32 (digs ((lineZ m ((w).take (i))).mul).natAbs)))] Gd.none Xb_tA79 rfl rfl rfl rfl rfl ?_
            refine o_call [(intW (A)), (AV.agg [(bp (((lineZ m ((w).take (i))).mul) < 0)), (AV.sl 1 (ns .u32 (digs ((lineZ m ((w).take (i))).mul).natAbs)))])] (intW ((A + ((lineZ m ((w).take (i))).mul)))) Gd.none Xb_tC61 rfl (c_wAdd (A) (((lineZ m ((w).take (i))).mul)) (by first | omega | assumption | (simp only [Int.natAbs_neg]; omega)) (by first | omega | assumption | (simp only [Int.natAbs_neg]; omega))) ?_
            refine o_store [(201, (oZ 79 .u32 ((A / ((m.mod.toNat : Nat) : Int))))), (2, (oM 24 m)), (3, (oZ 79 .u32 ((B + (m.mod ^ i))))), (4, (oZ 79 .u32 ((m.mod ^ i)))), (10, (AO.var 89 [(bp (((lineZ m ((w).take (i))).mul) < 0)), (AV.sl 1 (ns .u32 (digs ((lineZ m ((w).take (i))).mul).natAbs))), (bp (((lineZ m ((w).take (i))).add) < 0)), (AV.sl 1 (ns .u32 (digs ((lineZ m ((w).take (i))).add).natAbs))), (bp (((lineZ m ((w).take (i))).div) < 0)), (AV.sl 1 (ns .u32 (digs ((lineZ m ((w).take (i))).div).natAbs)))])), (11, (oZ 79 .u32 (A)))] Gd.none Xb_tZ79 rfl rfl rfl rfl rfl rfl ?_
            refine o_store [(201, (oZ 79 .u32 ((A / ((m.mod.toNat : Nat) : Int))))), (2, (oM 24 m)), (3, (oZ 79 .u32 ((B + (m.mod ^ i))))), (4, (oZ 79 .u32 ((m.mod ^ i)))), (10, (AO.var 89 [(bp (((lineZ m ((w).take (i))).mul) < 0)), (AV.sl 1 (ns .u32 (digs ((lineZ m ((w).take (i))).mul).natAbs))), (bp (((lineZ m ((w).take (i))).add) < 0)), (AV.sl 1 (ns .u32 (digs ((lineZ m ((w).take (i))).add).natAbs))), (bp (((lineZ m ((w).take (i))).div) < 0)), (AV.sl 1 (ns .u32 (digs ((lineZ m ((w).take (i))).div).natAbs)))])), (11, (oZ 79 .u32 ((A + ((lineZ m ((w).take (i))).mul)))))] Gd.none Xb_tZ79 rfl rfl rfl rfl rfl rfl ?_
            refine aops_end ⟨by kernel_rfl, ?_⟩
            refine ⟨_, _, ?lt, ⟨t + 1, (A + (lineZ m ((w).take (i))).mul), (B + (m.mod ^ i)), (by omega), (by rw [hA, Int.natCast_add, Int.add_mul, Int.natCast_one, Int.one_mul]; omega), (by rw [hB, Int.natCast_add, Int.add_mul, Int.natCast_one, Int.one_mul]; omega), (by omega), (by omega), rfl, rfl⟩, ?wk⟩
            case lt => omega
            case wk => exact Wk.sub (And.intro rfl (And.intro rfl (And.intro rfl (And.intro rfl (And.intro rfl (And.intro rfl (And.intro rfl (And.intro rfl (And.intro rfl (And.intro rfl (trivial))))))))))) (And.intro rfl (And.intro (by first | rfl | (simp only [Int.pow_zero, Int.pow_succ]; rfl)) (And.intro rfl (And.intro rfl (And.intro (by first | rfl | (simp only [Int.pow_zero, Int.pow_succ]; rfl)) (trivial))))))
        · refine awp_exit ?_
          refine hK8 _ ?_
          refine awp_seq fun K20 hK20 => ?_
          refine awp_regionD rfl ?_
          refine o_loadA [(bp (R < 0)), (AV.sl 1 (ns .u32 (digs (R).natAbs)))] Gd.none Xb_tA79 rfl rfl rfl rfl rfl ?_
          refine o_call [(intW (R))] (AV.lit (.string (txt (R)))) Gd.none Xb_tC64 rfl (c_wText (R) (by first | omega | assumption | (simp only [Int.natAbs_neg]; omega))) ?_
          refine o_loadA [(bp ((m.mod ^ i) < 0)), (AV.sl 1 (ns .u32 (digs ((m.mod ^ i)).natAbs)))] Gd.none Xb_tA79 rfl rfl rfl rfl rfl ?_
          refine o_call [(intW ((m.mod ^ i)))] (AV.lit (.string (txt ((m.mod ^ i))))) Gd.none Xb_tC64 rfl (c_wText ((m.mod ^ i)) (by first | omega | assumption | (simp only [Int.natAbs_neg]; omega))) ?_
          refine o_assign (AV.lit (.string (txt (R)))) Gd.none rfl ?_
          refine o_assign (AV.lit (.string (txt ((m.mod ^ i))))) Gd.none rfl ?_
          refine o_assign (nm .i64 (0)) Gd.none rfl ?_
          refine aops_end ⟨by kernel_rfl, ?_⟩
          refine hK20 _ ?_
          refine awp_ret ?_
          refine post_ret ⟨[(AV.lit (.string (txt (R)))), (AV.lit (.string (txt ((m.mod ^ i))))), (nm .i64 (0))], And.intro (AV.le_refl _) (And.intro (AV.le_refl _) (And.intro (AV.le_refl _) (trivial))), rfl, ?_⟩
          have e := rest_0 (m := m) (w := w) hm' ⟨hW, hF⟩; rw [show w.take i = w from List.take_of_length_le (by omega)] at hR; rw [← hR, show w.length = i by omega] at e
          exact tup_eq3 (str_as e.2.1) (str_as e.2.2) (congrArg (nm _) e.1)

end Go.Proofs.YtbilndahjkimkaaDoor

set_option linter.unusedVariables false
set_option linter.unusedSimpArgs false
namespace Go.Ab
theorem Wk.cells {C : Ctx} {n : Nat} {σ : St} {i ty : Nat} {cs cs' : List AV} (hs : lookO σ.objs i = some (.var ty cs)) (hl : LeL cs cs') : Wk C n σ ⟨σ.slots, (i, .var ty cs') :: σ.objs⟩ := fun w0 H L a w hr => by
  have conv : ∀ j o, lookO ((i, .var ty cs') :: σ.objs) j = some o → (j = i ∧ o = .var ty cs') ∨ (j ≠ i ∧ σ.sem.μ j = some o) := fun j o ho => by
    simp only [lookO] at ho
    by_cases h2 : j = i
    · subst h2
      simp at ho
      exact .inl ⟨rfl, ho.symm⟩
    · rw [beq_ne (fun e => h2 e.symm)] at ho
      exact .inr ⟨h2, ho⟩
  have hi0 := hr.objs i (.var ty cs) hs
  refine ⟨H, L, Ext.refl _ _, ⟨hr.glob, hr.heap, hr.size, hr.slot, fun j o ho => ?_, fun j k o o' g x x' hjk hj hk => ?_, hr.below, hr.defers⟩⟩
  · rcases conv j o ho with ⟨rfl, rfl⟩ | ⟨h1, h2⟩
    · obtain ⟨g, vs, a1, a2, a3, a4, a5, a6⟩ := hi0
      exact ⟨g, vs, a1, a2, hl.rep a3, a4, a5, a6⟩
    · exact hr.objs j o h2
  · have conv' : ∀ j o, lookO ((i, .var ty cs') :: σ.objs) j = some o → ∃ o', σ.sem.μ j = some o' := fun j o ho => by
      rcases conv j o ho with ⟨rfl, rfl⟩ | ⟨h1, h2⟩
      · exact ⟨_, hs⟩
      · exact ⟨_, h2⟩
    obtain ⟨o1, h1⟩ := conv' j o hj
    obtain ⟨o2, h2⟩ := conv' k o' hk
    exact hr.apart j k o1 o2 g x x' hjk h1 h2
end Go.Ab
namespace Go.Mth
open Go.Ab
def gC (a b : Nat) : Prop := ((digs a).getD ((digs a).length - 1) 0) ≤ ((digs b).getD ((digs b).length - 1) 0) ∧ 0 < (digs a).length - (digs b).length
instance (a b : Nat) : Decidable (gC a b) := inferInstanceAs (Decidable ((digs a).getD ((digs a).length - 1) 0 ≤ ((digs b).getD ((digs b).length - 1) 0) ∧ 0 < (digs a).length - (digs b).length))
def gSh (a b : Nat) : Nat := if gC a b then (digs a).length - (digs b).length - 1 else (digs a).length - (digs b).length
def gTop (a b : Nat) : Nat := if gC a b then ((digs a).getD ((digs a).length - 1) 0) * 1000000000 + (digs a).getD ((digs a).length - 2) 0 else ((digs a).getD ((digs a).length - 1) 0)
def gQ (a b : Nat) : Nat := max (gTop a b / ((digs b).getD ((digs b).length - 1) 0 + 1)) 1
def guessN (a b : Nat) : Nat := 1000000000 ^ gSh a b * gQ a b
theorem top_lo {a : Nat} (h : 0 < (digs a).length) : ((digs a).getD ((digs a).length - 1) 0) * 1000000000 ^ ((digs a).length - 1) ≤ a := by
  have h1 := val_split (digs a) (j := (digs a).length - 1) (by omega)
  have h2 := val_drop_succ (xs := digs a) (j := (digs a).length - 1) (by omega)
  rw [val_drop_all (xs := digs a) (j := (digs a).length - 1 + 1) (by omega), Nat.mul_zero, Nat.add_zero] at h2
  rw [val_digs, h2] at h1
  rw [Nat.mul_comm]
  omega
theorem top_hi {a : Nat} (h : 0 < (digs a).length) : a < ((digs a).getD ((digs a).length - 1) 0 + 1) * 1000000000 ^ ((digs a).length - 1) := by
  have h1 := val_split (digs a) (j := (digs a).length - 1) (by omega)
  have h2 := val_drop_succ (xs := digs a) (j := (digs a).length - 1) (by omega)
  rw [val_drop_all (xs := digs a) (j := (digs a).length - 1 + 1) (by omega), Nat.mul_zero, Nat.add_zero] at h2
  rw [val_digs, h2] at h1
  have h3 := val_lt ((digs_dig a).take ((digs a).length - 1))
  rw [List.length_take, Nat.min_eq_left (by omega)] at h3
  rw [Nat.add_mul, Nat.one_mul, Nat.mul_comm]
  omega
theorem top2_lo {a : Nat} (h : 2 ≤ (digs a).length) : ((digs a).getD ((digs a).length - 1) 0 * 1000000000 + (digs a).getD ((digs a).length - 2) 0) * 1000000000 ^ ((digs a).length - 2) ≤ a := by
  have h1 := val_split (digs a) (j := (digs a).length - 2) (by omega)
  have h2 := val_drop_succ (xs := digs a) (j := (digs a).length - 1) (by omega)
  rw [val_drop_all (xs := digs a) (j := (digs a).length - 1 + 1) (by omega), Nat.mul_zero, Nat.add_zero] at h2
  have h3 := val_drop_succ (xs := digs a) (j := (digs a).length - 2) (by omega)
  rw [show (digs a).length - 2 + 1 = (digs a).length - 1 by omega, h2] at h3
  rw [val_digs, h3] at h1
  rw [Nat.mul_comm, Nat.add_comm (_ * _), Nat.mul_comm ((digs a).getD ((digs a).length - 1) 0)]
  omega
theorem top_pos {a : Nat} (h : 0 < (digs a).length) : 0 < ((digs a).getD ((digs a).length - 1) 0) := by
  have h1 := val_drop_pos (n := a) (j := (digs a).length - 1) (by omega)
  have h2 := val_drop_succ (xs := digs a) (j := (digs a).length - 1) (by omega)
  rw [val_drop_all (xs := digs a) (j := (digs a).length - 1 + 1) (by omega), Nat.mul_zero, Nat.add_zero] at h2
  omega
theorem digs_pos_len {a : Nat} (h : 0 < a) : 0 < (digs a).length := by
  rcases Nat.eq_zero_or_pos ((digs a).length) with e | e
  · have := digs_len_zero.1 e; omega
  · exact e
theorem guess_le {a b : Nat} (hb : 0 < b) (hab : b ≤ a) : 1 ≤ guessN a b ∧ guessN a b * b ≤ a := by
  have hlb := digs_pos_len hb
  have hla := digs_pos_len (show 0 < a by omega)
  have hll : (digs b).length ≤ (digs a).length := digs_len_le hab
  have hq1 : 1 ≤ gQ a b := Nat.le_max_right _ _
  have hbh := top_hi hlb
  refine ⟨?_, ?_⟩
  · have := Nat.mul_le_mul (show 1 ≤ 1000000000 ^ gSh a b from Nat.pow_pos (by decide)) hq1
    unfold guessN; omega
  · have htop : gTop a b * 1000000000 ^ (gSh a b + ((digs b).length - 1)) ≤ a := by
      unfold gTop gSh
      split
      · rename_i h
        have := h.2
        rw [show (digs a).length - (digs b).length - 1 + ((digs b).length - 1) = (digs a).length - 2 by omega]
        exact top2_lo (by omega)
      · rw [show (digs a).length - (digs b).length + ((digs b).length - 1) = (digs a).length - 1 by omega]
        exact top_lo hla
    by_cases hc : ((digs b).getD ((digs b).length - 1) 0) + 1 ≤ gTop a b
    · have hq : gQ a b * ((digs b).getD ((digs b).length - 1) 0 + 1) ≤ gTop a b := by
        have h1 : 1 ≤ gTop a b / ((digs b).getD ((digs b).length - 1) 0 + 1) := Nat.div_pos hc (by omega)
        have h2 : gQ a b = gTop a b / ((digs b).getD ((digs b).length - 1) 0 + 1) := Nat.max_eq_left h1
        rw [h2]; exact Nat.div_mul_le_self _ _
      refine Nat.le_trans ?_ htop
      unfold guessN
      calc 1000000000 ^ gSh a b * gQ a b * b ≤ 1000000000 ^ gSh a b * gQ a b * (((digs b).getD ((digs b).length - 1) 0 + 1) * 1000000000 ^ ((digs b).length - 1)) := Nat.mul_le_mul_left _ (Nat.le_of_lt hbh)
        _ = (gQ a b * ((digs b).getD ((digs b).length - 1) 0 + 1)) * 1000000000 ^ (gSh a b + ((digs b).length - 1)) := by
          rw [Nat.pow_add, Nat.mul_comm (1000000000 ^ gSh a b) (gQ a b), Nat.mul_assoc, Nat.mul_assoc, Nat.mul_left_comm (1000000000 ^ gSh a b)]
        _ ≤ gTop a b * 1000000000 ^ (gSh a b + ((digs b).length - 1)) := Nat.mul_le_mul_right _ hq
    · have hnc : ¬ gC a b := fun h => by
        have ht : gTop a b = ((digs a).getD ((digs a).length - 1) 0) * 1000000000 + (digs a).getD ((digs a).length - 2) 0 := if_pos h
        have := top_pos hla
        have hbt := Dig.getD (digs_dig b) ((digs b).length - 1)
        omega
      have ht : gTop a b = ((digs a).getD ((digs a).length - 1) 0) := if_neg hnc
      have hsh : gSh a b = 0 := by
        unfold gSh
        rw [if_neg hnc]
        rcases Nat.eq_zero_or_pos ((digs a).length - (digs b).length) with e | e
        · exact e
        · exact absurd ⟨by omega, e⟩ hnc
      have hq : gQ a b = 1 := by
        unfold gQ
        rw [Nat.div_eq_of_lt (by omega)]
        rfl
      unfold guessN
      rw [hsh, hq]
      omega
theorem app_step {r L : List Nat} {x : Nat} (h : r ++ digs x = L) (hx : 0 < x) : (r ++ [x % 1000000000]) ++ digs (x / 1000000000) = L := by
  rw [← h, digs_pos hx]; simp
theorem app_end {r L : List Nat} {x : Nat} (h : r ++ digs x = L) (hx : ¬ 0 < x) : r = L := by
  rw [show x = 0 by omega, digs_zero, List.append_nil] at h; exact h
theorem val_guess (sh q : Nat) : val (List.replicate sh 0 ++ digs q) = 1000000000 ^ sh * q := by
  rw [val_app, val_repl, val_digs, List.length_replicate]; omega
theorem div_inv {X q g Y r : Nat} (hv : X = q * Y + r) (h : g * Y ≤ r) : X = (q + g) * Y + (r - g * Y) := by rw [Nat.add_mul]; omega
theorem div_fin {X q Y r : Nat} (hv : X = q * Y + r) (h : r < Y) : q = X / Y ∧ r = X % Y := by
  subst hv
  constructor
  · rw [Nat.mul_comm, Nat.mul_add_div (by omega), Nat.div_eq_of_lt h]; rfl
  · rw [Nat.mul_comm, Nat.mul_add_mod, Nat.mod_eq_of_lt h]
theorem absR (x : Int) : AV.agg [AV.lit (.bool false), .sl 1 (ns .i64 (digs x.natAbs))] = intR ((x.natAbs : Nat) : Int) :=
  intK_eq (bl_bp (b := false) ⟨fun h => (by cases h), fun h => (by omega)⟩) rfl
theorem sgn_zero {n : Nat} : sgn ((n : Nat) : Int) = 0 ↔ n = 0 := by unfold sgn; repeat' split <;> omega
theorem cmpZ_nn {y : Int} {r : Nat} (hy : 0 < y) : 0 ≤ cmpZ ((r : Nat) : Int) y ↔ y.natAbs ≤ r := by unfold cmpZ; repeat' split <;> omega
theorem sub_cast {g r : Nat} {y : Int} (h : g * y.natAbs ≤ r) (hy : 0 < y) : ((r : Nat) : Int) - ((g : Nat) : Int) * y = ((r - g * y.natAbs : Nat) : Int) := by
  rw [Int.natCast_sub h, Int.natCast_mul, show ((y.natAbs : Nat) : Int) = y by omega]
theorem len_gy {g r : Nat} {y : Int} (h : g * y.natAbs ≤ r) : (digs (((g : Nat) : Int) * y).natAbs).length ≤ (digs r).length := by
  rw [Int.natAbs_mul]
  exact digs_len_le h
end Go.Mth

set_option linter.unusedVariables false
set_option linter.unusedSimpArgs false
namespace Go.Proofs.YtbilndahjkimkaaDoor
open Go Go.Ab Go.Mth
theorem Wx_tO36 : tyZero cx.P 36 = some [(Go.Value.bool false), (Go.Value.slice none 0 0)] := by kernel_rfl
theorem Wx_tF36_1 : tyField cx.P 36 1 = some (1, 22) := by kernel_rfl
theorem Wx_tS22 : tySc cx.P 22 = true := by kernel_rfl
theorem Wx_tU22 : cx.P.underlying 22 = some (.slice 3) := by kernel_rfl
theorem Wx_tE22 : tyElem cx.P 22 = some (3, 1, 8) := by kernel_rfl
theorem Wx_tS3 : tySc cx.P 3 = true := by kernel_rfl
theorem Wx_tO3 : tyZero cx.P 3 = some [(Go.Value.int IntKind.i64 0)] := by kernel_rfl
theorem Wx_tC54 : callable cx.P 54 = true := by kernel_rfl
theorem Wx_tZ36 : tySize cx.P 36 = some 2 := by kernel_rfl
theorem Wx_tA36 : tyAgg cx.P 36 = some 2 := by kernel_rfl
theorem Wx_tP36 : tyPlaces cx.P 36 = some (fun i => (#[(0, 1), (1, 1)] : Array (Nat × Nat))[i]?) := by kernel_rfl
theorem Wx_tC33 : callable cx.P 33 = true := by kernel_rfl
theorem Wx_tC70 : callable cx.P 70 = true := by kernel_rfl
theorem Wx_tC34 : callable cx.P 34 = true := by kernel_rfl
theorem Wx_tC37 : callable cx.P 37 = true := by kernel_rfl
theorem Wx_tC35 : callable cx.P 35 = true := by kernel_rfl
theorem Wx_tF36_0 : tyField cx.P 36 0 = some (0, 4) := by kernel_rfl
theorem Wx_tS4 : tySc cx.P 4 = true := by kernel_rfl
theorem Wx_tC29 : callable cx.P 29 = true := by kernel_rfl
theorem Wx_tC71 : callable cx.P 71 = true := by kernel_rfl
theorem Wx_tC38 : callable cx.P 38 = true := by kernel_rfl
theorem c_rGuess (x y : Int) (hy : 0 < y.natAbs) (hxy : y.natAbs ≤ x.natAbs) (hx : (digs x.natAbs).length ≤ 1000000000) : ECalls cx 70 [(intR (x)), (intR (y))] (intR ((guessN x.natAbs y.natAbs : Nat) : Int)) := by
  refine ecalls_of_awp Tryd.func70 (c := _) rfl (Nat.le_of_ble_eq_true rfl) ?_
  show awp cx 74 _ (postF cx Tryd.f70 _) ⟨[(0, (intR (x))), (1, (intR (y)))], []⟩
  have hlb := digs_pos_len hy
  have hla := digs_pos_len (show 0 < x.natAbs by omega)
  have hll := digs_len_le hxy
  have hta := Dig.getD (digs_dig x.natAbs) ((digs (x).natAbs).length - 1)
  have hta2 := Dig.getD (digs_dig x.natAbs) ((digs (x).natAbs).length - 2)
  have htb := Dig.getD (digs_dig y.natAbs) ((digs (y).natAbs).length - 1)
  refine awp_seq fun K0 hK0 => ?_
  refine awp_region rfl ?_
  refine o_box 2 [(bp (x < 0)), (AV.sl 1 (ns .i64 (digs (x).natAbs)))] Gd.none rfl rfl ?_
  refine o_box 3 [(bp (y < 0)), (AV.sl 1 (ns .i64 (digs (y).natAbs)))] Gd.none rfl rfl ?_
  refine o_alloc 4 [(AV.lit (.bool false)), (AV.lit (.slice none 0 0))] Gd.none Wx_tO36 rfl rfl rfl ?_
  refine aops_end ?_
  refine hK0 _ ?_
  refine awp_seq fun K1 hK1 => ?_
  refine awp_region rfl ?_
  refine o_fieldRef 1 Gd.none Wx_tF36_1 rfl rfl ?_
  refine o_loadS (AV.sl 1 (ns .i64 (digs (y).natAbs))) Gd.none Wx_tS22 rfl rfl rfl ?_
  refine n_len (digs (y).natAbs) Gd.none Wx_tU22 rfl ?_
  refine o_assign (nm .i64 ((digs (y).natAbs).length)) Gd.none rfl ?_
  refine aops_end ?_
  refine hK1 _ ?_
  refine awp_seq fun K2 hK2 => ?_
  refine awp_region rfl ?_
  refine o_fieldRef 1 Gd.none Wx_tF36_1 rfl rfl ?_
  refine o_loadS (AV.sl 1 (ns .i64 (digs (x).natAbs))) Gd.none Wx_tS22 rfl rfl rfl ?_
  refine n_len (digs (x).natAbs) Gd.none Wx_tU22 rfl ?_
  refine o_move (nm .i64 ((digs (y).natAbs).length)) Gd.none rfl ?_
  refine n_sub ((digs (x).natAbs).length) ((digs (y).natAbs).length) Gd.none rfl rfl (by omega) (by simp only [topOf]; omega) ?_
  refine o_assign (nm .i64 (((digs (x).natAbs).length) - ((digs (y).natAbs).length))) Gd.none rfl ?_
  refine aops_end ?_
  refine hK2 _ ?_
  refine awp_seq fun K3 hK3 => ?_
  refine awp_region rfl ?_
  refine o_fieldRef 1 Gd.none Wx_tF36_1 rfl rfl ?_
  refine o_loadS (AV.sl 1 (ns .i64 (digs (x).natAbs))) Gd.none Wx_tS22 rfl rfl rfl ?_
  refine o_fieldRef 1 Gd.none Wx_tF36_1 rfl rfl ?_
  refine o_loadS (AV.sl 1 (ns .i64 (digs (x).natAbs))) Gd.none Wx_tS22 rfl rfl rfl ?_
  refine n_len (digs (x).natAbs) Gd.none Wx_tU22 rfl ?_
  refine n_sub ((digs (x).natAbs).length) (1) Gd.none rfl rfl (by omega) (by simp only [topOf]; omega) ?_
  refine n_index (digs (x).natAbs) (((digs (x).natAbs).length) - (1)) Gd.none Wx_tE22 rfl rfl (by omega) ?_
  refine n_loadI (digs (x).natAbs) (((digs (x).natAbs).length) - (1)) Gd.none Wx_tS3 rfl (by omega) ?_
  refine o_assign (nm .i64 ((digs (x).natAbs).getD (((digs (x).natAbs).length) - (1)) 0)) Gd.none rfl ?_
  refine aops_end ?_
  refine hK3 _ ?_
  refine awp_seqJ (J := fun σ => ∃ (sh : Nat), ∃ (top : Nat), (sh = gSh x.natAbs y.natAbs) ∧ (top = gTop x.natAbs y.natAbs) ∧ (sh ≤ 1000000000) ∧ (top < 1000000000000000000) ∧ True ∧ σ = ⟨[(2, (AV.ref 2 (0))), (3, (AV.ref 3 (0))), (4, (AV.ref 4 (0))), (5, (nm .i64 ((digs (y).natAbs).length))), (6, (nm .i64 (sh))), (7, (nm .i64 (top)))], [(2, (oZ 36 .i64 (x))), (3, (oZ 36 .i64 (y))), (4, (AO.var 36 [(AV.lit (.bool false)), (AV.lit (.slice none 0 0))]))]⟩) ?ja0 ?jb0
  case ja0 =>
    refine awp_seq fun K4 hK4 => ?_
    refine awp_region rfl ?_
    refine o_move (nm .i64 ((digs (x).natAbs).getD (((digs (x).natAbs).length) - (1)) 0)) Gd.none rfl ?_
    refine o_fieldRef 1 Gd.none Wx_tF36_1 rfl rfl ?_
    refine o_loadS (AV.sl 1 (ns .i64 (digs (y).natAbs))) Gd.none Wx_tS22 rfl rfl rfl ?_
    refine o_move (nm .i64 ((digs (y).natAbs).length)) Gd.none rfl ?_
    refine n_sub ((digs (y).natAbs).length) (1) Gd.none rfl rfl (by omega) (by simp only [topOf]; omega) ?_
    refine n_index (digs (y).natAbs) (((digs (y).natAbs).length) - (1)) Gd.none Wx_tE22 rfl rfl (by omega) ?_
    refine n_loadI (digs (y).natAbs) (((digs (y).natAbs).length) - (1)) Gd.none Wx_tS3 rfl (by omega) ?_
    refine n_leq ((digs (x).natAbs).getD (((digs (x).natAbs).length) - (1)) 0) ((digs (y).natAbs).getD (((digs (y).natAbs).length) - (1)) 0) Gd.none rfl rfl ?_
    refine o_move (bp (((digs (x).natAbs).getD (((digs (x).natAbs).length) - (1)) 0) ≤ ((digs (y).natAbs).getD (((digs (y).natAbs).length) - (1)) 0))) Gd.none rfl ?_
    refine o_splitP (q := ((digs (x).natAbs).getD (((digs (x).natAbs).length) - (1)) 0) ≤ ((digs (y).natAbs).getD (((digs (y).natAbs).length) - (1)) 0)) 34 rfl (fun h1 => ?_) (fun h1 => ?_)
    · refine o_move (nm .i64 (((digs (x).natAbs).length) - ((digs (y).natAbs).length))) (Gd.yes rfl rfl (decide_eq_true h1)) rfl ?_
      refine n_gtr (((digs (x).natAbs).length) - ((digs (y).natAbs).length)) (0) (Gd.yes rfl rfl (decide_eq_true h1)) rfl rfl ?_
      refine o_pickT (b := decide (((digs (x).natAbs).getD (((digs (x).natAbs).length) - (1)) 0) ≤ ((digs (y).natAbs).getD (((digs (y).natAbs).length) - (1)) 0))) (bp ((0) < (((digs (x).natAbs).length) - ((digs (y).natAbs).length)))) Gd.none rfl (decide_eq_true h1) rfl ?_
      refine aops_end ?_
      refine hK4 _ ?_
      refine awp_condQ (q := (0) < (((digs (x).natAbs).length) - ((digs (y).natAbs).length))) rfl (fun h2 => ?_) (fun h2 => ?_)
      · refine awp_seq fun K5 hK5 => ?_
        refine awp_region rfl ?_
        refine o_move (nm .i64 (((digs (x).natAbs).length) - ((digs (y).natAbs).length))) Gd.none rfl ?_
        refine n_sub (((digs (x).natAbs).length) - ((digs (y).natAbs).length)) (1) Gd.none rfl rfl (by omega) (by simp only [topOf]; omega) ?_
        refine o_assign (nm .i64 ((((digs (x).natAbs).length) - ((digs (y).natAbs).length)) - (1))) Gd.none rfl ?_
        refine aops_end ?_
        refine hK5 _ ?_
        refine awp_region rfl ?_
        refine o_move (nm .i64 ((digs (x).natAbs).getD (((digs (x).natAbs).length) - (1)) 0)) Gd.none rfl ?_
        refine n_mul ((digs (x).natAbs).getD (((digs (x).natAbs).length) - (1)) 0) (1000000000) Gd.none rfl rfl (by simp only [topOf]; omega) ?_
        refine o_fieldRef 1 Gd.none Wx_tF36_1 rfl rfl ?_
        refine o_loadS (AV.sl 1 (ns .i64 (digs (x).natAbs))) Gd.none Wx_tS22 rfl rfl rfl ?_
        refine o_fieldRef 1 Gd.none Wx_tF36_1 rfl rfl ?_
        refine o_loadS (AV.sl 1 (ns .i64 (digs (x).natAbs))) Gd.none Wx_tS22 rfl rfl rfl ?_
        refine n_len (digs (x).natAbs) Gd.none Wx_tU22 rfl ?_
        refine n_sub ((digs (x).natAbs).length) (2) Gd.none rfl rfl (by omega) (by simp only [topOf]; omega) ?_
        refine n_index (digs (x).natAbs) (((digs (x).natAbs).length) - (2)) Gd.none Wx_tE22 rfl rfl (by omega) ?_
        refine n_loadI (digs (x).natAbs) (((digs (x).natAbs).length) - (2)) Gd.none Wx_tS3 rfl (by omega) ?_
        refine n_add (((digs (x).natAbs).getD (((digs (x).natAbs).length) - (1)) 0) * (1000000000)) ((digs (x).natAbs).getD (((digs (x).natAbs).length) - (2)) 0) Gd.none rfl rfl (by simp only [topOf]; omega) ?_
        refine o_assign (nm .i64 ((((digs (x).natAbs).getD (((digs (x).natAbs).length) - (1)) 0) * (1000000000)) + ((digs (x).natAbs).getD (((digs (x).natAbs).length) - (2)) 0))) Gd.none rfl ?_
        refine aops_end ?_
        exact ⟨_, ⟨(digs (x).natAbs).length - (digs (y).natAbs).length - 1, ((digs (x).natAbs).getD ((digs (x).natAbs).length - 1) 0) * 1000000000 + (digs (x).natAbs).getD ((digs (x).natAbs).length - 2) 0, (by unfold gSh; rw [if_pos (show gC x.natAbs y.natAbs from ⟨h1, by omega⟩)]), (by unfold gTop; rw [if_pos (show gC x.natAbs y.natAbs from ⟨h1, by omega⟩)]), (by omega), (by omega), trivial, rfl⟩, Wk.sub (And.intro rfl (And.intro rfl (And.intro rfl (And.intro rfl (And.intro (by first | rfl | exact congrArg (nm _) (by omega) | exact nm_int (by omega) | exact nm_int (by simp [IntKind.wrap, IntKind.bits, IntKind.signed]; omega)) (And.intro (by first | rfl | exact congrArg (nm _) (by omega) | exact nm_int (by omega) | exact nm_int (by simp [IntKind.wrap, IntKind.bits, IntKind.signed]; omega)) (trivial))))))) (And.intro rfl (And.intro rfl (And.intro rfl (trivial))))⟩
      · refine awp_skip ?_
        exact ⟨_, ⟨(digs (x).natAbs).length - (digs (y).natAbs).length, ((digs (x).natAbs).getD ((digs (x).natAbs).length - 1) 0), (by unfold gSh; rw [if_neg (show ¬ gC x.natAbs y.natAbs from fun h => absurd h.2 (by omega))]), (by unfold gTop; rw [if_neg (show ¬ gC x.natAbs y.natAbs from fun h => absurd h.2 (by omega))]), (by omega), (by omega), trivial, rfl⟩, Wk.sub (And.intro rfl (And.intro rfl (And.intro rfl (And.intro rfl (And.intro (by first | rfl | exact congrArg (nm _) (by omega) | exact nm_int (by omega) | exact nm_int (by simp [IntKind.wrap, IntKind.bits, IntKind.signed]; omega)) (And.intro (by first | rfl | exact congrArg (nm _) (by omega) | exact nm_int (by omega) | exact nm_int (by simp [IntKind.wrap, IntKind.bits, IntKind.signed]; omega)) (trivial))))))) (And.intro rfl (And.intro rfl (And.intro rfl (trivial))))⟩
    · refine o_skip (b := decide (((digs (x).natAbs).getD (((digs (x).natAbs).length) - (1)) 0) ≤ ((digs (y).natAbs).getD (((digs (y).natAbs).length) - (1)) 0))) rfl rfl (decide_eq_false h1) ?_
      refine o_skip (b := decide (((digs (x).natAbs).getD (((digs (x).natAbs).length) - (1)) 0) ≤ ((digs (y).natAbs).getD (((digs (y).natAbs).length) - (1)) 0))) rfl rfl (decide_eq_false h1) ?_
      refine o_pickF (b := decide (((digs (x).natAbs).getD (((digs (x).natAbs).length) - (1)) 0) ≤ ((digs (y).natAbs).getD (((digs (y).natAbs).length) - (1)) 0))) (AV.lit (.bool false)) Gd.none rfl (decide_eq_false h1) rfl ?_
      refine aops_end ?_
      refine hK4 _ ?_
      refine awp_condB (b := false) rfl (fun hh => absurd (hh.symm.trans rfl) (by decide)) (fun _ => ?_)
      refine awp_skip ?_
      exact ⟨_, ⟨(digs (x).natAbs).length - (digs (y).natAbs).length, ((digs (x).natAbs).getD ((digs (x).natAbs).length - 1) 0), (by unfold gSh; rw [if_neg (show ¬ gC x.natAbs y.natAbs from fun h => absurd h.1 (by omega))]), (by unfold gTop; rw [if_neg (show ¬ gC x.natAbs y.natAbs from fun h => absurd h.1 (by omega))]), (by omega), (by omega), trivial, rfl⟩, Wk.sub (And.intro rfl (And.intro rfl (And.intro rfl (And.intro rfl (And.intro (by first | rfl | exact congrArg (nm _) (by omega) | exact nm_int (by omega) | exact nm_int (by simp [IntKind.wrap, IntKind.bits, IntKind.signed]; omega)) (And.intro (by first | rfl | exact congrArg (nm _) (by omega) | exact nm_int (by omega) | exact nm_int (by simp [IntKind.wrap, IntKind.bits, IntKind.signed]; omega)) (trivial))))))) (And.intro rfl (And.intro rfl (And.intro rfl (trivial))))⟩
  rintro _ ⟨sh, top, hs, ht, hs2, ht2, -, rfl⟩
  have hdq := Nat.div_le_self top (((digs (y).natAbs).getD ((digs (y).natAbs).length - 1) 0) + 1)
  refine awp_seq fun K6 hK6 => ?_
  refine awp_region rfl ?_
  refine o_move (nm .i64 (top)) Gd.none rfl ?_
  refine o_fieldRef 1 Gd.none Wx_tF36_1 rfl rfl ?_
  refine o_loadS (AV.sl 1 (ns .i64 (digs (y).natAbs))) Gd.none Wx_tS22 rfl rfl rfl ?_
  refine o_move (nm .i64 ((digs (y).natAbs).length)) Gd.none rfl ?_
  refine n_sub ((digs (y).natAbs).length) (1) Gd.none rfl rfl (by omega) (by simp only [topOf]; omega) ?_
  refine n_index (digs (y).natAbs) (((digs (y).natAbs).length) - (1)) Gd.none Wx_tE22 rfl rfl (by omega) ?_
  refine n_loadI (digs (y).natAbs) (((digs (y).natAbs).length) - (1)) Gd.none Wx_tS3 rfl (by omega) ?_
  refine n_add ((digs (y).natAbs).getD (((digs (y).natAbs).length) - (1)) 0) (1) Gd.none rfl rfl (by simp only [topOf]; omega) ?_
  refine n_quo (top) (((digs (y).natAbs).getD (((digs (y).natAbs).length) - (1)) 0) + (1)) Gd.none rfl rfl (by omega) (by simp only [topOf]; omega) ?_
  refine n_max ((top) / (((digs (y).natAbs).getD (((digs (y).natAbs).length) - (1)) 0) + (1))) (1) Gd.none rfl rfl (fun a c w => run_max a c w) ?_
  refine o_assign (nm .i64 (max ((top) / (((digs (y).natAbs).getD (((digs (y).natAbs).length) - (1)) 0) + (1))) (1))) Gd.none rfl ?_
  refine aops_end ?_
  refine hK6 _ ?_
  refine awp_seq fun K7 hK7 => ?_
  refine awp_region rfl ?_
  refine o_move (nm .i64 (sh)) Gd.none rfl ?_
  refine n_make 101 (sh) Gd.none Wx_tE22 Wx_tO3 rfl rfl (by omega) rfl rfl ?_
  refine o_assign (AV.row 101) Gd.none rfl ?_
  refine aops_end ?_
  refine hK7 _ ?_
  refine awp_seq fun K8 hK8 => ?_
  refine awp_block ?_
  refine awp_loopR (fun κ σ => ∃ (u : Nat), ∃ (r : List Nat), (u ≤ 1000000000000000000) ∧ (r ++ digs u = List.replicate sh 0 ++ digs (max (top / (((digs (y).natAbs).getD ((digs (y).natAbs).length - 1) 0) + 1)) 1)) ∧ (Dig r) ∧ (u) = κ ∧ σ = ⟨[(2, (AV.ref 2 (0))), (3, (AV.ref 3 (0))), (4, (AV.ref 4 (0))), (8, (nm .i64 (u))), (9, (AV.row 5))], [(2, (oZ 36 .i64 (x))), (3, (oZ 36 .i64 (y))), (4, (AO.var 36 [(AV.lit (.bool false)), (AV.lit (.slice none 0 0))])), (5, (AO.row 3 1 (ns .i64 (r))))]⟩) ⟨_, _, ⟨max (top / (((digs (y).natAbs).getD ((digs (y).natAbs).length - 1) 0) + 1)) 1, List.replicate sh 0, (by have := Nat.div_le_self top (((digs (y).natAbs).getD ((digs (y).natAbs).length - 1) 0) + 1); omega), rfl, (Dig.repl _), rfl, rfl⟩, ?wk1⟩ ?rd1
  case wk1 =>
    exact Wk.trans (Wk.sub (σ' := ⟨[(2, (AV.ref 2 (0))), (3, (AV.ref 3 (0))), (4, (AV.ref 4 (0))), (8, (nm .i64 (max ((top) / (((digs (y).natAbs).getD (((digs (y).natAbs).length) - (1)) 0) + (1))) (1)))), (9, (AV.row 101))], [(2, (oZ 36 .i64 (x))), (3, (oZ 36 .i64 (y))), (4, (AO.var 36 [(AV.lit (.bool false)), (AV.lit (.slice none 0 0))])), (101, (AO.row 3 1 (ns .i64 (List.replicate (sh) 0))))]⟩) (And.intro rfl (And.intro rfl (And.intro rfl (And.intro rfl (And.intro rfl (trivial)))))) (And.intro rfl (And.intro rfl (And.intro rfl (And.intro rfl (trivial)))))) (Wk.trans (Wk.ren (id := 101) (id' := 5) rfl) (Wk.sub (And.intro rfl (And.intro rfl (And.intro rfl (And.intro (by first | rfl | exact congrArg (nm _) (by omega) | exact nm_int (by omega) | exact nm_int (by simp [IntKind.wrap, IntKind.bits, IntKind.signed]; omega)) (And.intro (by first | rfl | (simp)) (trivial)))))) (And.intro rfl (And.intro rfl (And.intro rfl (And.intro (by first | rfl | exact row_ns (by simp)) (trivial)))))))
  rintro κ _ ⟨u, r, hu, hr, hrd, rfl, rfl⟩
  have hlen := congrArg List.length hr
  simp only [List.length_append, List.length_replicate] at hlen
  have hq3 := digs_len_small (n := max (top / (((digs (y).natAbs).getD ((digs (y).natAbs).length - 1) 0) + 1)) 1) (by have := Nat.div_le_self top (((digs (y).natAbs).getD ((digs (y).natAbs).length - 1) 0) + 1); omega)
  refine awp_seq fun K9 hK9 => ?_
  refine awp_seq fun K10 hK10 => ?_
  refine awp_region rfl ?_
  refine o_move (nm .i64 (u)) Gd.none rfl ?_
  refine n_gtr (u) (0) Gd.none rfl rfl ?_
  refine aops_end ?_
  refine hK10 _ ?_
  refine awp_condQ (q := (0) < (u)) rfl (fun h3 => ?_) (fun h3 => ?_)
  · refine awp_skip ?_
    refine hK9 _ ?_
    refine awp_block ?_
    refine awp_seq fun K11 hK11 => ?_
    refine awp_region rfl ?_
    refine o_move (AV.row 5) Gd.none rfl ?_
    refine o_move (nm .i64 (u)) Gd.none rfl ?_
    refine n_rem (u) (1000000000) Gd.none rfl rfl (by omega) ?_
    refine o_buildSlice 201 (ns .i64 ([(u) % (1000000000)])) [(0, [(nm .i64 ((u) % (1000000000)))])] Gd.none Wx_tE22 rfl Wx_tO3 rfl rfl rfl rfl rfl rfl rfl ?_
    refine n_append 202 (r) ([(u) % (1000000000)]) [(201, (AO.row 3 1 (ns .i64 ([(u) % (1000000000)])))), (2, (oZ 36 .i64 (x))), (3, (oZ 36 .i64 (y))), (4, (AO.var 36 [(AV.lit (.bool false)), (AV.lit (.slice none 0 0))]))] Gd.none Wx_tE22 Wx_tO3 rfl rfl rfl rfl rfl (by simp only [List.length_append, List.length_cons, List.length_nil]; omega) (by decide) rfl rfl ?_
    refine o_assign (AV.row 202) Gd.none rfl ?_
    refine aops_end ?_
    refine hK11 _ ?_
    refine awp_region rfl ?_
    refine o_move (nm .i64 (u)) Gd.none rfl ?_
    refine n_quo (u) (1000000000) Gd.none rfl rfl (by omega) (by simp only [topOf]; omega) ?_
    refine o_assign (nm .i64 ((u) / (1000000000))) Gd.none rfl ?_
    refine aops_end ?_
    refine ⟨_, _, ?lt, ⟨(u) / (1000000000), (r) ++ ([(u) % (1000000000)]), (by omega), (app_step hr (by assumption)), (hrd.snoc (Nat.mod_lt _ (by decide))), rfl, rfl⟩, ?wk⟩
    case lt => omega
    case wk => exact Wk.trans (Wk.sub (σ' := ⟨[(2, (AV.ref 2 (0))), (3, (AV.ref 3 (0))), (4, (AV.ref 4 (0))), (8, (nm .i64 ((u) / (1000000000)))), (9, (AV.row 202))], [(2, (oZ 36 .i64 (x))), (3, (oZ 36 .i64 (y))), (4, (AO.var 36 [(AV.lit (.bool false)), (AV.lit (.slice none 0 0))])), (202, (AO.row 3 1 (ns .i64 ((r) ++ ([(u) % (1000000000)])))))]⟩) (And.intro rfl (And.intro rfl (And.intro rfl (And.intro rfl (And.intro rfl (trivial)))))) (And.intro rfl (And.intro rfl (And.intro rfl (And.intro rfl (trivial)))))) (Wk.trans (Wk.ren (id := 202) (id' := 5) rfl) (Wk.sub (And.intro rfl (And.intro rfl (And.intro rfl (And.intro (by first | rfl | exact congrArg (nm _) (by omega) | exact nm_int (by omega) | exact nm_int (by simp [IntKind.wrap, IntKind.bits, IntKind.signed]; omega)) (And.intro (by first | rfl | (simp)) (trivial)))))) (And.intro rfl (And.intro rfl (And.intro rfl (And.intro (by first | rfl | exact row_ns (by simp)) (trivial)))))))
  · refine awp_exit ?_
    refine hK8 _ ?_
    refine awp_seq fun K12 hK12 => ?_
    refine awp_region rfl ?_
    refine o_move (AV.row 5) Gd.none rfl ?_
    refine o_callG [(5, 1, (ns .i64 (r)))] [(AV.lit (.bool false)), (AV.sl 1 (ns .i64 (r)))] _ (intR ((sg (false) (val (r))))) [(2, (oZ 36 .i64 (x))), (3, (oZ 36 .i64 (y))), (4, (AO.var 36 [(AV.lit (.bool false)), (AV.lit (.slice none 0 0))]))] Gd.none Wx_tC54 rfl (And.intro ⟨_, rfl⟩ (trivial)) rfl rfl (LeL.cons (AV.le_refl _) (LeL.cons (AV.le_refl _) (LeL.nil))) (c_rTrim (false) (r) (by first | assumption | exact dgn_dig _ _ | exact digs_dig _ | exact Dig.snoc (by assumption) (by assumption) | exact Dig.cons (by omega) (digs_dig _))) rfl ?_
    refine o_store [(2, (oZ 36 .i64 (x))), (3, (oZ 36 .i64 (y))), (4, (oZ 36 .i64 ((sg (false) (val (r))))))] Gd.none Wx_tZ36 rfl rfl rfl rfl rfl rfl ?_
    refine aops_end ?_
    refine hK12 _ ?_
    refine awp_ret ?_
    refine post_ret ⟨[(intR ((sg (false) (val (r)))))], And.intro ⟨4, (oZ 36 .i64 ((sg (false) (val (r))))), rfl, rfl, rfl, Or.inl ⟨Wx_tA36, AV.le_refl _⟩⟩ (trivial), rfl, ?_⟩
    refine congrArg intR ?_
    rw [app_end hr (by assumption), val_guess]
    show _ = ((_ : Nat) : Int)
    unfold guessN gQ
    rw [← hs, ← ht]

theorem c_rDiv (x y : Int) (hy : 0 < y) (hx : (digs x.natAbs).length ≤ 800000000) (hyl : (digs y.natAbs).length ≤ 800000000) : ECalls cx 32 [(intR (x)), (intR (y))] (.tup [intR (x / y), intR (x % y)]) := by
  refine ecalls_of_awp Tryd.func32 (c := _) rfl (Nat.le_of_ble_eq_true rfl) ?_
  show awp cx 46 _ (postF cx Tryd.f32 _) ⟨[(0, (intR (x))), (1, (intR (y)))], []⟩
  refine awp_seq fun K0 hK0 => ?_
  refine awp_region rfl ?_
  refine o_box 2 [(bp (x < 0)), (AV.sl 1 (ns .i64 (digs (x).natAbs)))] Gd.none rfl rfl ?_
  refine o_box 3 [(bp (y < 0)), (AV.sl 1 (ns .i64 (digs (y).natAbs)))] Gd.none rfl rfl ?_
  refine o_alloc 4 [(AV.lit (.bool false)), (AV.lit (.slice none 0 0))] Gd.none Wx_tO36 rfl rfl rfl ?_
  refine o_alloc 5 [(AV.lit (.bool false)), (AV.lit (.slice none 0 0))] Gd.none Wx_tO36 rfl rfl rfl ?_
  refine aops_end ?_
  refine hK0 _ ?_
  refine awp_seq fun K1 hK1 => ?_
  refine awp_region rfl ?_
  refine o_build [(AV.lit (.bool false)), (AV.lit (.slice none 0 0))] [] Gd.none Wx_tP36 Wx_tO36 rfl rfl rfl ?_
  refine o_alloc 6 [(AV.lit (.bool false)), (AV.lit (.slice none 0 0))] Gd.none Wx_tO36 rfl rfl rfl ?_
  refine o_store [(6, (AO.var 36 [(AV.lit (.bool false)), (AV.lit (.slice none 0 0))])), (5, (AO.var 36 [(AV.lit (.bool false)), (AV.lit (.slice none 0 0))])), (4, (AO.var 36 [(AV.lit (.bool false)), (AV.lit (.slice none 0 0))])), (3, (oZ 36 .i64 (y))), (2, (oZ 36 .i64 (x)))] Gd.none Wx_tZ36 rfl rfl rfl rfl rfl rfl ?_
  refine aops_end ?_
  refine hK1 _ ?_
  refine awp_seq fun K2 hK2 => ?_
  refine awp_region rfl ?_
  refine o_fieldRef 1 Gd.none Wx_tF36_1 rfl rfl ?_
  refine o_loadS (AV.sl 1 (ns .i64 (digs (x).natAbs))) Gd.none Wx_tS22 rfl rfl rfl ?_
  refine o_build [(AV.lit (.bool false)), (AV.sl 1 (ns .i64 (digs (x).natAbs)))] [(1, [(AV.sl 1 (ns .i64 (digs (x).natAbs)))])] Gd.none Wx_tP36 Wx_tO36 rfl rfl rfl ?_
  refine n_as (v' := (intR (((x.natAbs : Nat) : Int)))) (by exact absR x) ?_
  refine o_alloc 7 [(AV.lit (.bool false)), (AV.lit (.slice none 0 0))] Gd.none Wx_tO36 rfl rfl rfl ?_
  refine o_store [(7, (oZ 36 .i64 (((x.natAbs : Nat) : Int)))), (6, (AO.var 36 [(AV.lit (.bool false)), (AV.lit (.slice none 0 0))])), (5, (AO.var 36 [(AV.lit (.bool false)), (AV.lit (.slice none 0 0))])), (4, (AO.var 36 [(AV.lit (.bool false)), (AV.lit (.slice none 0 0))])), (3, (oZ 36 .i64 (y))), (2, (oZ 36 .i64 (x)))] Gd.none Wx_tZ36 rfl rfl rfl rfl rfl rfl ?_
  refine aops_end ?_
  refine hK2 _ ?_
  refine awp_seq fun K3 hK3 => ?_
  refine awp_block ?_
  refine awp_wk (Wk.cells (i := 6) (cs' := [bp (((0 : Nat) : Int) < 0), AV.sl 1 (ns .i64 (digs (((0 : Nat) : Int)).natAbs))]) rfl (LeL.cons (AV.le_eq (bl_bp (b := false) (by simp))) (LeL.cons (AV.le_nil' (by decide) (by simp [digs_zero, ns])) LeL.nil))) ?_
  refine awp_loopR (fun κ σ => ∃ (q : Nat), ∃ (r : Nat), (x.natAbs = q * y.natAbs + r) ∧ (r) = κ ∧ σ = ⟨[(2, (AV.ref 2 (0))), (3, (AV.ref 3 (0))), (4, (AV.ref 4 (0))), (5, (AV.ref 5 (0))), (6, (AV.ref 6 (0))), (7, (AV.ref 7 (0)))], [(2, (oZ 36 .i64 (x))), (3, (oZ 36 .i64 (y))), (4, (AO.var 36 [(AV.lit (.bool false)), (AV.lit (.slice none 0 0))])), (5, (AO.var 36 [(AV.lit (.bool false)), (AV.lit (.slice none 0 0))])), (6, (oZ 36 .i64 (((q : Nat) : Int)))), (7, (oZ 36 .i64 (((r : Nat) : Int))))]⟩) ⟨_, _, ⟨0, x.natAbs, (by omega), rfl, rfl⟩, ?wk0⟩ ?rd0
  case wk0 =>
    exact Wk.sub (And.intro rfl (And.intro rfl (And.intro rfl (And.intro rfl (And.intro rfl (And.intro rfl (trivial))))))) (And.intro rfl (And.intro rfl (And.intro rfl (And.intro rfl (And.intro rfl (And.intro rfl (trivial)))))))
  rintro κ _ ⟨q, r, hv, rfl, rfl⟩
  have hrx : r ≤ x.natAbs := by omega
  have hqx : q ≤ x.natAbs := by have := Nat.le_mul_of_pos_right q (show 0 < y.natAbs by omega); omega
  have hrl := digs_len_le hrx
  have hql := digs_len_le hqx
  have hrl2 : (digs (((r : Nat) : Int)).natAbs).length ≤ 800000000 := Nat.le_trans hrl hx
  have hql2 : (digs (((q : Nat) : Int)).natAbs).length ≤ 800000000 := Nat.le_trans hql hx
  have ho := len_one
  have hq1 := len_addZ ((q : Nat) : Int) 1
  have hcz := cmpZ_nn (r := r) hy
  refine awp_seq fun K4 hK4 => ?_
  refine awp_seq fun K5 hK5 => ?_
  refine awp_region rfl ?_
  refine o_loadA [(bp (((r : Nat) : Int) < 0)), (AV.sl 1 (ns .i64 (digs (((r : Nat) : Int)).natAbs)))] Gd.none Wx_tA36 rfl rfl rfl rfl rfl ?_
  refine o_loadA [(bp (y < 0)), (AV.sl 1 (ns .i64 (digs (y).natAbs)))] Gd.none Wx_tA36 rfl rfl rfl rfl rfl ?_
  refine o_call [(intR (((r : Nat) : Int))), (intR (y))] (AV.lit (.int .i64 (cmpZ (((r : Nat) : Int)) (y)))) Gd.none Wx_tC33 rfl (c_rCmp (((r : Nat) : Int)) (y)) ?_
  refine o_geq (a := (cmpZ (((r : Nat) : Int)) (y))) (c := (((0 : Nat) : Int))) Gd.none rfl rfl ?_
  refine aops_end ?_
  refine hK5 _ ?_
  refine awp_condQ (q := (((0 : Nat) : Int)) ≤ (cmpZ (((r : Nat) : Int)) (y))) rfl (fun h1 => ?_) (fun h1 => ?_)
  · have hyr := hcz.1 h1
    have hg := guess_le (show 0 < y.natAbs by omega) hyr
    have hgr : guessN r y.natAbs ≤ r := by have := Nat.le_mul_of_pos_right (guessN r y.natAbs) (show 0 < y.natAbs by omega); omega
    have hgl := digs_len_le hgr
    have hgl2 : (digs (((guessN r y.natAbs : Nat) : Int)).natAbs).length ≤ 800000000 := Nat.le_trans hgl hrl2
    have hml : (digs (((guessN r y.natAbs : Nat) : Int) * y).natAbs).length ≤ 800000000 := Nat.le_trans (len_gy hg.2) hrl2
    refine awp_skip ?_
    refine hK4 _ ?_
    refine awp_block ?_
    refine awp_seq fun K6 hK6 => ?_
    refine awp_region rfl ?_
    refine o_loadA [(bp (((r : Nat) : Int) < 0)), (AV.sl 1 (ns .i64 (digs (((r : Nat) : Int)).natAbs)))] Gd.none Wx_tA36 rfl rfl rfl rfl rfl ?_
    refine o_loadA [(bp (y < 0)), (AV.sl 1 (ns .i64 (digs (y).natAbs)))] Gd.none Wx_tA36 rfl rfl rfl rfl rfl ?_
    refine o_call [(intR (((r : Nat) : Int))), (intR (y))] (intR (((guessN (((r : Nat) : Int)).natAbs (y).natAbs : Nat) : Int))) Gd.none Wx_tC70 rfl (c_rGuess (((r : Nat) : Int)) (y) (by omega) (by omega) (by first | omega | assumption | (simp only [Int.natAbs_neg]; omega))) ?_
    refine n_as (v' := (intR (((guessN r y.natAbs : Nat) : Int)))) (by rfl) ?_
    refine o_alloc 101 [(AV.lit (.bool false)), (AV.lit (.slice none 0 0))] Gd.none Wx_tO36 rfl rfl rfl ?_
    refine o_store [(101, (oZ 36 .i64 (((guessN r y.natAbs : Nat) : Int)))), (2, (oZ 36 .i64 (x))), (3, (oZ 36 .i64 (y))), (4, (AO.var 36 [(AV.lit (.bool false)), (AV.lit (.slice none 0 0))])), (5, (AO.var 36 [(AV.lit (.bool false)), (AV.lit (.slice none 0 0))])), (6, (oZ 36 .i64 (((q : Nat) : Int)))), (7, (oZ 36 .i64 (((r : Nat) : Int))))] Gd.none Wx_tZ36 rfl rfl rfl rfl rfl rfl ?_
    refine aops_end ?_
    refine hK6 _ ?_
    refine awp_seq fun K7 hK7 => ?_
    refine awp_region rfl ?_
    refine o_loadA [(bp (((q : Nat) : Int) < 0)), (AV.sl 1 (ns .i64 (digs (((q : Nat) : Int)).natAbs)))] Gd.none Wx_tA36 rfl rfl rfl rfl rfl ?_
    refine o_loadA [(bp (((guessN r y.natAbs : Nat) : Int) < 0)), (AV.sl 1 (ns .i64 (digs (((guessN r y.natAbs : Nat) : Int)).natAbs)))] Gd.none Wx_tA36 rfl rfl rfl rfl rfl ?_
    refine o_call [(intR (((q : Nat) : Int))), (intR (((guessN r y.natAbs : Nat) : Int)))] (intR ((((q : Nat) : Int) + ((guessN r y.natAbs : Nat) : Int)))) Gd.none Wx_tC34 rfl (c_rAdd (((q : Nat) : Int)) (((guessN r y.natAbs : Nat) : Int)) (by first | omega | assumption | (simp only [Int.natAbs_neg]; omega)) (by first | omega | assumption | (simp only [Int.natAbs_neg]; omega))) ?_
    refine n_as (v' := (intR (((q + guessN r y.natAbs : Nat) : Int)))) (by exact congrArg intR (Int.natCast_add _ _).symm) ?_
    refine o_store [(101, (oZ 36 .i64 (((guessN r y.natAbs : Nat) : Int)))), (2, (oZ 36 .i64 (x))), (3, (oZ 36 .i64 (y))), (4, (AO.var 36 [(AV.lit (.bool false)), (AV.lit (.slice none 0 0))])), (5, (AO.var 36 [(AV.lit (.bool false)), (AV.lit (.slice none 0 0))])), (6, (oZ 36 .i64 (((q + guessN r y.natAbs : Nat) : Int)))), (7, (oZ 36 .i64 (((r : Nat) : Int))))] Gd.none Wx_tZ36 rfl rfl rfl rfl rfl rfl ?_
    refine aops_end ?_
    refine hK7 _ ?_
    refine awp_regionD rfl ?_
    refine o_loadA [(bp (((r : Nat) : Int) < 0)), (AV.sl 1 (ns .i64 (digs (((r : Nat) : Int)).natAbs)))] Gd.none Wx_tA36 rfl rfl rfl rfl rfl ?_
    refine o_loadA [(bp (((guessN r y.natAbs : Nat) : Int) < 0)), (AV.sl 1 (ns .i64 (digs (((guessN r y.natAbs : Nat) : Int)).natAbs)))] Gd.none Wx_tA36 rfl rfl rfl rfl rfl ?_
    refine o_loadA [(bp (y < 0)), (AV.sl 1 (ns .i64 (digs (y).natAbs)))] Gd.none Wx_tA36 rfl rfl rfl rfl rfl ?_
    refine o_call [(intR (((guessN r y.natAbs : Nat) : Int))), (intR (y))] (intR ((((guessN r y.natAbs : Nat) : Int) * y))) Gd.none Wx_tC37 rfl (c_rMul (((guessN r y.natAbs : Nat) : Int)) (y) (by first | omega | assumption | (simp only [Int.natAbs_neg]; omega)) (by first | omega | assumption | (simp only [Int.natAbs_neg]; omega))) ?_
    refine o_call [(intR (((r : Nat) : Int))), (intR ((((guessN r y.natAbs : Nat) : Int) * y)))] (intR ((((r : Nat) : Int) - (((guessN r y.natAbs : Nat) : Int) * y)))) Gd.none Wx_tC35 rfl (c_rSub (((r : Nat) : Int)) ((((guessN r y.natAbs : Nat) : Int) * y)) (by first | omega | assumption | (simp only [Int.natAbs_neg]; omega)) (by first | omega | assumption | (simp only [Int.natAbs_neg]; omega))) ?_
    refine n_as (v' := (intR (((r - guessN r y.natAbs * y.natAbs : Nat) : Int)))) (by exact congrArg intR (sub_cast hg.2 hy)) ?_
    refine o_store [(101, (oZ 36 .i64 (((guessN r y.natAbs : Nat) : Int)))), (2, (oZ 36 .i64 (x))), (3, (oZ 36 .i64 (y))), (4, (AO.var 36 [(AV.lit (.bool false)), (AV.lit (.slice none 0 0))])), (5, (AO.var 36 [(AV.lit (.bool false)), (AV.lit (.slice none 0 0))])), (6, (oZ 36 .i64 (((q + guessN r y.natAbs : Nat) : Int)))), (7, (oZ 36 .i64 (((r - guessN r y.natAbs * y.natAbs : Nat) : Int))))] Gd.none Wx_tZ36 rfl rfl rfl rfl rfl rfl ?_
    refine aops_end ⟨by kernel_rfl, ?_⟩
    refine ⟨_, _, ?lt, ⟨q + guessN r y.natAbs, r - guessN r y.natAbs * y.natAbs, (div_inv hv hg.2), rfl, rfl⟩, ?wk⟩
    case lt => (have := Nat.mul_le_mul_right y.natAbs hg.1; omega)
    case wk => exact Wk.sub (And.intro rfl (And.intro rfl (And.intro rfl (And.intro rfl (And.intro rfl (And.intro rfl (trivial))))))) (And.intro rfl (And.intro rfl (And.intro rfl (And.intro rfl (And.intro rfl (And.intro rfl (trivial)))))))
  · have hry : r < y.natAbs := Nat.not_le.1 fun h => h1 (hcz.2 h)
    have hE := div_fin hv hry
    have hyy : ((y.natAbs : Nat) : Int) = y := by omega
    refine awp_exit ?_
    refine hK3 _ ?_
    refine awp_seq fun K8 hK8 => ?_
    refine awp_seq fun K9 hK9 => ?_
    refine awp_region rfl ?_
    refine o_fieldRef 0 Gd.none Wx_tF36_0 rfl rfl ?_
    refine o_loadS (bp (x < 0)) Gd.none Wx_tS4 rfl rfl rfl ?_
    refine o_notP (q := x < 0) Gd.none rfl ?_
    refine aops_end ?_
    refine hK9 _ ?_
    refine awp_condQ (q := ¬ (x < 0)) rfl (fun h2 => ?_) (fun h2 => ?_)
    · refine awp_seq fun K10 hK10 => ?_
      refine awp_regionD rfl ?_
      refine o_loadA [(bp (((q : Nat) : Int) < 0)), (AV.sl 1 (ns .i64 (digs (((q : Nat) : Int)).natAbs)))] Gd.none Wx_tA36 rfl rfl rfl rfl rfl ?_
      refine o_loadA [(bp (((r : Nat) : Int) < 0)), (AV.sl 1 (ns .i64 (digs (((r : Nat) : Int)).natAbs)))] Gd.none Wx_tA36 rfl rfl rfl rfl rfl ?_
      refine o_store [(2, (oZ 36 .i64 (x))), (3, (oZ 36 .i64 (y))), (4, (oZ 36 .i64 (((q : Nat) : Int)))), (5, (AO.var 36 [(AV.lit (.bool false)), (AV.lit (.slice none 0 0))])), (6, (oZ 36 .i64 (((q : Nat) : Int)))), (7, (oZ 36 .i64 (((r : Nat) : Int))))] Gd.none Wx_tZ36 rfl rfl rfl rfl rfl rfl ?_
      refine o_store [(2, (oZ 36 .i64 (x))), (3, (oZ 36 .i64 (y))), (4, (oZ 36 .i64 (((q : Nat) : Int)))), (5, (oZ 36 .i64 (((r : Nat) : Int)))), (6, (oZ 36 .i64 (((q : Nat) : Int)))), (7, (oZ 36 .i64 (((r : Nat) : Int))))] Gd.none Wx_tZ36 rfl rfl rfl rfl rfl rfl ?_
      refine aops_end ⟨by kernel_rfl, ?_⟩
      refine hK10 _ ?_
      refine awp_ret ?_
      refine post_ret ⟨[(intR (((q : Nat) : Int))), (intR (((r : Nat) : Int)))], And.intro ⟨4, (oZ 36 .i64 (((q : Nat) : Int))), rfl, rfl, rfl, Or.inl ⟨Wx_tA36, AV.le_refl _⟩⟩ (And.intro ⟨5, (oZ 36 .i64 (((r : Nat) : Int))), rfl, rfl, rfl, Or.inl ⟨Wx_tA36, AV.le_refl _⟩⟩ (trivial)), rfl, ?_⟩
      have e := part1 (d := y.natAbs) h2 (by omega) hE.1 hE.2
      rw [hyy] at e
      exact tup_eq2 (congrArg intR e.1) (congrArg intR e.2)
    · refine awp_skip ?_
      refine hK8 _ ?_
      refine awp_seq fun K11 hK11 => ?_
      refine awp_seq fun K12 hK12 => ?_
      refine awp_region rfl ?_
      refine o_loadA [(bp (((r : Nat) : Int) < 0)), (AV.sl 1 (ns .i64 (digs (((r : Nat) : Int)).natAbs)))] Gd.none Wx_tA36 rfl rfl rfl rfl rfl ?_
      refine o_call [(intR (((r : Nat) : Int)))] (AV.lit (.int .i64 (sgn (((r : Nat) : Int))))) Gd.none Wx_tC29 rfl (c_rSign (((r : Nat) : Int))) ?_
      refine o_eql (a := (sgn (((r : Nat) : Int)))) (c := (((0 : Nat) : Int))) Gd.none rfl rfl ?_
      refine aops_end ?_
      refine hK12 _ ?_
      refine awp_condQ (q := (sgn (((r : Nat) : Int))) = (((0 : Nat) : Int))) rfl (fun h3 => ?_) (fun h3 => ?_)
      · refine awp_seq fun K13 hK13 => ?_
        refine awp_regionD rfl ?_
        refine o_loadA [(bp (((q : Nat) : Int) < 0)), (AV.sl 1 (ns .i64 (digs (((q : Nat) : Int)).natAbs)))] Gd.none Wx_tA36 rfl rfl rfl rfl rfl ?_
        refine o_call [(intR (((q : Nat) : Int)))] (intR ((-((q : Nat) : Int)))) Gd.none Wx_tC71 rfl (c_rMinus (((q : Nat) : Int))) ?_
        refine o_loadA [(bp (((r : Nat) : Int) < 0)), (AV.sl 1 (ns .i64 (digs (((r : Nat) : Int)).natAbs)))] Gd.none Wx_tA36 rfl rfl rfl rfl rfl ?_
        refine o_store [(2, (oZ 36 .i64 (x))), (3, (oZ 36 .i64 (y))), (4, (oZ 36 .i64 ((-((q : Nat) : Int))))), (5, (AO.var 36 [(AV.lit (.bool false)), (AV.lit (.slice none 0 0))])), (6, (oZ 36 .i64 (((q : Nat) : Int)))), (7, (oZ 36 .i64 (((r : Nat) : Int))))] Gd.none Wx_tZ36 rfl rfl rfl rfl rfl rfl ?_
        refine o_store [(2, (oZ 36 .i64 (x))), (3, (oZ 36 .i64 (y))), (4, (oZ 36 .i64 ((-((q : Nat) : Int))))), (5, (oZ 36 .i64 (((r : Nat) : Int)))), (6, (oZ 36 .i64 (((q : Nat) : Int)))), (7, (oZ 36 .i64 (((r : Nat) : Int))))] Gd.none Wx_tZ36 rfl rfl rfl rfl rfl rfl ?_
        refine aops_end ⟨by kernel_rfl, ?_⟩
        refine hK13 _ ?_
        refine awp_ret ?_
        refine post_ret ⟨[(intR ((-((q : Nat) : Int)))), (intR (((r : Nat) : Int)))], And.intro ⟨4, (oZ 36 .i64 ((-((q : Nat) : Int)))), rfl, rfl, rfl, Or.inl ⟨Wx_tA36, AV.le_refl _⟩⟩ (And.intro ⟨5, (oZ 36 .i64 (((r : Nat) : Int))), rfl, rfl, rfl, Or.inl ⟨Wx_tA36, AV.le_refl _⟩⟩ (trivial)), rfl, ?_⟩
        have e := part2 (d := y.natAbs) (Decidable.not_not.1 h2) (by omega) hE.1 hE.2 (sgn_zero.1 h3)
        rw [hyy] at e
        exact tup_eq2 (congrArg intR e.1) (congrArg intR (e.2.trans (by rw [sgn_zero.1 h3]; rfl)))
      · refine awp_skip ?_
        refine hK11 _ ?_
        refine awp_seq fun K14 hK14 => ?_
        refine awp_regionD rfl ?_
        refine o_loadA [(bp (((q : Nat) : Int) < 0)), (AV.sl 1 (ns .i64 (digs (((q : Nat) : Int)).natAbs)))] Gd.none Wx_tA36 rfl rfl rfl rfl rfl ?_
        refine o_call [(nm .i64 (1))] (intR ((1 : Int))) Gd.none Wx_tC38 rfl (c_rOf ((1 : Int)) (by first | decide | omega) (by first | decide | omega)) ?_
        refine o_call [(intR (((q : Nat) : Int))), (intR ((1 : Int)))] (intR ((((q : Nat) : Int) + (1 : Int)))) Gd.none Wx_tC34 rfl (c_rAdd (((q : Nat) : Int)) ((1 : Int)) (by first | omega | assumption | (simp only [Int.natAbs_neg]; omega)) (by first | omega | assumption | (simp only [Int.natAbs_neg]; omega))) ?_
        refine o_call [(intR ((((q : Nat) : Int) + (1 : Int))))] (intR ((-(((q : Nat) : Int) + (1 : Int))))) Gd.none Wx_tC71 rfl (c_rMinus ((((q : Nat) : Int) + (1 : Int)))) ?_
        refine o_loadA [(bp (y < 0)), (AV.sl 1 (ns .i64 (digs (y).natAbs)))] Gd.none Wx_tA36 rfl rfl rfl rfl rfl ?_
        refine o_loadA [(bp (((r : Nat) : Int) < 0)), (AV.sl 1 (ns .i64 (digs (((r : Nat) : Int)).natAbs)))] Gd.none Wx_tA36 rfl rfl rfl rfl rfl ?_
        refine o_call [(intR (y)), (intR (((r : Nat) : Int)))] (intR ((y - ((r : Nat) : Int)))) Gd.none Wx_tC35 rfl (c_rSub (y) (((r : Nat) : Int)) (by first | omega | assumption | (simp only [Int.natAbs_neg]; omega)) (by first | omega | assumption | (simp only [Int.natAbs_neg]; omega))) ?_
        refine o_store [(2, (oZ 36 .i64 (x))), (3, (oZ 36 .i64 (y))), (4, (oZ 36 .i64 ((-(((q : Nat) : Int) + (1 : Int)))))), (5, (AO.var 36 [(AV.lit (.bool false)), (AV.lit (.slice none 0 0))])), (6, (oZ 36 .i64 (((q : Nat) : Int)))), (7, (oZ 36 .i64 (((r : Nat) : Int))))] Gd.none Wx_tZ36 rfl rfl rfl rfl rfl rfl ?_
        refine o_store [(2, (oZ 36 .i64 (x))), (3, (oZ 36 .i64 (y))), (4, (oZ 36 .i64 ((-(((q : Nat) : Int) + (1 : Int)))))), (5, (oZ 36 .i64 ((y - ((r : Nat) : Int))))), (6, (oZ 36 .i64 (((q : Nat) : Int)))), (7, (oZ 36 .i64 (((r : Nat) : Int))))] Gd.none Wx_tZ36 rfl rfl rfl rfl rfl rfl ?_
        refine aops_end ⟨by kernel_rfl, ?_⟩
        refine hK14 _ ?_
        refine awp_ret ?_
        refine post_ret ⟨[(intR ((-(((q : Nat) : Int) + (1 : Int))))), (intR ((y - ((r : Nat) : Int))))], And.intro ⟨4, (oZ 36 .i64 ((-(((q : Nat) : Int) + (1 : Int))))), rfl, rfl, rfl, Or.inl ⟨Wx_tA36, AV.le_refl _⟩⟩ (And.intro ⟨5, (oZ 36 .i64 ((y - ((r : Nat) : Int)))), rfl, rfl, rfl, Or.inl ⟨Wx_tA36, AV.le_refl _⟩⟩ (trivial)), rfl, ?_⟩
        have e := part3 (d := y.natAbs) (Decidable.not_not.1 h2) (by omega) hE.1 hE.2 (fun e => h3 (sgn_zero.2 e))
        rw [hyy] at e
        exact tup_eq2 (congrArg intR (e.1.trans (by omega))) (congrArg intR e.2)

end Go.Proofs.YtbilndahjkimkaaDoor

set_option linter.unusedVariables false
set_option linter.unusedSimpArgs false
namespace Go.Proofs.YtbilndahjkimkaaDoor
open Go Go.Ab Go.Mth
end Go.Proofs.YtbilndahjkimkaaDoor

set_option linter.unusedVariables false
set_option linter.unusedSimpArgs false
namespace Go.Mth
open Go.Ab
theorem exW_free : freeM (kinM 3 1) := fun i hi => by
  have : i < 2 := hi
  have : i = 0 ∨ i = 1 := by omega
  rcases this with rfl | rfl <;> decide
theorem exW_ok : OkW (kinM 3 1) [1, 1, 0] := ⟨fun r hr => by
  simp only [List.mem_cons, List.not_mem_nil, or_false] at hr
  rcases hr with rfl | rfl | rfl <;> exact ⟨by decide, by decide⟩, by decide⟩
theorem txt1 (n : Nat) (h : n < 10) : txt (n : Int) = ⟨#[UInt8.ofNat (48 + n)]⟩ := by
  have : n = 0 ∨ n = 1 ∨ n = 2 ∨ n = 3 ∨ n = 4 ∨ n = 5 ∨ n = 6 ∨ n = 7 ∨ n = 8 ∨ n = 9 := by omega
  rcases this with rfl | rfl | rfl | rfl | rfl | rfl | rfl | rfl | rfl | rfl <;> (simp [txt, txtL, decs, strN]; try rfl)
theorem exW_line : lineS (kinM 3 1) [1, 1, 0] = ⟨⟨#[57]⟩, ⟨#[53]⟩, ⟨#[56]⟩⟩ ∧ lineE (kinM 3 1) [1, 1, 0] = 0 := by
  have h := line_0 okM_ex exW_ok
  have e : lineZ (kinM 3 1) [1, 1, 0] = ⟨9, 5, 8⟩ := by rfl
  refine ⟨h.2.trans ?_, h.1⟩
  rw [e]
  unfold lineT
  rw [show (9 : Int) = ((9 : Nat) : Int) by rfl, show (5 : Int) = ((5 : Nat) : Int) by rfl, show (8 : Int) = ((8 : Nat) : Int) by rfl, txt1 9 (by decide), txt1 5 (by decide), txt1 8 (by decide)]
  rfl
theorem exW_rest : restS (kinM 3 1) [1, 1, 0] = ⟨#[51]⟩ ∧ restD (kinM 3 1) [1, 1, 0] = ⟨#[56]⟩ ∧ restE (kinM 3 1) [1, 1, 0] = 0 := by
  have h := rest_0 okM_ex ⟨exW_ok, exW_free⟩
  have e : (restZ (kinM 3 1) [1, 1, 0]).1 = ((3 : Nat) : Int) := by decide +kernel
  have e2 : (kinM 3 1).mod ^ ([1, 1, 0] : List Int).length = ((8 : Nat) : Int) := by decide +kernel
  refine ⟨h.2.1.trans ?_, h.2.2.trans ?_, h.1⟩
  · rw [e, txt1 3 (by decide)]; rfl
  · rw [e2, txt1 8 (by decide)]; rfl
def exL : LineS := ⟨⟨#[57]⟩, ⟨#[53]⟩, ⟨#[56]⟩⟩
end Go.Mth

set_option linter.unusedVariables false
set_option linter.unusedSimpArgs false
namespace Go.Proofs.YtbilndahjkimkaaDoor
open Go Go.Ab Go.Mth
end Go.Proofs.YtbilndahjkimkaaDoor

set_option linter.unusedVariables false
set_option linter.unusedSimpArgs false
namespace Go.Mth
open Go.Ab
theorem is_as {a b : List Int} (h : a = b) : AV.sl 1 (is .i64 a) = AV.sl 1 (is .i64 b) := by rw [h]
theorem fit_of_pow' {z : Int} {k : Nat} (h : z.natAbs < 10 ^ k) (hk : k ≤ 2000) (h1 : 1 ≤ k) : Fit z := fit_of_pow h hk h1
theorem ten2 (k : Nat) : (100 : Nat) ^ k = 10 ^ (2 * k) := by rw [Nat.pow_mul]
theorem mod_pow_lt {m : MapM} (hm : OkM m) (k : Nat) : (m.mod ^ k).natAbs < 10 ^ (2 * k + 1) := by
  obtain ⟨o1, o2, _⟩ := hm
  rw [Int.natAbs_pow]
  have h1 : m.mod.natAbs ^ k ≤ 100 ^ k := Nat.pow_le_pow_left (by omega) k
  have h2 : (10 : Nat) ^ (2 * k) < 10 ^ (2 * k + 1) := Nat.pow_lt_pow_right (by decide) (by omega)
  rw [ten2] at h1
  omega
theorem mod_pow_fit {m : MapM} (hm : OkM m) {k : Nat} (hk : k ≤ 200) : Fit (m.mod ^ k) := fit_of_pow' (mod_pow_lt hm k) (by omega) (by omega)
theorem mod_pow_pos {m : MapM} (hm : OkM m) (k : Nat) : 0 < m.mod ^ k := Int.pow_pos (by have := hm.1; omega)
theorem rest_fit {m : MapM} (hm : OkM m) (hf : freeM m) {w : List Int} (hw : OkW m w) : 0 ≤ (restZ m w).1 ∧ (restZ m w).1 < m.mod ^ w.length ∧ Fit (restZ m w).1 := by
  obtain ⟨_, h2, h3, _⟩ := restZ_ok hm hf w hw.1
  exact ⟨h2, h3, fit_le (by omega) (mod_pow_fit hm hw.2)⟩
theorem line_abs {m : MapM} (hm : OkM m) : ∀ w : List Int, IsW m w → (lineZ m w).mul.natAbs < 10 ^ (3 * w.length + 1) ∧ (lineZ m w).add.natAbs < 10 ^ (3 * w.length + 7) ∧ (lineZ m w).div.natAbs < 10 ^ (3 * w.length + 1) := by
  refine snoc_ind (P := fun w => IsW m w → (lineZ m w).mul.natAbs < 10 ^ (3 * w.length + 1) ∧ (lineZ m w).add.natAbs < 10 ^ (3 * w.length + 7) ∧ (lineZ m w).div.natAbs < 10 ^ (3 * w.length + 1)) (fun _ => ⟨show (1 : Int).natAbs < 10 ^ (3 * 0 + 1) by decide, show (0 : Int).natAbs < 10 ^ (3 * 0 + 7) by decide, show (1 : Int).natAbs < 10 ^ (3 * 0 + 1) by decide⟩) fun w r ih hw => ?_
  obtain ⟨i1, i2, i3⟩ := ih fun x hx => hw x (by simp [hx])
  obtain ⟨o1, o2, o3, o4, o5⟩ := hm
  obtain ⟨hr0, hr1⟩ := hw r (by simp)
  obtain ⟨r1, r2, r3, r4, _⟩ := o5 r.toNat (by omega)
  have e1 : (mulM m r).natAbs ≤ 999 := by unfold mulM; omega
  have e2 : (addM m r).natAbs ≤ 999999 := by unfold addM; omega
  have e3 : m.mod.natAbs ≤ 12 := by omega
  rw [lineZ_snoc, List.length_append, List.length_singleton]
  have p1 : (10 : Nat) ^ (3 * (w.length + 1) + 1) = 1000 * 10 ^ (3 * w.length + 1) := by rw [show 3 * (w.length + 1) + 1 = 3 * w.length + 1 + 3 by omega, Nat.pow_add, Nat.mul_comm]
  have p2 : (10 : Nat) ^ (3 * (w.length + 1) + 7) = 1000 * 10 ^ (3 * w.length + 7) := by rw [show 3 * (w.length + 1) + 7 = 3 * w.length + 7 + 3 by omega, Nat.pow_add, Nat.mul_comm]
  have p3 : (10 : Nat) ^ (3 * w.length + 7) = 1000000 * 10 ^ (3 * w.length + 1) := by rw [show 3 * w.length + 7 = 3 * w.length + 1 + 6 by omega, Nat.pow_add, Nat.mul_comm]
  refine ⟨?_, ?_, ?_⟩
  · show (mulM m r * (lineZ m w).mul).natAbs < _
    rw [Int.natAbs_mul, p1]
    have := Nat.mul_le_mul e1 (Nat.le_of_lt i1)
    have : 0 < (10 : Nat) ^ (3 * w.length + 1) := Nat.pow_pos (by decide)
    omega
  · show (mulM m r * (lineZ m w).add + addM m r * (lineZ m w).div).natAbs < _
    have a1 := Int.natAbs_add_le (mulM m r * (lineZ m w).add) (addM m r * (lineZ m w).div)
    rw [Int.natAbs_mul, Int.natAbs_mul] at a1
    have a2 := Nat.mul_le_mul e1 (Nat.le_of_lt i2)
    have a3 := Nat.mul_le_mul e2 (Nat.le_of_lt i3)
    have : 0 < (10 : Nat) ^ (3 * w.length + 1) := Nat.pow_pos (by decide)
    rw [p2]
    omega
  · show ((lineZ m w).div * m.mod).natAbs < _
    rw [Int.natAbs_mul, p1]
    have := Nat.mul_le_mul (Nat.le_of_lt i3) e3
    have : 0 < (10 : Nat) ^ (3 * w.length + 1) := Nat.pow_pos (by decide)
    omega
theorem line_fit {m : MapM} (hm : OkM m) {w : List Int} (hw : OkW m w) : Fit (lineZ m w).mul ∧ Fit (lineZ m w).add ∧ Fit (lineZ m w).div := by
  obtain ⟨h1, h2, h3⟩ := line_abs hm w hw.1
  have := hw.2
  exact ⟨fit_of_pow' h1 (by omega) (by omega), fit_of_pow' h2 (by omega) (by omega), fit_of_pow' h3 (by omega) (by omega)⟩
theorem okL_line {m : MapM} (hm : OkM m) {w : List Int} (hw : OkW m w) : okL (lineT (lineZ m w)) = true := by
  obtain ⟨h1, h2, h3⟩ := line_fit hm hw
  unfold okL lineT
  rw [okS_iff.2 (okS_txt h1), okS_iff.2 (okS_txt h2), okS_iff.2 (okS_txt h3)]
  rfl
theorem wordZ_is {m : MapM} (hm : OkM m) (z : Int) : ∀ k, IsW m (wordZ m z k)
  | 0 => fun r hr => by simp [wordZ] at hr
  | k + 1 => fun r hr => by
    rw [wordZ, List.mem_append, List.mem_singleton] at hr
    rcases hr with hr | rfl
    · exact wordZ_is hm z k r hr
    · have := hm.1
      exact ⟨Int.emod_nonneg _ (by omega), Int.emod_lt_of_pos _ (by omega)⟩
theorem wordZ_ok {m : MapM} (hm : OkM m) (z : Int) {k : Nat} (hk : k ≤ 200) : OkW m (wordZ m z k) := ⟨wordZ_is hm z k, by rw [wordZ_len]; exact hk⟩
theorem fitK_run {m : MapM} {z : Int} {k : Nat} (h : FitK m z k) : runZ m k z = iterZ m k z := by
  have := run_iter (m := m) (n := z) k 0 (fun j _ h2 => h j (by omega))
  rw [Nat.zero_add] at this
  exact this
theorem app_word {m : MapM} {a : ByteArray} (hm : OkM m) (ha : okS a = true) {k : Nat} (hk : k ≤ 200) (l : LineS) (hl : l = lineT (lineZ m (wordZ m (numS a) k))) :
    (Fit (appV l a) ∧ appE l a = 0 ∧ AppB l a ∧ appS l a = txt (iterZ m k (numS a)) ∧ Fit (iterZ m k (numS a))) ∨ (¬ Fit (appV l a) ∧ appE l a = 3) := by
  have hok : okL l = true := by rw [hl]; exact okL_line hm (wordZ_ok hm (numS a) hk)
  have hd : numS l.div = m.mod ^ k := by
    rw [hl]
    show numS (txt _) = _
    rw [numS_txt, lineZ_div, wordZ_len]
  have hpos : 0 < numS l.div := by rw [hd]; exact mod_pow_pos hm k
  have hv : appV l a = iterZ m k (numS a) * numS l.div := by
    have := line_iter hm (numS a) k
    rw [lineZ_div, wordZ_len] at this
    rw [hd, this, hl]
    unfold appV lineT
    rw [numS_txt, numS_txt]
  by_cases hf : Fit (appV l a)
  · have h := app_yes ⟨hok, ha⟩ hpos hf (by rw [hv, Int.mul_emod_left])
    refine .inl ⟨hf, h.1, h.2.1, h.2.2.trans ?_, ?_⟩
    · rw [hv, Int.mul_ediv_cancel _ (by omega)]
    · refine fit_le ?_ hf
      rw [hv, Int.natAbs_mul]
      exact Nat.le_mul_of_pos_right _ (by omega)
  · exact .inr ⟨hf, (app_3 ⟨hok, ha⟩ hpos hf).1⟩
theorem len_subZ (a b : Int) : (digs (a - b).natAbs).length ≤ max (digs a.natAbs).length (digs b.natAbs).length + 1 := by
  have := len_addZ a (-b)
  rwa [Int.natAbs_neg, ← Int.sub_eq_add_neg] at this
end Go.Mth

set_option linter.unusedVariables false
set_option linter.unusedSimpArgs false
namespace Go.Proofs.YtbilndahjkimkaaDoor
open Go Go.Ab Go.Mth
end Go.Proofs.YtbilndahjkimkaaDoor

set_option linter.unusedVariables false
set_option linter.unusedSimpArgs false
namespace Go.Proofs.YtbilndahjkimkaaDoor
open Go Go.Ab Go.Mth
end Go.Proofs.YtbilndahjkimkaaDoor

set_option linter.unusedVariables false
set_option linter.unusedSimpArgs false
namespace Go.Proofs.YtbilndahjkimkaaDoor
open Go Go.Ab Go.Mth
theorem Wm_tA79 : tyAgg cx.P 79 = some 2 := by kernel_rfl
theorem Wm_tA24 : tyAgg cx.P 24 = some 3 := by kernel_rfl
theorem Wm_tC50 : callable cx.P 50 = true := by kernel_rfl
theorem Wm_tZ79 : tySize cx.P 79 = some 2 := by kernel_rfl
theorem c_sWalk (m : MapM) (z : Int) : ECallsW cx 76 [mapV m, intW z] 91 79 [bp (z < 0), .sl 1 (ns .u32 (digs (z).natAbs))] 24 [.lit (.int .i64 m.mod), .sl 1 (is .i64 m.mul), .sl 1 (is .i64 m.add)] := by
  refine ecallsW_of_awp Tryd.func76 (c := _) rfl (Nat.le_of_ble_eq_true rfl) rfl rfl ?_
  show awp cx 6 _ (postW cx Tryd.f76 _ _ _ _ _) ⟨[(0, mapV m), (1, intW z)], []⟩
  refine awp_seq fun K0 hK0 => ?_
  refine awp_region rfl ?_
  refine o_box 2 [(AV.lit (.int .i64 (m.mod))), (AV.sl 1 (is .i64 (m.mul))), (AV.sl 1 (is .i64 (m.add)))] Gd.none rfl rfl ?_
  refine o_box 3 [(bp (z < 0)), (AV.sl 1 (ns .u32 (digs (z).natAbs)))] Gd.none rfl rfl ?_
  refine o_assign (AV.lit .nilFunc) Gd.none rfl ?_
  refine aops_end ?_
  refine hK0 _ ?_
  refine awp_seq fun K1 hK1 => ?_
  refine awp_region rfl ?_
  refine o_makeFunc [(AV.ref 3 (0)), (AV.ref 2 (0))] Gd.none rfl ?_
  refine o_assign (AV.clo 91 [(AV.ref 3 (0)), (AV.ref 2 (0))]) Gd.none rfl ?_
  refine aops_end ?_
  refine hK1 _ ?_
  refine awp_ret ?_
  exact ⟨4, 3, 2, rfl, by decide, rfl, rfl, rfl⟩

theorem it_Walk (m : MapM) (z : Int) (hm : OkM m) (l D : Nat) (fn : FuncId) (tmps : Array Value) (ps : Array Tmp) (assign body : Code) (N : Nat) (R : Nat → List (Nat × AO) → Prop) (X : Code → List (Nat × AO) → Prop)
    (hR : ∀ k mm, R k mm → k ≤ N ∧ (digs (iterZ m k z).natAbs).length ≤ 1000000 ∧ YldAt cx 17 l [nm .i64 k, intW (iterZ m k z)] ⟨[(0, (.lit (.func (.yield l) #[] #[]))), (1, (AV.ref 8001 (0))), (2, (AV.ref 8002 (0))), (4, (nm .i64 (k)))], ((9001, (AO.blk (.loop (lrec fn tmps ps assign body D (.ready) none)))) :: (8001, (oZ 79 .u32 ((iterZ m k z)))) :: (8002, (oM 24 m)) :: mm)⟩ fun b σ' =>
      (b = true ∧ ∃ m', σ' = ⟨[(0, (.lit (.func (.yield l) #[] #[]))), (1, (AV.ref 8001 (0))), (2, (AV.ref 8002 (0))), (4, (nm .i64 (k)))], (9001, .blk (.loop (lrec fn tmps ps assign body D .ready none))) :: m'⟩ ∧ ∃ mm', m' = (8001, .var 79 [bp (iterZ m k z < 0), .sl 1 (ns .u32 (digs (iterZ m k z).natAbs))]) :: (8002, .var 24 [.lit (.int .i64 m.mod), .sl 1 (is .i64 m.mul), .sl 1 (is .i64 m.add)]) :: mm' ∧ R (k + 1) mm') ∨ (b = false ∧ ∃ c m', σ' = ⟨[(0, (.lit (.func (.yield l) #[] #[]))), (1, (AV.ref 8001 (0))), (2, (AV.ref 8002 (0))), (4, (nm .i64 (k)))], (9001, .blk (.loop (lrec fn tmps ps assign body D .done (some c)))) :: m'⟩ ∧ X c m'))
    {mm0 m0 : List (Nat × AO)} (h0 : R 0 mm0) (hw : Wk cx 17 ⟨ent 0 [.lit (.func (.yield l) #[] #[]), .ref 8001 0, .ref 8002 0], m0⟩ ⟨[(0, (.lit (.func (.yield l) #[] #[]))), (1, (AV.ref 8001 (0))), (2, (AV.ref 8002 (0)))], ((9001, (AO.blk (.loop (lrec fn tmps ps assign body D (.ready) none)))) :: (8001, (oZ 79 .u32 (z))) :: (8002, (oM 24 m)) :: mm0)⟩) (hN : N ≤ 4611686018427387904) {cI : Code} (hb : Tryd.f91.body = some cI) :
    awp cx 17 cI (fun e σ2 => e = .normal ∧ ∃ c m', X c m' ∧ Wk cx 17 σ2 ⟨[], (9001, .blk (.loop (lrec fn tmps ps assign body D .done (some c)))) :: m'⟩) ⟨ent 0 [.lit (.func (.yield l) #[] #[]), .ref 8001 0, .ref 8002 0], m0⟩ := by
  have hcI := Option.some.inj hb
  subst hcI
  refine awp_wk hw ?_
  show awp cx 17 _ _ _
  refine awp_seq fun K0 hK0 => ?_
  refine awp_region rfl ?_
  refine o_assign (nm .i64 (0)) Gd.none rfl ?_
  refine aops_end ?_
  refine hK0 _ ?_
  refine awp_block ?_
  refine awp_loopR (fun κ σ => ∃ (k : Nat), ∃ (mm : List (Nat × AO)), (R k mm) ∧ (N + 1 - k) = κ ∧ σ = ⟨[(0, (.lit (.func (.yield l) #[] #[]))), (1, (AV.ref 8001 (0))), (2, (AV.ref 8002 (0))), (4, (nm .i64 (k)))], ((9001, (AO.blk (.loop (lrec fn tmps ps assign body D (.ready) none)))) :: (8001, (oZ 79 .u32 ((iterZ m k z)))) :: (8002, (oM 24 m)) :: mm)⟩) ⟨_, _, ⟨0, mm0, h0, rfl, rfl⟩, ?wk0⟩ ?rd0
  case wk0 =>
    exact Wk.subT (And.intro rfl (And.intro rfl (And.intro rfl (And.intro (by first | rfl | exact congrArg (nm _) (by omega) | exact nm_int (by omega) | exact nm_int (by simp [IntKind.wrap, IntKind.bits, IntKind.signed]; omega)) (trivial))))) (fun _ _ h => h)
  rintro κ _ ⟨k, mm, hr, rfl, rfl⟩
  obtain ⟨hkN, hlen, hY⟩ := hR k mm hr
  refine awp_seq fun K1 hK1 => ?_
  refine awp_seq fun K2 hK2 => ?_
  refine awp_regionYL 8 _ _ _ _ _ _ l [nm .i64 k, intW (iterZ m k z)] rfl rfl ?_
  refine o_move (.lit (.func (.yield l) #[] #[])) Gd.none rfl ?_
  refine o_move (nm .i64 (k)) Gd.none rfl ?_
  refine o_loadA [(bp ((iterZ m k z) < 0)), (AV.sl 1 (ns .u32 (digs ((iterZ m k z)).natAbs)))] Gd.none Wm_tA79 rfl rfl rfl rfl rfl ?_
  refine aops_end ⟨rfl, rfl, YldAt.wk (σ1 := ⟨[(0, (.lit (.func (.yield l) #[] #[]))), (1, (AV.ref 8001 (0))), (2, (AV.ref 8002 (0))), (4, (nm .i64 (k)))], ((9001, (AO.blk (.loop (lrec fn tmps ps assign body D (.ready) none)))) :: (8001, (oZ 79 .u32 ((iterZ m k z)))) :: (8002, (oM 24 m)) :: mm)⟩) (Wk.subT (And.intro rfl (And.intro rfl (And.intro rfl (And.intro rfl (trivial))))) (fun _ _ h => h)) rfl (YldAt.mono hY ?_)⟩
  rintro b σ2 (⟨rfl, m', rfl, mm', rfl, hr'⟩ | ⟨rfl, c, m', rfl, hx⟩)
  · refine hK2 _ ?_
    refine awp_condB (b := true) rfl (fun _ => ?_) (fun hh => absurd (hh.symm.trans rfl) (by decide))
    refine awp_skip ?_
    refine hK1 _ ?_
    refine awp_seq fun K3 hK3 => ?_
    refine awp_block ?_
    refine awp_region rfl ?_
    refine o_loadA [(AV.lit (.int .i64 (m.mod))), (AV.sl 1 (is .i64 (m.mul))), (AV.sl 1 (is .i64 (m.add)))] Gd.none Wm_tA24 rfl rfl rfl rfl rfl ?_
    refine o_loadA [(bp ((iterZ m k z) < 0)), (AV.sl 1 (ns .u32 (digs ((iterZ m k z)).natAbs)))] Gd.none Wm_tA79 rfl rfl rfl rfl rfl ?_
    refine o_call [(mapV m), (intW ((iterZ m k z)))] (AV.tup [(intW ((stepZ m (iterZ m k z)))), (AV.lit (.int .i64 ((iterZ m k z) % m.mod)))]) Gd.none Wm_tC50 rfl (c_sNext m ((iterZ m k z)) (by first | assumption | exact okM_iff.1 (by assumption)) (by first | omega | assumption | (simp only [Int.natAbs_neg]; omega))) ?_
    refine o_move (AV.tup [(intW ((stepZ m (iterZ m k z)))), (AV.lit (.int .i64 ((iterZ m k z) % m.mod)))]) Gd.none rfl ?_
    refine o_extract (intW ((stepZ m (iterZ m k z)))) Gd.none rfl rfl ?_
    refine o_extract (AV.lit (.int .i64 ((iterZ m k z) % m.mod))) Gd.none rfl rfl ?_
    refine o_store ((9001, (AO.blk (.loop (lrec fn tmps ps assign body D (.ready) none)))) :: (8001, (oZ 79 .u32 ((stepZ m (iterZ m k z))))) :: (8002, (oM 24 m)) :: mm') Gd.none Wm_tZ79 rfl rfl rfl rfl rfl rfl ?_
    refine aops_end ?_
    refine hK3 _ ?_
    refine awp_region rfl ?_
    refine o_move (nm .i64 (k)) Gd.none rfl ?_
    refine n_add (k) (1) Gd.none rfl rfl (by simp only [topOf]; omega) ?_
    refine o_assign (nm .i64 ((k) + (1))) Gd.none rfl ?_
    refine aops_end ?_
    refine ⟨_, _, ?lt, ⟨k + 1, mm', hr', rfl, rfl⟩, ?wk⟩
    case lt => (have := hkN; omega)
    case wk => exact Wk.subT (And.intro rfl (And.intro rfl (And.intro rfl (And.intro (by first | rfl | exact congrArg (nm _) (by omega) | exact nm_int (by omega) | exact nm_int (by simp [IntKind.wrap, IntKind.bits, IntKind.signed]; omega)) (trivial))))) (fun _ _ h => h)
  · refine hK2 _ ?_
    refine awp_condB (b := false) rfl (fun hh => absurd (hh.symm.trans rfl) (by decide)) (fun _ => ?_)
    refine awp_exit ?_
    exact ⟨rfl, c, m', hx, Wk.subT trivial (fun _ _ h => h)⟩

end Go.Proofs.YtbilndahjkimkaaDoor

