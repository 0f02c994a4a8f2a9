/- Each operation's step is sound (more cases, and all together). Over any program. -/
import Derived.Test.YtkngglpnejdicaaDoorAb4
set_option linter.unusedVariables false
set_option linter.unusedSimpArgs false
namespace Go.Ab
open Go.RowKit

section
variable {C : Ctx} {n : Nat} {w0 : World} {H : Heap} {L : Loc} {S : SS} {a : Act} {w : World} {o : Oper} {Q : Exit → Act → World → Prop}

theorem hasL_lits (id : Nat) : ∀ (z : List Value), hasL id (z.map .lit) = false
  | [] => rfl
  | _ :: z => by simp [hasL, AV.has, hasL_lits id z]
theorem cellsOf_has {x : AV} {cs : List AV} {id : Nat} (h : cellsOf x = some cs) (hn : x.has id = false) : hasL id cs = false := by
  cases x with
  | any => simp [cellsOf] at h
  | tup fs => simp [cellsOf] at h
  | agg fs => simp [cellsOf] at h; subst h; simpa [AV.has] using hn
  | lit v =>
    cases v with
    | agg arr =>
      simp only [cellsOf] at h
      cases ha : arr.all (·.oneCell') with
      | false => simp [ha] at h
      | true => simp [ha] at h; subst h; exact hasL_lits _ _
    | tuple _ => simp [cellsOf] at h
    | _ => simp [cellsOf] at h; subst h; simp [hasL, AV.has]
  | sl _ _ => simp [cellsOf] at h; subst h; simp [hasL, AV.has]
  | slc _ _ _ => simp [cellsOf] at h; subst h; simp [hasL, AV.has]
  | ref _ _ => simp [cellsOf] at h; subst h; simpa [hasL] using hn
  | row _ => simp [cellsOf] at h; subst h; simpa [hasL] using hn
  | ip _ => simp [cellsOf] at h; subst h; simp [hasL, AV.has]
  | clo _ _ => simp [cellsOf] at h; subst h; simpa [hasL] using hn
theorem ev_has {id : Nat} (hf : S.Fresh id) : ∀ x, (S.ev x).has id = false
  | .tmp t => hf.2.1 t
  | .const v => rfl
  | .global g => rfl
  | .func f => rfl

theorem sound_alloc (hr : Rep C n w0 H L S a w) (hd : ∀ d, o.dst = some d → d < n) {t : TypeId} {z : List Value} {id : Nat} (hf : S.Fresh id) (h : o.op = .alloc t) (hz : tyZero C.P t = some z) (h1 : z.all (·.oneCell') = true) :
    Sound C n w0 H S a w o Q { val := .ref id 0, upd := [(id, some (.var t (z.map .lit)))], fresh := [id] } := by
  unfold tyZero at hz
  cases hi : C.P.info? t with
  | none => simp [hi] at hz
  | some i =>
    cases hzz : i.zero with
    | none => simp [hi, hzz] at hz
    | some zv =>
      simp [hi, hzz] at hz
      subst hz
      refine sound_var hr hd hf (RepL.lits L _) (List.all_eq_true.1 h1) (hasL_lits _ _) ?_
      simp [execOp, h, Instr.alloc, zeroValue, typeInfo, hi, hzz, newVar, newRow]
theorem sound_box (hr : Rep C n w0 H L S a w) (hd : ∀ d, o.dst = some d → d < n) {t : TypeId} {x : Operand} {id : Nat} {cs : List AV} (hf : S.Fresh id) (h : o.op = .box t x) (hx : cellsOf (S.ev x) = some cs) :
    Sound C n w0 H S a w o Q { val := .ref id 0, upd := [(id, some (.var t cs))], fresh := [id] } := by
  obtain ⟨h2, h3⟩ := cellsOf_rep (hr.ev x) hx
  refine sound_var hr hd hf h2 h3 (cellsOf_has hx (ev_has hf x)) ?_
  simp [execOp, h, Instr.box, newVar, newRow]

theorem sound_lenSl (hr : Rep C n w0 H L S a w) (hd : ∀ d, o.dst = some d → d < n) {t e : TypeId} {x : Operand} {sz m : Nat} {cs : List AV} (h : o.op = .call { callee := .builtin .len, args := #[x], argTypes := #[t] }) (ht : C.P.underlying t = some (.slice e)) (hx : S.ev x = .sl sz cs) (hn : cs.length = m * sz) (us fr : List Nat) :
    Sound C n w0 H S a w o Q { val := .lit (.int .i64 m), use := us, fresh := fr } := by
  have he := hr.ev x
  rw [hx] at he
  simp only [RepV] at he
  obtain ⟨A, k, cap, hv, _, _, h3, h4, _⟩ := he
  have hk : k = m := by rw [hn] at h4; exact (Nat.eq_of_mul_eq_mul_right h3 h4).symm
  subst hk
  refine sound_val hr hd (v := .int .i64 k) (by simp [RepV]) us fr ?_
  simp [execOp, h, resolve, invoke, builtin, hv, Builtin.len_, run_underlying ht, goInt]
theorem sound_lenRow (hr : Rep C n w0 H L S a w) (hd : ∀ d, o.dst = some d → d < n) {t e e' : TypeId} {x : Operand} {id sz m : Nat} {cs : List AV} (h : o.op = .call { callee := .builtin .len, args := #[x], argTypes := #[t] }) (ht : C.P.underlying t = some (.slice e)) (hx : S.ev x = .row id) (ho : S.μ id = some (.row e' sz cs)) (hn : cs.length = m * sz) (us fr : List Nat) :
    Sound C n w0 H S a w o Q { val := .lit (.int .i64 m), use := us, fresh := fr } := by
  have he := hr.ev x
  rw [hx] at he
  simp only [RepV] at he
  obtain ⟨v, vs, k, hl, h4, hown, _, _, h3, _⟩ := hr.objs id _ ho
  rw [hl] at he
  have hk : k = m := by rw [hn] at h4; exact (Nat.eq_of_mul_eq_mul_right h3 h4).symm
  subst hk
  have hv : ∃ A c, a.eval x = .slice A k c := by
    rw [← (Option.some.inj he.1)]
    rcases hown.2 with ⟨rfl, rfl⟩ | ⟨g, cap, _, rfl, _⟩
    · exact ⟨none, 0, rfl⟩
    · exact ⟨_, cap, rfl⟩
  obtain ⟨A, c, hv⟩ := hv
  refine sound_val hr hd (v := .int .i64 k) (by simp [RepV]) us fr ?_
  simp [execOp, h, resolve, invoke, builtin, hv, Builtin.len_, run_underlying ht, goInt]

theorem run_fieldAt {P : Program} {t f fo ft : Nat} (hf : tyField P t f = some (fo, ft)) (g off : Nat) : (Instr.fieldAt t (.pointer (some ⟨g, off, none⟩)) f).run P w = .ok (.pointer (some ⟨g, off + fo, none⟩)) w := by
  unfold tyField at hf
  cases hu : P.underlying t with
  | none => simp [hu] at hf
  | some d =>
    cases d <;> simp [hu] at hf
    case struct fields =>
      cases hfi : fields[f]? with
      | none => simp [hfi] at hf
      | some x =>
        cases hi : P.info? x.type with
        | none => simp [hfi, hi] at hf
        | some i =>
          cases hz : Nat.beq i.size 0 with
          | true => simp [hfi, hi, hz] at hf
          | false =>
            simp [hfi, hi, hz] at hf
            obtain ⟨rfl, rfl⟩ := hf
            have : ¬ i.size = 0 := Nat.ne_of_beq_eq_false hz
            simp [Instr.fieldAt, run_underlying hu, hfi, Instr.sureAddr, fieldPlace, sizeOf, typeInfo, hi, this, Addr.add_lit]
theorem sound_fieldRef (hr : Rep C n w0 H L S a w) (hd : ∀ d, o.dst = some d → d < n) {t : TypeId} {x : Operand} {f id off fo : Nat} {ft : TypeId} (h : o.op = .fieldAddr t x f) (hx : S.ev x = .ref id off) (hf : tyField C.P t f = some (fo, ft)) (us fr : List Nat) :
    Sound C n w0 H S a w o Q { val := .ref id (off + fo), use := us, fresh := fr } := by
  have he := hr.ev x
  rw [hx] at he
  simp only [RepV] at he
  obtain ⟨y, g, hl, hg, hv⟩ := he
  refine sound_val hr hd (v := .pointer (some ⟨g, off + fo, none⟩)) (by simp only [RepV]; exact ⟨y, g, hl, hg, rfl⟩) us fr ?_
  simp [execOp, h, hv, run_fieldAt hf]
theorem sound_fieldIp (hr : Rep C n w0 H L S a w) (hd : ∀ d, o.dst = some d → d < n) {t : TypeId} {x : Operand} {f fo : Nat} {ft : TypeId} {cs : List AV} (h : o.op = .fieldAddr t x f) (hx : S.ev x = .ip cs) (hf : tyField C.P t f = some (fo, ft)) (hk : fo < cs.length) (us fr : List Nat) :
    Sound C n w0 H S a w o Q { val := .ip (cs.drop fo), use := us, fresh := fr } := by
  have he := hr.ev x
  rw [hx] at he
  simp only [RepV] at he
  obtain ⟨b, off, arr, ty, fz, vs, hv, hb, hcell, hrl, h1⟩ := he
  refine sound_val hr hd (v := .pointer (some ⟨b, off + fo, none⟩)) ?_ us fr (by simp [execOp, h, hv, run_fieldAt hf])
  simp only [RepV]
  exact ⟨b, off + fo, arr, ty, fz, vs.drop fo, rfl, hb, fun j u hu => by rw [List.getElem?_drop] at hu; rw [Nat.add_assoc]; exact hcell _ _ hu, hrl.drop fo, fun u hu => h1 u (List.mem_of_mem_drop hu)⟩
theorem field_off {P : Program} {t f fo ft : Nat} (hf : tyField P t f = some (fo, ft)) {arr : Array Value} {v : Value} (hp : (part ft arr fo).run P w = .ok v w) : (Instr.field t (.agg arr) f).run P w = .ok v w := by
  unfold tyField at hf
  cases hu : P.underlying t with
  | none => simp [hu] at hf
  | some d =>
    cases d <;> simp [hu] at hf
    case struct fields =>
      cases hfi : fields[f]? with
      | none => simp [hfi] at hf
      | some x =>
        cases hi : P.info? x.type with
        | none => simp [hfi, hi] at hf
        | some i =>
          cases hz : Nat.beq i.size 0 with
          | true => simp [hfi, hi, hz] at hf
          | false =>
            simp [hfi, hi, hz] at hf
            obtain ⟨rfl, rfl⟩ := hf
            simp [Instr.field, run_underlying hu, hfi, asAgg, hp]
theorem sound_fieldS (hr : Rep C n w0 H L S a w) (hd : ∀ d, o.dst = some d → d < n) {t : TypeId} {x : Operand} {f fo : Nat} {ft : TypeId} {cs : List AV} {c : AV} (h : o.op = .field t x f) (hx : S.ev x = .agg cs) (hf : tyField C.P t f = some (fo, ft)) (ht : tySc C.P ft = true) (hk : cs[fo]? = some c) (us fr : List Nat) :
    Sound C n w0 H S a w o Q { val := c, use := us, fresh := fr } := by
  have he := hr.ev x
  rw [hx] at he
  simp only [RepV] at he
  obtain ⟨vs, hv, hrl, h1⟩ := he
  obtain ⟨v, hv1, hv2⟩ := hrl.get hk
  refine sound_val hr hd hv2 us fr ?_
  have hp : (part ft vs.toArray fo).run C.P w = .ok v w := by simp [part, isAgg_sc ht w, hv1]
  simp [execOp, h, hv, field_off hf hp]
theorem sound_fieldA (hr : Rep C n w0 H L S a w) (hd : ∀ d, o.dst = some d → d < n) {t : TypeId} {x : Operand} {f fo k : Nat} {ft : TypeId} {cs : List AV} (h : o.op = .field t x f) (hx : S.ev x = .agg cs) (hf : tyField C.P t f = some (fo, ft)) (ht : tyAgg C.P ft = some k) (hk : fo + k ≤ cs.length) (us fr : List Nat) :
    Sound C n w0 H S a w o Q { val := .agg ((cs.drop fo).take k), use := us, fresh := fr } := by
  have he := hr.ev x
  rw [hx] at he
  simp only [RepV] at he
  obtain ⟨vs, hv, hrl, h1⟩ := he
  obtain ⟨i1, i2⟩ := isAgg_agg ht w
  refine sound_val hr hd (v := .agg ((vs.drop fo).take k).toArray) (by simp only [RepV]; exact ⟨_, rfl, (hrl.drop fo).take k, mem_drop_take h1⟩) us fr ?_
  have hp : (part ft vs.toArray fo).run C.P w = .ok (.agg ((vs.drop fo).take k).toArray) w := by
    simp only [part, Sem.run_bind, i1, Result.andThen_ok, if_true, i2, Sem.run_pure]
    congr 2
    apply Array.ext'
    simp [List.take_drop]
  simp [execOp, h, hv, field_off hf hp]

theorem tyElem_spec {P : Program} {t e sz by' : Nat} (h : tyElem P t = some (e, sz, by')) : P.underlying t = some (.slice e) ∧ ∃ i, P.info? e = some i ∧ i.size = sz ∧ i.bytes = by' := by
  unfold tyElem at h
  cases hu : P.underlying t with
  | none => simp [hu] at h
  | some d =>
    cases d <;> simp [hu] at h
    case slice e' =>
      obtain ⟨i, hi, rfl, rfl, rfl⟩ := h
      exact ⟨rfl, i, hi, rfl, rfl⟩
theorem sound_indexSl (hr : Rep C n w0 H L S a w) (hd : ∀ d, o.dst = some d → d < n) {t : TypeId} {x y : Operand} {e sz by' : Nat} {cs : List AV} {k : IntKind} {i : Int} (h : o.op = .indexAddr t x y) (ht : tyElem C.P t = some (e, sz, by')) (hx : S.ev x = .sl sz cs) (hy : S.ev y = .lit (.int k i)) (h0 : 0 ≤ i) (h1 : i.toNat * sz < cs.length) (us fr : List Nat) :
    Sound C n w0 H S a w o Q { val := .ip (cs.drop (i.toNat * sz)), use := us, fresh := fr } := by
  obtain ⟨hu, ie, hie, hsz, _⟩ := tyElem_spec ht
  have he := hr.ev x
  rw [hx] at he
  have hi := hr.ev y
  rw [hy] at hi
  simp only [RepV] at he hi
  obtain ⟨A, m, cap, hv, _, _, h3, h4, _, h5⟩ := he
  have him : i.toNat < m := by rw [h4] at h1; exact Nat.lt_of_mul_lt_mul_right h1
  obtain ⟨b, off, arr, ty, fz, vs, rfl, hb, hcell, hrl, ho⟩ := h5 (by omega)
  refine sound_val hr hd (v := .pointer (some ⟨b, off + i.toNat * sz, none⟩)) ?_ us fr ?_
  · simp only [RepV]
    exact ⟨b, _, arr, ty, fz, vs.drop (i.toNat * sz), rfl, hb, fun j u hu => by rw [List.getElem?_drop] at hu; rw [Nat.add_assoc]; exact hcell _ _ hu, hrl.drop _, fun u hu => ho u (List.mem_of_mem_drop hu)⟩
  · have hlt : 0 ≤ i ∧ i < (m : Int) := ⟨h0, by omega⟩
    simp [execOp, h, hv, hi, Instr.indexAt, run_underlying hu, asIntOf, hlt, sizeOf, typeInfo, hie, hsz, Addr.add_lit]
theorem sound_indexRow (hr : Rep C n w0 H L S a w) (hd : ∀ d, o.dst = some d → d < n) {t : TypeId} {x y : Operand} {e e' id sz by' : Nat} {cs : List AV} {k : IntKind} {i : Int} (h : o.op = .indexAddr t x y) (ht : tyElem C.P t = some (e, sz, by')) (hx : S.ev x = .row id) (ho : S.μ id = some (.row e' sz cs)) (hy : S.ev y = .lit (.int k i)) (h0 : 0 ≤ i) (h1 : i.toNat * sz < cs.length) (us fr : List Nat) :
    Sound C n w0 H S a w o Q { val := .ref id (i.toNat * sz), use := us, fresh := fr } := by
  obtain ⟨hu, ie, hie, hsz, _⟩ := tyElem_spec ht
  have he := hr.ev x
  rw [hx] at he
  have hi := hr.ev y
  rw [hy] at hi
  simp only [RepV] at he hi
  obtain ⟨v, vs, m, hl, h4, hown, _, _, h3, _⟩ := hr.objs id _ ho
  rw [hl] at he
  have hev := Option.some.inj he.1
  have him : i.toNat < m := by rw [h4] at h1; exact Nat.lt_of_mul_lt_mul_right h1
  rcases hown.2 with ⟨_, rfl⟩ | ⟨g, cap, _, rfl, _⟩
  · omega
  refine sound_val hr hd (v := .pointer (some ⟨g, i.toNat * sz, none⟩)) ?_ us fr ?_
  · simp only [RepV]
    exact ⟨_, g, hl, rfl, rfl⟩
  · have hlt : 0 ≤ i ∧ i < (m : Int) := ⟨h0, by omega⟩
    simp [execOp, h, ← hev, hi, Instr.indexAt, run_underlying hu, asIntOf, hlt, sizeOf, typeInfo, hie, hsz, Addr.add_lit]
end
end Go.Ab
