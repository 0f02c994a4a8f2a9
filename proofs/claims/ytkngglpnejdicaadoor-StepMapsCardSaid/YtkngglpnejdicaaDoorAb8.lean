/- Regions: in the text's order, and in whatever order. Over any program. -/
import Derived.Test.YtkngglpnejdicaaDoorAb7
set_option linter.unusedVariables false
set_option linter.unusedSimpArgs false
namespace Go.Ab
open Go.RowKit

/-- A step hangs on its operands and on the objects that it uses. -/
theorem Step.local {C : Ctx} {S S' : SS} {o : Oper} {e : Eff} (h : Step C S o e) (hev : ∀ x ∈ o.op.operands, S'.ev x = S.ev x) (hμ : ∀ id ∈ e.use, S'.μ id = S.μ id) : Step C S' o e := by
  cases h with
  | pure v h => exact .pure v fun ρ hρ => h ρ fun x hx u hu => hρ x hx u (by rw [hev x hx]; exact hu)
  | copy x h =>
    have : S'.ev x = S.ev x := hev x (by rcases h with h | h <;> simp [h, Op.operands])
    rw [← this]
    exact .copy x h
  | pick c x y t h hc =>
    have e1 : S'.ev c = S.ev c := hev c (by simp [h, Op.operands])
    have e2 : S'.ev x = S.ev x := hev x (by simp [h, Op.operands])
    have e3 : S'.ev y = S.ev y := hev y (by simp [h, Op.operands])
    have := Step.pick (C := C) (S := S') c x y t h (by rw [e1]; exact hc)
    rw [e2, e3] at this
    exact this
  | lenSl t e x sz m cs h ht hx hn => exact .lenSl t e x sz m cs h ht (by rw [hev x (by simp [h, Op.operands, Call.operands])]; exact hx) hn
  | lenRow t e e' x id sz m cs h ht hx ho hn => exact .lenRow t e e' x id sz m cs h ht (by rw [hev x (by simp [h, Op.operands, Call.operands])]; exact hx) (by rw [hμ id (by simp)]; exact ho) hn
  | call f args tys as res h hb hnm ha hc =>
    refine .call f args tys as res h hb hnm ?_ hc
    rw [← ha]
    exact List.map_congr_left fun x hx => hev x (by simp [h, Op.operands, Call.operands, Array.mem_toList_iff.1 hx])
  | callG y f args tys caps us as res h hy hb hnm hu hnd ha hc =>
    refine .callG y f args tys caps us as res h (by rw [hev y (by simp [h, Op.operands, Call.operands])]; exact hy) hb hnm (fun p hp => ?_) hnd ?_ hc
    · obtain ⟨e, he⟩ := hu p hp
      exact ⟨e, by rw [hμ p.1 (List.mem_map_of_mem hp)]; exact he⟩
    · rw [← ha]
      congr 2
      exact List.map_congr_left fun x hx => hev x (by simp [h, Op.operands, Call.operands, Array.mem_toList_iff.1 hx])
  | callB y f args tys caps us as u h hy hb hnm hu hnd ha hc =>
    refine .callB y f args tys caps us as u h (by rw [hev y (by simp [h, Op.operands, Call.operands])]; exact hy) hb hnm (fun p hp => ?_) hnd ?_ hc
    · obtain ⟨e, he⟩ := hu p hp
      exact ⟨e, by rw [hμ p.1 (List.mem_map_of_mem hp)]; exact he⟩
    · rw [← ha]
      congr 2
      exact List.map_congr_left fun x hx => hev x (by simp [h, Op.operands, Call.operands, Array.mem_toList_iff.1 hx])
  | callW f args tys as f2 t1 t2 cs1 cs2 id1 id2 h hb hnm ha hne hc1 hc2 hc =>
    refine .callW f args tys as f2 t1 t2 cs1 cs2 id1 id2 h hb hnm ?_ hne hc1 hc2 hc
    rw [← ha]
    exact List.map_congr_left fun x hx => hev x (by simp [h, Op.operands, Call.operands, Array.mem_toList_iff.1 hx])
  | callM f args tys as res id e sz cs h hb hnm ha hc =>
    refine .callM f args tys as res id e sz cs h hb hnm ?_ hc
    rw [← ha]
    exact List.map_congr_left fun x hx => hev x (by simp [h, Op.operands, Call.operands, Array.mem_toList_iff.1 hx])
  | alloc t z id h hz h1 => exact .alloc t z id h hz h1
  | box t x id cs h hx => exact .box t x id cs h (by rw [hev x (by simp [h, Op.operands])]; exact hx)
  | loadA t x id off k ob h hx ho hni ht hk => exact .loadA t x id off k ob h (by rw [hev x (by simp [h, Op.operands])]; exact hx) (by rw [hμ id (by simp)]; exact ho) hni ht hk
  | iterNew t x id str h ht hx => exact .iterNew t x id str h ht (by rw [hev x (by simp [h, Op.operands])]; exact hx)
  | iterNext x id str pos h hx ho hp => exact .iterNext x id str pos h (by rw [hev x (by simp [h, Op.operands])]; exact hx) (by rw [hμ id (by simp)]; exact ho) hp
  | iterEnd x id str pos h hx ho hp => exact .iterEnd x id str pos h (by rw [hev x (by simp [h, Op.operands])]; exact hx) (by rw [hμ id (by simp)]; exact ho) hp
  | loadS t x id off ob c h hx ho ht hk => exact .loadS t x id off ob c h (by rw [hev x (by simp [h, Op.operands])]; exact hx) (by rw [hμ id (by simp)]; exact ho) ht hk
  | loadIA t x k cs h hx ht hk => exact .loadIA t x k cs h (by rw [hev x (by simp [h, Op.operands])]; exact hx) ht hk
  | loadIS t x c cs h hx ht hk => exact .loadIS t x c cs h (by rw [hev x (by simp [h, Op.operands])]; exact hx) ht hk
  | store t x y id off k ob new h hx ho hy hv ht hn hk =>
    exact .store t x y id off k ob new h (by rw [hev x (by simp [h, Op.operands])]; exact hx) (by rw [hμ id (by simp)]; exact ho) (by rw [hev y (by simp [h, Op.operands])]; exact hy) hv ht hn hk
  | storeRow t x y id off k e sz cs new h hx ho hy hcl ht hn hk =>
    exact .storeRow t x y id off k e sz cs new h (by rw [hev x (by simp [h, Op.operands])]; exact hx) (by rw [hμ id (by simp)]; exact ho) (by rw [hev y (by simp [h, Op.operands])]; exact hy) hcl ht hn hk
  | fieldRef t x f id off fo ft h hx hf => exact .fieldRef t x f id off fo ft h (by rw [hev x (by simp [h, Op.operands])]; exact hx) hf
  | fieldIp t x f fo ft cs h hx hf hk => exact .fieldIp t x f fo ft cs h (by rw [hev x (by simp [h, Op.operands])]; exact hx) hf hk
  | fieldS t x f fo ft cs c h hx hf ht hk => exact .fieldS t x f fo ft cs c h (by rw [hev x (by simp [h, Op.operands])]; exact hx) hf ht hk
  | fieldA t x f fo k ft cs h hx hf ht hk => exact .fieldA t x f fo k ft cs h (by rw [hev x (by simp [h, Op.operands])]; exact hx) hf ht hk
  | indexSl t x y e sz by' cs k i h ht hx hy h0 h1 => exact .indexSl t x y e sz by' cs k i h ht (by rw [hev x (by simp [h, Op.operands])]; exact hx) (by rw [hev y (by simp [h, Op.operands])]; exact hy) h0 h1
  | indexRow t x y e e' id sz by' cs k i h ht hx ho hy h0 h1 =>
    exact .indexRow t x y e e' id sz by' cs k i h ht (by rw [hev x (by simp [h, Op.operands])]; exact hx) (by rw [hμ id (by simp)]; exact ho) (by rw [hev y (by simp [h, Op.operands])]; exact hy) h0 h1
  | build t parts pl z ps cs h hp hz h1 hps hc =>
    refine .build t parts pl z ps cs h hp hz h1 ?_ hc
    rw [← hps]
    congr 1
    refine List.map_congr_left fun p hp' => ?_
    obtain ⟨i, x⟩ := p
    dsimp only
    rw [hev x (by simp only [h, Op.operands, List.mem_toArray, List.mem_map]; exact ⟨(i, x), hp', rfl⟩)]
  | buildSlice t len parts e sz by' z ps cs id h ht hsz hz h1 hzl hps hc hcl hl =>
    refine .buildSlice t len parts e sz by' z ps cs id h ht hsz hz h1 hzl ?_ hc hcl hl
    rw [← hps]
    congr 1
    refine List.map_congr_left fun p hp' => ?_
    obtain ⟨i, x⟩ := p
    dsimp only
    rw [hev x (by simp only [h, Op.operands, List.mem_toArray, List.mem_map]; exact ⟨(i, x), hp', rfl⟩)]
  | make0 t x y e sz by' z k k' c id h ht hsz hz hx hy h0 hb hm => exact .make0 t x y e sz by' z k k' c id h ht hsz hz (by rw [hev x (by simp [h, Op.operands])]; exact hx) (by rw [hev y (by simp [h, Op.operands])]; exact hy) h0 hb hm
  | makeN t x y e by' z k k' c id h ht hz h1 hx hy h0 hb hby => exact .makeN t x y e by' z k k' c id h ht hz h1 (by rw [hev x (by simp [h, Op.operands])]; exact hx) (by rw [hev y (by simp [h, Op.operands])]; exact hy) h0 hb hby
  | sliceSl t x lo hi mx e sz by' m cs l k h ht hx hn hlo hhi hmx h1 h2 =>
    have ex : S'.ev x = S.ev x := hev x (by simp [h, Op.operands])
    refine .sliceSl t x lo hi mx e sz by' m cs l k h ht (by rw [ex]; exact hx) hn ?_ ?_ ?_ h1 h2
    · cases lo with
      | none => exact hlo
      | some y => simp only [SS.loOk] at hlo ⊢; rw [hev y (by simp [h, Op.operands])]; exact hlo
    · cases hi with
      | none => exact hhi
      | some y => simp only [SS.hiOk] at hhi ⊢; rw [hev y (by simp [h, Op.operands])]; exact hhi
    · cases mx with
      | none => exact hmx
      | some y => simp only [SS.mxOk] at hmx ⊢; rw [hev y (by simp [h, Op.operands])]; exact hmx
  | sliceX t x lo hi mx e sz by' m cs l k h ht hx hn hlo hhi hmx hs h1 h2 =>
    have ex : S'.ev x = S.ev x := hev x (by simp [h, Op.operands])
    refine .sliceX t x lo hi mx e sz by' m cs l k h ht (by rw [ex]; exact hx) hn ?_ ?_ ?_ hs h1 h2
    · cases lo with
      | none => exact hlo
      | some y => simp only [SS.loOk] at hlo ⊢; rw [hev y (by simp [h, Op.operands])]; exact hlo
    · cases hi with
      | none => exact hhi
      | some y => simp only [SS.hiOk] at hhi ⊢; rw [hev y (by simp [h, Op.operands])]; exact hhi
    · cases mx with
      | none => exact hmx
      | some y => simp only [SS.mxOk] at hmx ⊢; rw [hev y (by simp [h, Op.operands])]; exact hmx
  | append t s x e sz by' z id id' cs ds us h ht hsz hz hzl hs ho hx hb hl =>
    have es : S'.ev s = S.ev s := hev s (by simp [h, Op.operands, Call.operands])
    have ex : S'.ev x = S.ev x := hev x (by simp [h, Op.operands, Call.operands])
    rcases hx with ⟨h1, rfl⟩ | ⟨i, e', h1, h2, rfl⟩
    · exact .append t s x e sz by' z id id' cs ds _ h ht hsz hz hzl (by rw [es]; exact hs) (by rw [hμ id (by simp)]; exact ho) (.inl ⟨by rw [ex]; exact h1, rfl⟩) hb hl
    · exact .append t s x e sz by' z id id' cs ds _ h ht hsz hz hzl (by rw [es]; exact hs) (by rw [hμ id (by simp)]; exact ho) (.inr ⟨i, e', by rw [ex]; exact h1, by rw [hμ i (by simp)]; exact h2, rfl⟩) hb hl
  | appendNil t s x e sz by' z id' ds us h ht hsz hz hzl hs hx hb hl =>
    have es : S'.ev s = S.ev s := hev s (by simp [h, Op.operands, Call.operands])
    have ex : S'.ev x = S.ev x := hev x (by simp [h, Op.operands, Call.operands])
    rcases hx with ⟨h1, rfl⟩ | ⟨i, e', h1, h2, rfl⟩
    · exact .appendNil t s x e sz by' z id' ds _ h ht hsz hz hzl (by rw [es]; exact hs) (.inl ⟨by rw [ex]; exact h1, rfl⟩) hb hl
    · exact .appendNil t s x e sz by' z id' ds _ h ht hsz hz hzl (by rw [es]; exact hs) (.inr ⟨i, e', by rw [ex]; exact h1, by rw [hμ i (by simp)]; exact h2, rfl⟩) hb hl
  | appendS t tu s x e id id' cs str h ht hus hz hs ho hx hb =>
    exact .appendS t tu s x e id id' cs str h ht hus hz (by rw [hev s (by simp [h, Op.operands, Call.operands])]; exact hs) (by rw [hμ id (by simp)]; exact ho) (by rw [hev x (by simp [h, Op.operands, Call.operands])]; exact hx) hb
  | extract x i fs c h hx hi => exact .extract x i fs c h (by rw [hev x (by simp [h, Op.operands])]; exact hx) hi
  | strOf t t' x id e sz bs cs h ht he ht' hx ho hsz hc => exact .strOf t t' x id e sz bs cs h ht he ht' (by rw [hev x (by simp [h, Op.operands])]; exact hx) (by rw [hμ id (by simp)]; exact ho) hsz hc
  | makeFunc f caps h =>
    have : caps.toList.map S'.ev = caps.toList.map S.ev := List.map_congr_left fun x hx => hev x (by simp [h, Op.operands, Array.mem_toList_iff.1 hx])
    rw [← this]
    exact .makeFunc f caps h
  | nilRef x id off h hx => exact .nilRef x id off h (by rw [hev x (by simp [h, Op.operands])]; exact hx)
  | nilIp x cs h hx => exact .nilIp x cs h (by rw [hev x (by simp [h, Op.operands])]; exact hx)

def guardSlot (ops : Array Oper) (o : Oper) : Option Nat := match o.guard with
  | none => none
  | some (j, _) => (ops[j]?).bind (·.dst)

/-- One operation of a region: done, or passed over. -/
inductive TrOp (C : Ctx) (ops : Array Oper) (S : SS) (o : Oper) : Eff → Prop
  | run {e : Eff} (hg : o.guard = none) (h : Step C S o e) : TrOp C ops S o e
  | runG {e : Eff} (j : Nat) (want : Bool) (d : Nat) (hg : o.guard = some (j, want)) (hd : (ops[j]?).bind (·.dst) = some d) (hb : S.ρ d = .lit (.bool want)) (h : Step C S o e) : TrOp C ops S o e
  | skip (j : Nat) (want : Bool) (u : Value) (d : Nat) (hg : o.guard = some (j, want)) (hd : (ops[j]?).bind (·.dst) = some d) (hb : S.ρ d = .lit u) (hne : u ≠ .bool want) : TrOp C ops S o { val := .lit undef }

theorem TrOp.local {C : Ctx} {ops : Array Oper} {S S' : SS} {o : Oper} {e : Eff} (h : TrOp C ops S o e) (hev : ∀ x ∈ o.op.operands, S'.ev x = S.ev x) (hgs : ∀ d, guardSlot ops o = some d → S'.ρ d = S.ρ d) (hμ : ∀ id ∈ e.use, S'.μ id = S.μ id) : TrOp C ops S' o e := by
  cases h with
  | run hg h => exact .run hg (h.local hev hμ)
  | runG j want d hg hd hb h => exact .runG j want d hg hd (by rw [hgs d (by simp [guardSlot, hg, hd])]; exact hb) (h.local hev hμ)
  | skip j want u d hg hd hb hne => exact .skip j want u d hg hd (by rw [hgs d (by simp [guardSlot, hg, hd])]; exact hb) hne

section
variable {C : Ctx} {n : Nat} {w0 : World} {H : Heap} {L : Loc} {S : SS} {a : Act} {w : World} {ops : Array Oper} {Q : Exit → Act → World → Prop}

theorem Rep.yielded (h : Rep C n w0 H L S a w) {j d : Nat} {b : Bool} (hd : (ops[j]?).bind (·.dst) = some d) (hb : S.ρ d = .lit (.bool b)) : yielded ops a.tmps j = some b := by
  have hs := h.slot d
  rw [hb] at hs
  simp only [RepV] at hs
  unfold Go.yielded
  rw [hd]
  simp only [Option.bind_some]
  have : a.tmps[d]? = some (.bool b) := by
    cases ht : a.tmps[d]? with
    | none => simp [Array.getD_eq_getD_getElem?, ht, undef] at hs
    | some v => simpa [Array.getD_eq_getD_getElem?, ht] using hs
  rw [this]

/-- One operation, in the machine's own words. -/
theorem TrOp.sound {i : Nat} {o : Oper} {e : Eff} (h : TrOp C ops S o e) (hi : ops[i]? = some o) (hr : Rep C n w0 H L S a w) (hd : ∀ d, o.dst = some d → d < n) (hf : ∀ id ∈ e.fresh, S.Fresh id) {K : Act → World → Prop}
    (hK : ∀ a' w' H' L', Ext w0.heap.size H H' → Rep C n w0 H' L' (S.app o.dst e) a' w' → K a' w') : ∀ r, wpOpIn (fen r) 0 C.P ops Q i K a w := fun r => by
  unfold wpOpIn
  simp only [hi]
  have step : ∀ e, Step C S o e → (∀ id ∈ e.fresh, S.Fresh id) → (∀ a' w' H' L', Ext w0.heap.size H H' → Rep C n w0 H' L' (S.app o.dst e) a' w' → K a' w') → o.wpA C.P a w K Q := fun e h hf hK r => by
    have := Step.sound (Q := Q) h hr hd hf r
    exact Oper.wpIn_mono (fun a' w' ⟨H', L', hx, hr'⟩ => hK a' w' H' L' hx hr') this
  cases h with
  | run hg h =>
    rw [if_pos (by simp [Region.wanted, hg])]
    exact step e h hf hK r
  | runG j want d hg hd' hb h =>
    rw [if_pos (by simp [Region.wanted, hg, hr.yielded hd' hb])]
    exact step e h hf hK r
  | skip j want u d hg hd' hb hne =>
    have hy : yielded ops a.tmps j ≠ some want := by
      have hs := hr.slot d
      rw [hb] at hs
      simp only [RepV] at hs
      unfold Go.yielded
      rw [hd']
      simp only [Option.bind_some]
      cases ht : a.tmps[d]? with
      | none => simp
      | some v =>
        have : v = u := by simpa [Array.getD_eq_getD_getElem?, ht] using hs
        subst this
        intro hc
        cases v <;> simp at hc
        exact hne (by rw [hc])
    rw [if_neg (by
      simp only [Region.wanted, hg]
      cases hyy : yielded ops a.tmps j with
      | none => simp
      | some c => simp; intro hc; exact hy (by rw [hyy, hc]))]
    exact ⟨fun _ _ => trivial, hK _ _ H L (Ext.refl _ _) (hr.val hd (by simp [RepV]) [] [])⟩

/-- A region in the text's order. -/
inductive Trace (C : Ctx) (ops : Array Oper) : SS → List Oper → List Eff → SS → Prop
  | nil (S : SS) : Trace C ops S [] [] S
  | cons {S S' : SS} {o : Oper} {os : List Oper} {e : Eff} {es : List Eff} (h : TrOp C ops S o e) (hf : ∀ id ∈ e.fresh, S.Fresh id) (t : Trace C ops (S.app o.dst e) os es S') : Trace C ops S (o :: os) (e :: es) S'

theorem lex_sound (r : Option Nat) : ∀ (os : List Oper) (i : Nat) (S S' : SS) (es : List Eff) (H : Heap) (L : Loc) (a : Act) (w : World), ops.toList.drop i = os → Trace C ops S os es S' → Rep C n w0 H L S a w → (∀ o ∈ os, ∀ d, o.dst = some d → d < n) →
    (∀ a' w' H' L', Ext w0.heap.size H H' → Rep C n w0 H' L' S' a' w' → Q .normal a' w') → wpOpsIn (fen r) 0 C.P ops Q (List.range' i os.length) a w
  | [], i, S, S', es, H, L, a, w, hos, ht, hr, hd, hQ => by
    cases ht
    simp only [List.length_nil, List.range'_zero, wpOpsIn]
    exact hQ a w H L (Ext.refl _ _) hr
  | o :: os, i, S, S', es, H, L, a, w, hos, ht, hr, hd, hQ => by
    cases ht with
    | cons h hf t =>
      simp only [List.length_cons, List.range'_succ]
      rw [wpOpsIn_cons]
      have hi : ops[i]? = some o := by
        have := congrArg (·[0]?) hos
        simp only [List.getElem?_drop, Nat.add_zero, List.getElem?_cons_zero, Array.getElem?_toList] at this
        exact this
      have hos' : ops.toList.drop (i + 1) = os := by
        have := congrArg (List.drop 1) hos
        simpa using this
      refine h.sound hi hr (hd o (by simp)) hf (fun a' w' H' L' hx hr' => ?_) r
      exact lex_sound r os (i + 1) _ S' _ H' L' a' w' hos' t hr' (fun o' ho' => hd o' (by simp [ho'])) fun a2 w2 H2 L2 hx2 hr2 => hQ a2 w2 H2 L2 (hx.trans hx2) hr2

theorem region_lex {id : Nat} {S' : SS} {es : List Eff} (ht : Trace C ops S ops.toList es S') (hr : Rep C n w0 H L S a w) (hd : ∀ o ∈ ops.toList, ∀ d, o.dst = some d → d < n) (hQ : ∀ a' w' H' L', Ext w0.heap.size H H' → Rep C n w0 H' L' S' a' w' → Q .normal a' w') :
    (Code.region id ops false).wpA C.P Q a w := fun r => by
  refine wpIn_region ?_
  rw [List.range_eq_range']
  have := lex_sound (C := C) (n := n) (w0 := w0) (ops := ops) (Q := Q) r ops.toList 0 S S' es H L a w (by simp) ht hr hd hQ
  simpa using this
end
end Go.Ab
