/- Each operation's step is sound: slices, appends, and all together. Over any program. -/
import Derived.Laws.RangeString
import Derived.Test.YtkngglpnejdicaaDoorAb6
set_option linter.unusedVariables false
set_option linter.unusedSimpArgs false
namespace Go.Ab
open Go.RowKit

section
variable {C : Ctx} {n : Nat} {w0 : World} {H : Heap} {L : Loc} {S : SS} {a : Act} {w : World} {o : Oper} {Q : Exit → Act → World → Prop}

theorem below_grown_none {w w' : World} (h : w.grownBy w' none) : Below w.heap.size w w' := ⟨h.os, h.tape, h.output, h.size, fun k hk => h.block k hk (by simp)⟩

theorem sound_make0 (hr : Rep C n w0 H L S a w) (hd : ∀ d, o.dst = some d → d < n) {t : TypeId} {x y : Operand} {e : TypeId} {sz by' : Nat} {z : List Value} {k k' : IntKind} {c : Int} {id : Nat} (hfr : S.Fresh id) (h : o.op = .makeSlice t x y) (ht : tyElem C.P t = some (e, sz, by')) (hsz : 0 < sz) (hz : tyZero C.P e = some z)
    (hx : S.ev x = .lit (.int k 0)) (hy : S.ev y = .lit (.int k' c)) (h0 : 0 ≤ c) (hb : by' * c.toNat ≤ 281474976710656) (hm : c ≤ 9223372036854775807) : Sound C n w0 H S a w o Q { val := .row id, upd := [(id, some (.row e sz []))], fresh := [id] } := by
  obtain ⟨hu, ie, hie, hisz, hiby⟩ := tyElem_spec ht
  obtain ⟨i, zv, hi, hzz, hzc⟩ := tyZero_spec hz
  rw [hie] at hi
  cases hi
  have ex := hr.ev x
  have ey := hr.ev y
  rw [hx] at ex
  rw [hy] at ey
  simp only [RepV] at ex ey
  obtain ⟨w', hrun, hown, hgr⟩ := run_make_own (P := C.P) w w.heap.size t e ie zv sz hu hie hzz hisz k k' c.toNat (by rw [hiby]; exact hb) (by simp only [maxLen]; omega) (Nat.le_refl _)
  rw [Int.toNat_of_nonneg h0] at hrun
  refine sound_row hr hd hfr (m := 0) (vs := []) (by simp [RepL]) (by simp) hsz (by simp) (by simp) hown (below_grown_none hgr) rfl ?_
  simp [execOp, h, ex, ey, hrun]

theorem sound_makeN (hr : Rep C n w0 H L S a w) (hd : ∀ d, o.dst = some d → d < n) {t : TypeId} {x y : Operand} {e : TypeId} {by' : Nat} {z : Value} {k k' : IntKind} {c : Int} {id : Nat} (hfr : S.Fresh id) (h : o.op = .makeSlice t x y) (ht : tyElem C.P t = some (e, 1, by')) (hz : tyZero C.P e = some [z]) (h1 : z.oneCell' = true)
    (hx : S.ev x = .lit (.int k c)) (hy : S.ev y = .lit (.int k' c)) (h0 : 0 ≤ c) (hb : by' * c.toNat ≤ 140737488355328) (hby : 0 < by') : Sound C n w0 H S a w o Q { val := .row id, upd := [(id, some (.row e 1 (List.replicate c.toNat (.lit z))))], fresh := [id] } := by
  obtain ⟨hu, ie, hie, hisz, hiby⟩ := tyElem_spec ht
  obtain ⟨i, zv, hi, hzz, hzc⟩ := tyZero_spec hz
  rw [hie] at hi
  cases hi
  have ex := hr.ev x
  have ey := hr.ev y
  rw [hx] at ex
  rw [hy] at ey
  simp only [RepV] at ex ey
  have hcle : c.toNat ≤ 140737488355328 := by
    have : 1 * c.toNat ≤ by' * c.toNat := Nat.mul_le_mul_right _ hby
    omega
  obtain ⟨w', hrun, hown, hgr⟩ := run_make_full (P := C.P) w w.heap.size t e ie zv 1 hu hie hzz hisz k k' c.toNat (by rw [hiby]; omega) (by simp only [maxLen]; omega) (Nat.le_refl _)
  rw [Int.toNat_of_nonneg h0] at hrun
  have hzv : zv.cells = #[z] := by
    apply Array.ext'
    simpa using hzc
  rw [Nat.mul_one, hzv, toList_madeCells_one] at hown
  refine sound_row hr hd hfr (m := c.toNat) (vs := List.replicate c.toNat z) ?_ (fun u hu => by rw [List.eq_of_mem_replicate hu]; exact h1) (by omega) (by simp) (by simp; omega) hown (below_grown_none hgr) rfl ?_
  · have := RepL.lits (H := H) noLoc (List.replicate c.toNat z)
    simpa using this
  · simp [execOp, h, ex, ey, hrun]

theorem run_bound (k : IntKind) (i : Int) (y : Nat) (code : BoundsCode) (P : Program) (h0 : 0 ≤ i) (h1 : i.toNat ≤ y) : (Instr.sliceBound (.int k i) y code).run P w = .ok i.toNat w := run_sliceBound w k i y code h0 (by omega)

theorem sound_sliceSl (hr : Rep C n w0 H L S a w) (hd : ∀ d, o.dst = some d → d < n) {t : TypeId} {x : Operand} {lo hi mx : Option Operand} {e : TypeId} {sz by' m' : Nat} {cs : List AV} {l m : Nat} (h : o.op = .slice t x lo hi mx) (ht : tyElem C.P t = some (e, sz, by')) (hx : S.ev x = .sl sz cs) (hn : cs.length = m' * sz)
    (hlo : S.loOk lo l) (hhi : S.hiOk hi m' m) (hmx : S.mxOk mx hi.isSome m)
    (h1 : l ≤ m) (h2 : m ≤ m') (us fr : List Nat) : Sound C n w0 H S a w o Q { val := .sl sz ((cs.drop (l * sz)).take ((m - l) * sz)), use := us, fresh := fr } := by
  obtain ⟨hu, ie, hie, hisz, hiby⟩ := tyElem_spec ht
  have he := hr.ev x
  rw [hx] at he
  simp only [RepV] at he
  obtain ⟨A, k0, cap, hv, hk1, hk2, h3, h4, ⟨hmx2, hA⟩, h5⟩ := he
  have hk : k0 = m' := by rw [hn] at h4; exact (Nat.eq_of_mul_eq_mul_right h3 h4).symm
  subst hk
  have key : ∀ M, m ≤ M → M ≤ cap → RepV H (.sl sz ((cs.drop (l * sz)).take ((m - l) * sz))) L (.slice (if M = l then A else A.map (·.add (l * sz))) (m - l) (M - l)) := by
    intro M hM1 hM2
    simp only [RepV]
    have hls : l * sz ≤ m * sz := Nat.mul_le_mul_right _ h1
    have hms : m * sz ≤ k0 * sz := Nat.mul_le_mul_right _ h2
    have hlen : (List.take ((m - l) * sz) (List.drop (l * sz) cs)).length = (m - l) * sz := by
      rw [List.length_take, List.length_drop, Nat.sub_mul]
      omega
    refine ⟨_, m - l, M - l, rfl, by omega, by omega, h3, hlen, ⟨by rw [hlen, Nat.sub_mul]; omega, fun hnone => ?_⟩, fun hpos => ?_⟩
    · split at hnone
      · omega
      · have : A = none := by simpa using hnone
        have := hA this
        omega
    · obtain ⟨b, off, arr, ty, fz, vs, rfl, hb, hcell, hrl, ho⟩ := h5 (by omega)
      refine ⟨b, off + l * sz, arr, ty, fz, (vs.drop (l * sz)).take ((m - l) * sz), ?_, hb, fun j u hu => ?_, (hrl.drop _).take _, mem_drop_take ho⟩
      · rw [if_neg (by omega)]
        simp [Addr.add_lit]
      · rw [List.getElem?_take] at hu
        split at hu
        · rw [List.getElem?_drop] at hu
          rw [Nat.add_assoc]
          exact hcell _ _ hu
        · cases hu
  have hl : (sizeOf e).run C.P w = .ok sz w := by simp [sizeOf, typeInfo, hie, hisz]
  have run : ∀ M, m ≤ M → M ≤ cap → (Instr.sliceBounds true k0 cap (lo.map a.eval) (hi.map a.eval) (mx.map a.eval)).run C.P w = .ok (l, m, M) w → (execOp a.eval o).run C.P w = .ok (.value (.slice (if M = l then A else A.map (·.add (l * sz))) (m - l) (M - l))) w := by
    intro M _ _ hb
    simp [execOp, h, hv, Instr.sliceAt, run_underlying hu, Instr.slice, hb, hl]
  have evi : ∀ y k i, S.ev y = .lit (.int k i) → a.eval y = .int k i := fun y k i hy => by
    have := hr.ev y
    rw [hy] at this
    simpa [RepV] using this
  cases hi with
  | none =>
    simp only [SS.hiOk] at hhi
    subst hhi
    cases mx with
    | some y => obtain ⟨_, _, _, _, _, hc⟩ := hmx; simp at hc
    | none =>
      refine sound_val hr hd (key cap hk1 (Nat.le_refl _)) us fr (run cap hk1 (Nat.le_refl _) ?_)
      cases lo with
      | none => simp only [SS.loOk] at hlo; subst hlo; simp [Instr.sliceBounds]
      | some y =>
        obtain ⟨k, i, hy, hi0, rfl⟩ := hlo
        simp [Instr.sliceBounds, evi y k i hy, run_bound k i _ _ C.P hi0 h1]
  | some yh =>
    obtain ⟨kh, ih, hyh, hi0, rfl⟩ := hhi
    cases mx with
    | none =>
      refine sound_val hr hd (key cap (by omega) (Nat.le_refl _)) us fr (run cap (by omega) (Nat.le_refl _) ?_)
      cases lo with
      | none => simp only [SS.loOk] at hlo; subst hlo; simp [Instr.sliceBounds, evi yh kh ih hyh, run_bound kh ih cap _ C.P hi0 (by omega)]
      | some y =>
        obtain ⟨k, i, hy, hi0', rfl⟩ := hlo
        simp [Instr.sliceBounds, evi y k i hy, evi yh kh ih hyh, run_bound kh ih cap _ C.P hi0 (by omega), run_bound k i _ _ C.P hi0' h1]
    | some ym =>
      obtain ⟨km, im, hym, him0, himm, _⟩ := hmx
      rw [← Int.toNat_of_nonneg him0, ← himm] at hym
      refine sound_val hr hd (key ih.toNat (Nat.le_refl _) (by omega)) us fr (run ih.toNat (Nat.le_refl _) (by omega) ?_)
      have em := evi ym km _ hym
      have hbm := run_bound (w := w) km (ih.toNat : Int) cap .slice3Acap C.P (by omega) (by omega)
      simp only [Int.toNat_natCast] at hbm
      cases lo with
      | none => simp only [SS.loOk] at hlo; subst hlo; simp only [Option.map_some, Option.map_none, em, evi yh kh ih hyh, Instr.sliceBounds, Sem.run_bind, hbm, Result.andThen_ok, if_true, run_bound kh ih ih.toNat _ C.P hi0 (Nat.le_refl _), Sem.run_pure]
      | some y =>
        obtain ⟨k, i, hy, hi0', rfl⟩ := hlo
        simp only [Option.map_some, em, evi y k i hy, evi yh kh ih hyh, Instr.sliceBounds, Sem.run_bind, hbm, Result.andThen_ok, if_true, run_bound kh ih ih.toNat _ C.P hi0 (Nat.le_refl _), Sem.run_pure, Option.isSome_some, run_bound k i _ _ C.P hi0' h1]

theorem sound_sliceX (hr : Rep C n w0 H L S a w) (hd : ∀ d, o.dst = some d → d < n) {t : TypeId} {x : Operand} {lo hi mx : Option Operand} {e : TypeId} {sz by' m' : Nat} {cs : List AV} {l m : Nat} (h : o.op = .slice t x lo hi mx) (ht : tyElem C.P t = some (e, sz, by')) (hx : S.ev x = .sl sz cs) (hn : cs.length = m' * sz)
    (hlo : S.loOk lo l) (hhi : S.hiOk hi m' m) (hmx : S.mxOk mx hi.isSome m)
    (hs : mx.isSome = true) (h1 : l ≤ m) (h2 : m ≤ m') (us fr : List Nat) : Sound C n w0 H S a w o Q { val := .slc sz ((cs.drop (l * sz)).take ((m - l) * sz)) (m - l), use := us, fresh := fr } := by
  obtain ⟨hu, ie, hie, hisz, hiby⟩ := tyElem_spec ht
  have he := hr.ev x
  rw [hx] at he
  simp only [RepV] at he
  obtain ⟨A, k0, cap, hv, hk1, hk2, h3, h4, ⟨hmx2, hA⟩, h5⟩ := he
  have hk : k0 = m' := by rw [hn] at h4; exact (Nat.eq_of_mul_eq_mul_right h3 h4).symm
  subst hk
  have key : ∀ M, m ≤ M → M ≤ cap → RepV H (.slc sz ((cs.drop (l * sz)).take ((m - l) * sz)) (M - l)) L (.slice (if M = l then A else A.map (·.add (l * sz))) (m - l) (M - l)) := by
    intro M hM1 hM2
    simp only [RepV]
    have hls : l * sz ≤ m * sz := Nat.mul_le_mul_right _ h1
    have hms : m * sz ≤ k0 * sz := Nat.mul_le_mul_right _ h2
    have hlen : (List.take ((m - l) * sz) (List.drop (l * sz) cs)).length = (m - l) * sz := by
      rw [List.length_take, List.length_drop, Nat.sub_mul]
      omega
    refine ⟨_, m - l, rfl, by omega, by omega, h3, hlen, ⟨by rw [hlen, Nat.sub_mul]; omega, fun hnone => ?_⟩, fun hpos => ?_⟩
    · split at hnone
      · omega
      · have : A = none := by simpa using hnone
        have := hA this
        omega
    · obtain ⟨b, off, arr, ty, fz, vs, rfl, hb, hcell, hrl, ho⟩ := h5 (by omega)
      refine ⟨b, off + l * sz, arr, ty, fz, (vs.drop (l * sz)).take ((m - l) * sz), ?_, hb, fun j u hu => ?_, (hrl.drop _).take _, mem_drop_take ho⟩
      · rw [if_neg (by omega)]
        simp [Addr.add_lit]
      · rw [List.getElem?_take] at hu
        split at hu
        · rw [List.getElem?_drop] at hu
          rw [Nat.add_assoc]
          exact hcell _ _ hu
        · cases hu
  have hl : (sizeOf e).run C.P w = .ok sz w := by simp [sizeOf, typeInfo, hie, hisz]
  have run : ∀ M, m ≤ M → M ≤ cap → (Instr.sliceBounds true k0 cap (lo.map a.eval) (hi.map a.eval) (mx.map a.eval)).run C.P w = .ok (l, m, M) w → (execOp a.eval o).run C.P w = .ok (.value (.slice (if M = l then A else A.map (·.add (l * sz))) (m - l) (M - l))) w := by
    intro M _ _ hb
    simp [execOp, h, hv, Instr.sliceAt, run_underlying hu, Instr.slice, hb, hl]
  have evi : ∀ y k i, S.ev y = .lit (.int k i) → a.eval y = .int k i := fun y k i hy => by
    have := hr.ev y
    rw [hy] at this
    simpa [RepV] using this
  cases mx with
  | none => simp at hs
  | some ym =>
    cases hi with
    | none => obtain ⟨_, _, _, _, _, hc⟩ := hmx; simp at hc
    | some yh =>
      obtain ⟨kh, ih, hyh, hi0, rfl⟩ := hhi
      obtain ⟨km, im, hym, him0, himm, _⟩ := hmx
      rw [← Int.toNat_of_nonneg him0, ← himm] at hym
      refine sound_val hr hd (key ih.toNat (Nat.le_refl _) (by omega)) us fr (run ih.toNat (Nat.le_refl _) (by omega) ?_)
      have em := evi ym km _ hym
      have hbm := run_bound (w := w) km (ih.toNat : Int) cap .slice3Acap C.P (by omega) (by omega)
      simp only [Int.toNat_natCast] at hbm
      cases lo with
      | none => simp only [SS.loOk] at hlo; subst hlo; simp only [Option.map_some, Option.map_none, em, evi yh kh ih hyh, Instr.sliceBounds, Sem.run_bind, hbm, Result.andThen_ok, if_true, run_bound kh ih ih.toNat _ C.P hi0 (Nat.le_refl _), Sem.run_pure]
      | some y =>
        obtain ⟨k, i, hy, hi0', rfl⟩ := hlo
        simp only [Option.map_some, em, evi y k i hy, evi yh kh ih hyh, Instr.sliceBounds, Sem.run_bind, hbm, Result.andThen_ok, if_true, run_bound kh ih ih.toNat _ C.P hi0 (Nat.le_refl _), Sem.run_pure, Option.isSome_some, run_bound k i _ _ C.P hi0' h1]

theorem sound_extract (hr : Rep C n w0 H L S a w) (hd : ∀ d, o.dst = some d → d < n) {x : Operand} {i : Nat} {fs : List AV} {c : AV} (h : o.op = .extract x i) (hx : S.ev x = .tup fs) (hi : fs[i]? = some c) (us fr : List Nat) : Sound C n w0 H S a w o Q { val := c, use := us, fresh := fr } := by
  have he := hr.ev x
  rw [hx] at he
  simp only [RepV] at he
  obtain ⟨vs, hv, hrl⟩ := he
  obtain ⟨v, hv1, hv2⟩ := hrl.get hi
  refine sound_val hr hd hv2 us fr ?_
  simp [execOp, h, hv, Instr.extract, hv1]

theorem sound_makeFunc (hr : Rep C n w0 H L S a w) (hd : ∀ d, o.dst = some d → d < n) {f : FuncId} {caps : Array Operand} (h : o.op = .makeFunc (.func f) #[] caps) (us fr : List Nat) : Sound C n w0 H S a w o Q { val := .clo f (caps.toList.map S.ev), use := us, fresh := fr } := by
  have hargs : ∀ (l : List Operand), RepL H (l.map S.ev) L (l.map a.eval) := by
    intro l
    induction l with
    | nil => simp only [List.map_nil, RepL]
    | cons x l ih => simp only [List.map_cons, RepL]; exact ⟨_, _, rfl, hr.ev x, ih⟩
  refine sound_val hr hd (v := .func (.func f) #[] (caps.map a.eval)) ?_ us fr (by simp [execOp, h, Instr.makeFunc])
  simp only [RepV]
  exact ⟨_, by congr 1; apply Array.ext'; rw [Array.toList_map], hargs caps.toList⟩

theorem sound_nilRef (hr : Rep C n w0 H L S a w) (hd : ∀ d, o.dst = some d → d < n) {x : Operand} {id off : Nat} (h : o.op = .nilCheck x) (hx : S.ev x = .ref id off) (us fr : List Nat) : Sound C n w0 H S a w o Q { val := .ref id off, use := us, fresh := fr } := by
  have he := hr.ev x
  rw [hx] at he
  refine sound_val hr hd he us fr ?_
  simp only [RepV] at he
  obtain ⟨y, g, hl, hg, hv⟩ := he
  simp [execOp, h, hv]
theorem sound_nilIp (hr : Rep C n w0 H L S a w) (hd : ∀ d, o.dst = some d → d < n) {x : Operand} {cs : List AV} (h : o.op = .nilCheck x) (hx : S.ev x = .ip cs) (us fr : List Nat) : Sound C n w0 H S a w o Q { val := .ip cs, use := us, fresh := fr } := by
  have he := hr.ev x
  rw [hx] at he
  refine sound_val hr hd he us fr ?_
  simp only [RepV] at he
  obtain ⟨b, off, arr, ty, fz, vs, hv, _⟩ := he
  simp [execOp, h, hv]

theorem sound_strOf (hr : Rep C n w0 H L S a w) (hd : ∀ d, o.dst = some d → d < n) {t t' : TypeId} {x : Operand} {id e sz : Nat} {bs : List Int} {cs : List AV} (h : o.op = .convert t t' x) (ht : C.P.underlying t = some (.slice e)) (he : C.P.underlying e = some (.int .u8)) (ht' : C.P.underlying t' = some .string)
    (hx : S.ev x = .row id) (ho : S.μ id = some (.row e sz cs)) (hsz : sz = 1) (hc : cs = bs.map fun b => .lit (.int .u8 b)) (us fr : List Nat) : Sound C n w0 H S a w o Q { val := .lit (.string (strOfNums bs)), use := us, fresh := fr } := by
  subst hsz
  have hev := hr.ev x
  rw [hx] at hev
  simp only [RepV] at hev
  obtain ⟨v, vs, k, hl, h4, hown, hrl, _, h3, _⟩ := hr.objs id _ ho
  rw [hl] at hev
  have hv := Option.some.inj hev.1
  have hvs : vs = bs.map (Value.int .u8) := by
    subst hc
    have : ∀ (bs : List Int) (vs : List Value), RepL H (bs.map fun b => AV.lit (.int .u8 b)) noLoc vs → vs = bs.map (Value.int .u8) := by
      intro bs
      induction bs with
      | nil => intro vs hv; simpa [RepL] using hv
      | cons b bs ih =>
        intro vs hv
        simp only [List.map_cons, RepL, RepV] at hv
        obtain ⟨v, r, rfl, rfl, h2⟩ := hv
        rw [ih r h2]
        rfl
    exact this bs vs hrl
  have hbl : bs.length = k := by subst hc; simpa using h4
  refine sound_val hr hd (v := .string (strOfNums bs)) (by simp [RepV]) us fr ?_
  have hconv : (convert t t' v).run C.P w = .ok (.string (strOfNums bs)) w := by
    rcases hown.2 with ⟨rfl, rfl⟩ | ⟨g, cap, cur, rfl, _⟩
    · have : bs = [] := List.eq_nil_of_length_eq_zero hbl
      subst this
      exact run_convert_bytes_nil w t e ht he 0 0 t' ht'
    · refine run_convert_bytes_arg w t e ht he g 0 k cap bs hbl (fun i hi => ?_) t' ht'
      have hcc := hown.cells (g := g) rfl i (.int .u8 (bs.getD i 0)) (by rw [hvs]; simp [List.getElem?_eq_getElem (show i < bs.length by omega), List.getD])
      rw [Addr.add_lit] at hcc
      exact hcc
  simp [execOp, h, ← hv, hconv]

/-- What an append to an owned row comes to: a new block, or the same one written on. -/
theorem append_out {P : Program} {B : Nat} {t ty e : TypeId} {ie : TypeInfo} {zv : Value} {sz by' : Nat} (hu : P.underlying t = some (.slice e)) (hie : P.info? e = some ie) (hzz : ie.zero = some zv) (hisz : ie.size = sz) (hiby : ie.bytes = by') (hzs : zv.cells.size = sz) (hsz : 0 < sz)
    {v : Value} {k : Nat} {vs : List Value} (hown : w.ownsRow B e sz v k vs) (hBw : B ≤ w.heap.size) {A : Option Addr} {m c : Nat} {vd : List Value} (hA : A = none → m = 0 ∧ c = 0) (hl : vd.length = m * sz) (hcell : ∀ ad, A = some ad → ∀ (j : Nat) (u : Value), vd[j]? = some u → w.cell? (ad.add j) = some u) (h1 : ∀ u ∈ vd, u.oneCell' = true)
    (hs : k + m ≤ 140737488355328) (hb : (k + m) * by' ≤ 140737488355328) :
    ∃ v' w', (Builtin.append_ #[t, t] ty #[v, .slice A m c]).run P w = .ok v' w' ∧ v'.oneCell' = true ∧
      ((Below w.heap.size w w' ∧ w'.ownsRow w.heap.size e sz v' (k + m) (vs ++ vd)) ∨
       (∃ g, ownB v = some g ∧ ownB v' = some g ∧ w'.ownsRow B e sz v' (k + m) (vs ++ vd) ∧ (∀ j, j ≠ g → w'.heap[j]? = w.heap[j]?) ∧ Below B w w')) := by
  have hlen : (vs ++ vd).length = (k + m) * sz := by rw [List.length_append, hown.1, hl, Nat.add_mul]
  cases A with
  | none =>
    obtain ⟨rfl, rfl⟩ := hA rfl
    have hvd0 : vd = [] := List.eq_nil_of_length_eq_zero (by simpa using hl)
    subst hvd0
    refine ⟨v, w, run_append_owned_none w B t ty e ie sz hu hie v k vs hown, ?_, ?_⟩
    · rcases hown.2 with ⟨rfl, _⟩ | ⟨g, cap, cur, rfl, _⟩ <;> rfl
    · rcases hown.2 with ⟨rfl, rfl⟩ | ⟨g, cap, cur, rfl, hrest⟩
      · left
        have hv0 : vs = [] := List.eq_nil_of_length_eq_zero (by simpa using hown.1)
        subst hv0
        exact ⟨Below.refl _ _, World.ownsRow_nil w _ e sz⟩
      · exact .inr ⟨g, rfl, rfl, by simpa using hown, fun _ _ => rfl, Below.refl _ _⟩
  | some ad =>
    have hcell' := hcell ad rfl
    rcases hown.2 with ⟨rfl, rfl⟩ | ⟨g, cap, cur, rfl, hbg, hg, hnc, hcm, hcs, htake⟩
    · have hv0 : vs = [] := List.eq_nil_of_length_eq_zero (by simpa using hown.1)
      subst hv0
      obtain ⟨v', w', hr1, hr2, hr3, hr4⟩ := run_append_own (P := P) w w.heap.size t ty e ie zv sz by' hu hie hzz hisz hiby hzs hsz (.slice none 0 0) 0 [] (World.ownsRow_nil w _ e sz) ad m c vd hl hcell' h1 (by simp only [maxLen]; omega) hb (Nat.le_refl _)
      refine ⟨v', w', hr1, ?_, .inl ⟨below_grown_none hr3, hr2⟩⟩
      rcases hr2.2 with ⟨rfl, _⟩ | ⟨g, cap, cur, rfl, _⟩ <;> rfl
    · by_cases hroom : k + m ≤ cap
      · obtain ⟨w', hr1, hr2, hr3⟩ := run_append_fits (P := P) w B t ty e ie sz hu hie hisz g k cap vs hown ad m c vd hl hcell' h1 hroom
        refine ⟨_, w', hr1, rfl, .inr ⟨g, rfl, rfl, hr2, fun j hj => ?_, ⟨hr3.os, hr3.tape, hr3.output, hr3.size, fun j hj => hr3.block j (by omega) (by simp; omega)⟩⟩⟩
        have hfit : k * ie.size + vd.length ≤ cur.size := by rw [hl, hcs, hisz, ← Nat.add_mul]; exact Nat.mul_le_mul_right _ hroom
        have hrr := run_append_room (P := P) w t ty e ie hu hie g k cap cur hg ad m c vd (by rw [hl, hisz]) hcell' h1 hroom hfit
        rw [hrr] at hr1
        cases hr1
        exact setRow_other w g j _ hj
      · subst hisz
        have holds : ∀ j u, vs[j]? = some u → w.cell? ((⟨g, 0, none⟩ : Addr).add j) = some u := hown.cells (g := g) rfl
        have hr := run_append_grow (P := P) w t ty e ie zv hu hie hzz ⟨g, 0, none⟩ k cap vs hown.1 holds ad m c vd hl hcell' (by omega) (by omega) (growslice_fits (by omega) (by rw [hiby]; exact hb))
        have hge := grownCap_ge w (k + m) cap e
        have hcm : grownCap w (k + m) cap e ≤ maxLen := grownCap_le_maxLen w (k + m) cap e (by simp only [maxLen]; omega)
        refine ⟨_, _, hr, rfl, .inl ⟨⟨rfl, rfl, rfl, by simp, fun j hj => Below.heap_alloc w.drew _ j hj⟩, ⟨hlen, .inr ⟨w.heap.size, _, _, rfl, Nat.le_refl _, heap_alloc_new w.drew _, hge, hcm, ?_, ?_⟩⟩⟩⟩
        · simp only [Array.size_append, List.size_toArray, size_zeroCells, hzs, hown.1, hl, ← Nat.add_mul]
          congr 1
          omega
        · simp only [Array.toList_append, List.append_assoc]
          rw [← List.append_assoc, ← hlen]
          exact List.take_left

/-- The same of a string's bytes. -/
theorem append_out_str {P : Program} {B : Nat} {t tu ty e : TypeId} {ie : TypeInfo} (hu : P.underlying t = some (.slice e)) (hus : P.underlying tu = some .string) (hie : P.info? e = some ie) (hzz : ie.zero = some (.int .u8 0)) (hisz : ie.size = 1) (hiby : ie.bytes = 1)
    {v : Value} {k : Nat} {vs : List Value} (hown : w.ownsRow B e 1 v k vs) (hBw : B ≤ w.heap.size) (s : ByteArray) (hs : k + s.size ≤ 140737488355328) :
    ∃ v' w', (Builtin.append_ #[t, tu] ty #[v, .string s]).run P w = .ok v' w' ∧ v'.oneCell' = true ∧
      ((Below w.heap.size w w' ∧ w'.ownsRow w.heap.size e 1 v' (k + s.size) (vs ++ Lib.strCells s)) ∨
       (∃ g, ownB v = some g ∧ ownB v' = some g ∧ w'.ownsRow B e 1 v' (k + s.size) (vs ++ Lib.strCells s) ∧ (∀ j, j ≠ g → w'.heap[j]? = w.heap[j]?) ∧ Below B w w')) := by
  have hxl : vs.length = k := by simpa using hown.1
  have hlen : (vs ++ Lib.strCells s).length = (k + s.size) * 1 := by rw [List.length_append, hxl, Lib.strCells_length, Nat.mul_one]
  rcases hown.2 with ⟨rfl, rfl⟩ | ⟨g, cap, cur, rfl, hbg, hg, hnc, hcm, hcs, htake⟩
  · have hv0 : vs = [] := List.eq_nil_of_length_eq_zero hxl
    subst hv0
    obtain ⟨v', w', hr1, hr2, hr3, hr4⟩ := Lib.run_append_own_string (P := P) w w.heap.size t tu ty e ie hu hus hie hzz hisz hiby (.slice none 0 0) 0 [] (World.ownsRow_nil w _ e 1) s (by simp only [maxLen]; omega) hs (Nat.le_refl _)
    refine ⟨v', w', hr1, ?_, .inl ⟨below_grown_none hr3, hr2⟩⟩
    rcases hr2.2 with ⟨rfl, _⟩ | ⟨g, cap, cur, rfl, _⟩ <;> rfl
  · have hcs' : cur.size = cap := by simpa using hcs
    by_cases hroom : k + s.size ≤ cap
    · have hr := Lib.run_append_room_string (P := P) w t tu ty e ie hu hus hie hisz g k cap cur hg s hroom (by omega)
      refine ⟨_, _, hr, rfl, .inr ⟨g, rfl, rfl, ⟨hlen, .inr ⟨g, cap, _, rfl, hbg, setRow_heap w g cur _ e _ hg, hroom, hcm, ?_, ?_⟩⟩, fun j hj => setRow_other w g j _ hj, ⟨rfl, rfl, rfl, by simp, fun j hj => setRow_other w g j _ (by omega)⟩⟩⟩
      · simp only [List.size_toArray, List.length_append, List.length_take, List.length_drop, Array.length_toList, Lib.strCells_length]
        omega
      · have ht' : cur.toList.take k = vs := by simpa using htake
        rw [ht', ← hlen]
        exact List.take_left
    · have holds : ∀ j u, vs[j]? = some u → w.cell? ((⟨g, 0, none⟩ : Addr).add j) = some u := hown.cells (g := g) rfl
      have hr := Lib.run_append_grow_string (P := P) w t tu ty e ie (.int .u8 0) hu hus hie hzz ⟨g, 0, none⟩ k cap vs (by rw [hisz]; simpa using hxl) holds s (by omega) (by omega) (by rw [hiby]; exact growslice_fits (by omega) (by omega))
      have hge := grownCap_ge w (k + s.size) cap e
      have hcm : grownCap w (k + s.size) cap e ≤ maxLen := grownCap_le_maxLen w (k + s.size) cap e (by simp only [maxLen]; omega)
      refine ⟨_, _, hr, rfl, .inl ⟨⟨rfl, rfl, rfl, by simp, fun j hj => Below.heap_alloc w.drew _ j hj⟩, ⟨hlen, .inr ⟨w.heap.size, _, _, rfl, Nat.le_refl _, heap_alloc_new w.drew _, hge, hcm, ?_, ?_⟩⟩⟩⟩
      · have hz1 : (Value.int IntKind.u8 0).cells.size = 1 := rfl
        simp only [Array.size_append, List.size_toArray, size_zeroCells, hz1, hxl, Lib.strCells_length]
        omega
      · simp only [Array.toList_append, List.append_assoc]
        rw [← List.append_assoc, ← hlen]
        exact List.take_left

/-- A row that is written on, under a new number. -/
theorem Rep.moved (h : Rep C n w0 H L S a w) {id id' : Nat} {ob ob' : AO} {x x' : Value} {g : Nat} (hf : S.Fresh id') (ho : S.μ id = some ob) (hl : L id = some x) (hg : ownB x = some g) (hg' : ownB x' = some g) {w' : World} (hw : ∀ k, k ≠ g → w'.heap[k]? = w.heap[k]?) (hb : Below w0.heap.size w w')
    (ho' : RepO H w0.heap.size w' (L.set id' (some x')) id' ob') : Rep C n w0 H (L.set id' (some x')) { ρ := S.ρ, μ := fun i => if i = id' then some ob' else if i = id then none else S.μ i } a w' where
  glob := h.glob
  heap b o hb' := by
    obtain ⟨y, hy, hb2⟩ := (h.objs id ob ho).block
    rw [hl] at hy
    cases hy
    have hne : b ≠ g := fun e => by subst e; rw [(hb2 b hg).2.2] at hb'; cases hb'
    rw [hw b hne]
    exact h.heap b o hb'
  size := h.size
  slot i := RepV.setL (hf.2.1 i) (h.slot i)
  objs i o hi := by
    by_cases hid : i = id'
    · subst hid
      simp at hi
      subst hi
      exact ho'
    · by_cases hid2 : i = id
      · simp [hid, hid2] at hi
        exact absurd hi.1 (fun e => hid (by rw [hid2]; exact e))
      · simp [hid, hid2] at hi
        refine (h.objs i o hi).kept (Heap.le_refl _) (fun _ _ _ hn => hn) (by simp [Loc.set, hid]) (fun cs hcs vs hr => ?_) (fun y k hy hk => hw k fun e => by
          subst e
          exact h.apart i id o ob k y x hid2 hi ho hy hl hk hg)
        rcases hcs with ⟨t, rfl⟩ | ⟨us, rfl⟩ <;> exact RepL.setL (hf.2.2 i _ hi) hr
  apart i j o o' k y y' hne hi hj hl1 hl2 hk := by
    by_cases h1 : i = id'
    · subst h1
      have h2 : ¬ j = i := fun e => hne e.symm
      by_cases h3 : j = id
      · simp [h2, h3] at hj
        exact absurd hj.1 (fun e => h2 (by rw [h3]; exact e))
      · simp [h2, h3] at hj
        simp [Loc.set] at hl1
        simp [Loc.set, h2] at hl2
        subst hl1
        rw [hg'] at hk
        cases hk
        exact h.apart id j ob o' g x y' (fun e => h3 e.symm) ho hj hl hl2 hg
    · by_cases h4 : i = id
      · simp [h1, h4] at hi
        exact absurd hi.1 (fun e => h1 (by rw [h4]; exact e))
      · simp [h1, h4] at hi
        simp [Loc.set, h1] at hl1
        by_cases h2 : j = id'
        · subst h2
          simp [Loc.set] at hl2
          subst hl2
          rw [hg']
          intro e
          cases e
          exact h.apart i id o ob g y x h4 hi ho hl1 hl hk hg
        · by_cases h3 : j = id
          · simp [h2, h3] at hj
            exact absurd hj.1 (fun e => h2 (by rw [h3]; exact e))
          · simp [h2, h3] at hj
            simp [Loc.set, h2] at hl2
            exact h.apart i j o o' k y y' hne hi hj hl1 hl2 hk
  below := h.below.trans hb
  defers := h.defers

/-- Fewer objects. -/
theorem Rep.fewer (h : Rep C n w0 H L S a w) {μ : Nat → Option AO} (hm : ∀ i o, μ i = some o → S.μ i = some o) : Rep C n w0 H L { ρ := S.ρ, μ := μ } a w where
  glob := h.glob
  heap := h.heap
  size := h.size
  slot := h.slot
  objs i o hi := h.objs i o (hm i o hi)
  apart i j o o' k y y' hne hi hj := h.apart i j o o' k y y' hne (hm i o hi) (hm j o' hj)
  below := h.below
  defers := h.defers

theorem beq_ne {i j : Nat} (h : i ≠ j) : Nat.beq i j = false := by
  cases hb : Nat.beq i j with
  | false => rfl
  | true => exact absurd (Nat.eq_of_beq_eq_true hb) h

/-- What is appended. -/
theorem source (hr : Rep C n w0 H L S a w) {x : Operand} {sz : Nat} {ds : List AV} (hx : S.ev x = .sl sz ds ∨ ∃ i e', S.ev x = .row i ∧ S.μ i = some (.row e' sz ds)) :
    ∃ A c m vd, a.eval x = .slice A m c ∧ (A = none → m = 0 ∧ c = 0) ∧ ds.length = m * sz ∧ RepL H ds noLoc vd ∧ (∀ u ∈ vd, u.oneCell' = true) ∧ ∀ ad, A = some ad → ∀ (j : Nat) (u : Value), vd[j]? = some u → w.cell? (ad.add j) = some u := by
  rcases hx with hx | ⟨i, e', hx, ho2⟩
  · have hex := hr.ev x
    rw [hx] at hex
    simp only [RepV] at hex
    obtain ⟨A, m, c, hvx, hm1, hm2, _, hm4, ⟨hm5, hA⟩, h5⟩ := hex
    rcases Nat.eq_zero_or_pos m with h0 | h0
    · subst h0
      have : ds = [] := List.eq_nil_of_length_eq_zero (by simpa using hm4)
      subst this
      exact ⟨A, c, 0, [], hvx, fun hn => ⟨rfl, hA hn⟩, by simp, by simp [RepL], by simp, by simp⟩
    · obtain ⟨b, off, arr, ty, fz, vd, rfl, hbb, hcell, hrd, ho1⟩ := h5 h0
      exact ⟨_, c, m, vd, hvx, by simp, hm4, hrd, ho1, fun ad hA j u hj => by cases hA; rw [cell_at (hr.heap _ _ hbb)]; exact hcell j u hj⟩
  · have hex := hr.ev x
    rw [hx] at hex
    simp only [RepV] at hex
    obtain ⟨vx, vd, m, hl2, h42, hown2, hrl2, hv12, _⟩ := hr.objs i _ ho2
    rw [hl2] at hex
    have hvx := Option.some.inj hex.1
    rcases hown2.2 with ⟨rfl, rfl⟩ | ⟨g, cap, cur, rfl, hrest⟩
    · exact ⟨none, 0, 0, vd, hvx.symm, fun _ => ⟨rfl, rfl⟩, h42, hrl2, hv12, by simp⟩
    · refine ⟨_, cap, m, vd, hvx.symm, by simp, h42, hrl2, hv12, fun ad hA j u hj => ?_⟩
      cases hA
      exact hown2.cells (g := g) rfl j u hj

theorem mem_app2 {vs vd : List Value} (h : ∀ u ∈ vs, u.oneCell' = true) (k : ∀ u ∈ vd, u.oneCell' = true) : ∀ u ∈ vs ++ vd, u.oneCell' = true := fun u hu => (List.mem_append.1 hu).elim (h u) (k u)

/-- An append to a row of the call's own: the row behind it is another object. -/
theorem sound_append (hr : Rep C n w0 H L S a w) (hd : ∀ d, o.dst = some d → d < n) {t : TypeId} {s x : Operand} {e : TypeId} {sz by' : Nat} {z : List Value} {id id' : Nat} {cs ds : List AV} {us : List Nat} (hfr : S.Fresh id') (h : o.op = .call { callee := .builtin .append, args := #[s, x], argTypes := #[t, t] }) (ht : tyElem C.P t = some (e, sz, by')) (hsz : 0 < sz)
    (hz : tyZero C.P e = some z) (hzl : z.length = sz) (hs : S.ev s = .row id) (ho : S.μ id = some (.row e sz cs)) (hx : S.ev x = .sl sz ds ∨ ∃ i e', S.ev x = .row i ∧ S.μ i = some (.row e' sz ds))
    (hb : (cs.length + ds.length) / sz * by' ≤ 140737488355328) (hlm : cs.length + ds.length ≤ 140737488355328) :
    Sound C n w0 H S a w o Q { val := .row id', upd := [(id', some (.row e sz (cs ++ ds))), (id, none)], use := us, fresh := [id'] } := by
  obtain ⟨hu, ie, hie, hisz, hiby⟩ := tyElem_spec ht
  obtain ⟨i, zv, hi, hzz, hzc⟩ := tyZero_spec hz
  rw [hie] at hi
  cases hi
  have hes := hr.ev s
  rw [hs] at hes
  simp only [RepV] at hes
  obtain ⟨v, vs, k, hl, h4, hown, hrl, hv1, _, hmx, hHv⟩ := hr.objs id _ ho
  rw [hl] at hes
  have hv := Option.some.inj hes.1
  obtain ⟨A, c, m, vd, hvx, hAn, hdl, hrd, hd1, hcell⟩ := source hr hx
  have hkm : (cs.length + ds.length) / sz = k + m := by rw [h4, hdl, ← Nat.add_mul]; exact Nat.mul_div_cancel _ hsz
  rw [hkm] at hb
  have hsum : k + m ≤ 140737488355328 := by
    have : (k + m) * 1 ≤ (k + m) * sz := Nat.mul_le_mul_left _ hsz
    rw [h4, hdl, ← Nat.add_mul] at hlm
    omega
  have hzs : zv.cells.size = sz := by rw [← hzl, ← hzc]; simp
  have hne : id' ≠ id := fun e => by rw [e, SS.Fresh, ho] at hfr; cases hfr.1
  obtain ⟨v', w', hr1, hv'1, hcase⟩ := append_out (P := C.P) (ty := o.type) hu hie hzz hisz hiby hzs hsz hown hr.below.size hAn (by rw [hrd.length, hdl]) hcell hd1 hsum hb
  have hex : (execOp a.eval o).run C.P w = .ok (.value v') w' := by
    simp only [execOp, h, resolve, invoke, builtin, Sem.run_bind, Sem.run_pure, Result.andThen_ok, List.map_toArray, List.map_cons, List.map_nil, ← hv, hvx, hr1]
  have happ : S.app o.dst { val := .row id', upd := [(id', some (.row e sz (cs ++ ds))), (id, none)], use := us, fresh := [id'] } = SS.app { ρ := S.ρ, μ := fun i => if i = id' then some (.row e sz (cs ++ ds)) else if i = id then none else S.μ i } o.dst { val := .row id', use := [], fresh := [] } := by
    unfold SS.app
    congr 1
    funext i
    by_cases h1 : i = id'
    · subst h1; simp [lkU]
    · by_cases h2 : i = id
      · subst h2; simp [lkU, h1, beq_ne (fun e => h1 e.symm)]
      · simp [lkU, h1, h2, beq_ne (fun e => h1 e.symm), beq_ne (fun e => h2 e.symm)]
  have hlen : (cs ++ ds).length = (k + m) * sz := by rw [List.length_append, h4, hdl, Nat.add_mul]
  rcases hcase with ⟨hbl, hown'⟩ | ⟨g, hg, hg', hown', hw, hbl⟩
  · refine wp_value hex ⟨H, L.set id' (some v'), Ext.refl _ _, ?_⟩
    have hge : ∀ g, ownB v' = some g → w.heap.size ≤ g := fun g hg => by
      rcases hown'.2 with ⟨rfl, _⟩ | ⟨g', cap, cur, rfl, hB, _⟩
      · simp [ownB] at hg
      · simp [ownB] at hg; omega
    have hnew := hr.new (id := id') (ob := .row e sz (cs ++ ds)) (x := v') (w' := w') hfr hbl hge
      ⟨v', vs ++ vd, k + m, by simp [Loc.set], hlen, ⟨hown'.1, hown'.2.imp (fun h => h) fun ⟨g, cap, cur, r1, r2, r3⟩ => ⟨g, cap, cur, r1, Nat.le_trans hr.below.size r2, r3⟩⟩, hrl.app hrd, mem_app2 hv1 hd1, hsz, by rw [List.length_append]; exact hlm, fun g hg => by
        cases hh : H g with
        | none => rfl
        | some ob => have := (Array.getElem?_eq_some_iff.1 (hr.heap _ _ hh)).1; have := hge g hg; omega⟩
      (fun b ob hb' => by rw [hbl.block b (Array.getElem?_eq_some_iff.1 (hr.heap _ _ hb')).1]; exact hr.heap _ _ hb')
    have hfew := hnew.fewer (μ := fun i => if i = id' then some (.row e sz (cs ++ ds)) else if i = id then none else S.μ i) (fun i o' hi => by
      by_cases h1 : i = id'
      · simpa [h1] using hi
      · by_cases h2 : i = id
        · simp [h1, h2] at hi
          exact absurd hi.1 (fun e => h1 (by rw [h2]; exact e))
        · simpa [h1, h2] using hi)
    rw [happ]
    exact hfew.val hd (x := .row id') (v := v') (by simp [RepV, Loc.set, hv'1]) [] []
  · refine wp_value hex ⟨H, L.set id' (some v'), Ext.refl _ _, ?_⟩
    have hmv := hr.moved (ob' := .row e sz (cs ++ ds)) hfr ho hl hg hg' hw hbl ⟨v', vs ++ vd, k + m, by simp [Loc.set], hlen, hown', hrl.app hrd, mem_app2 hv1 hd1, hsz, by rw [List.length_append]; exact hlm, fun g2 hg2 => by
      rw [hg'] at hg2
      cases hg2
      exact hHv g hg⟩
    rw [happ]
    exact hmv.val hd (x := .row id') (v := v') (by simp [RepV, Loc.set, hv'1]) [] []

/-- An append of a string's bytes. -/
theorem sound_appendS (hr : Rep C n w0 H L S a w) (hd : ∀ d, o.dst = some d → d < n) {t tu : TypeId} {s x : Operand} {e : TypeId} {id id' : Nat} {cs : List AV} {str : ByteArray} (hfr : S.Fresh id') (h : o.op = .call { callee := .builtin .append, args := #[s, x], argTypes := #[t, tu] }) (ht : tyElem C.P t = some (e, 1, 1)) (hus : C.P.underlying tu = some .string)
    (hz : tyZ1 C.P e = some (.int .u8 0)) (hs : S.ev s = .row id) (ho : S.μ id = some (.row e 1 cs)) (hx : S.ev x = .lit (.string str)) (hb : cs.length + str.size ≤ 140737488355328) :
    Sound C n w0 H S a w o Q { val := .row id', upd := [(id', some (.row e 1 (cs ++ (Lib.strCells str).map AV.lit))), (id, none)], use := [id], fresh := [id'] } := by
  obtain ⟨hu, ie, hie, hisz, hiby⟩ := tyElem_spec ht
  have hzz : ie.zero = some (.int .u8 0) := by
    unfold tyZ1 at hz
    rw [hie] at hz
    exact hz
  have hes := hr.ev s
  rw [hs] at hes
  simp only [RepV] at hes
  have hex' := hr.ev x
  rw [hx] at hex'
  simp only [RepV] at hex'
  obtain ⟨v, vs, k, hl, h4, hown, hrl, hv1, _, hmx, hHv⟩ := hr.objs id _ ho
  rw [hl] at hes
  have hv := Option.some.inj hes.1
  have h4' : cs.length = k := by simpa using h4
  have hne : id' ≠ id := fun e => by rw [e, SS.Fresh, ho] at hfr; cases hfr.1
  obtain ⟨v', w', hr1, hv'1, hcase⟩ := append_out_str (P := C.P) (ty := o.type) hu hus hie hzz hisz hiby hown hr.below.size str (by omega)
  have hex : (execOp a.eval o).run C.P w = .ok (.value v') w' := by
    simp only [execOp, h, resolve, invoke, builtin, Sem.run_bind, Sem.run_pure, Result.andThen_ok, List.map_toArray, List.map_cons, List.map_nil, ← hv, hex', hr1]
  have hrd : ∀ L, RepL H ((Lib.strCells str).map AV.lit) L (Lib.strCells str) := fun L => RepL.lits L _
  have hd1 := Lib.strCells_oneCell str
  have happ : S.app o.dst { val := .row id', upd := [(id', some (.row e 1 (cs ++ (Lib.strCells str).map AV.lit))), (id, none)], use := [id], fresh := [id'] } = SS.app { ρ := S.ρ, μ := fun i => if i = id' then some (.row e 1 (cs ++ (Lib.strCells str).map AV.lit)) else if i = id then none else S.μ i } o.dst { val := .row id', use := [], fresh := [] } := by
    unfold SS.app
    congr 1
    funext i
    by_cases h1 : i = id'
    · subst h1; simp [lkU]
    · by_cases h2 : i = id
      · subst h2; simp [lkU, h1, beq_ne (fun e => h1 e.symm)]
      · simp [lkU, h1, h2, beq_ne (fun e => h1 e.symm), beq_ne (fun e => h2 e.symm)]
  have hlen : (cs ++ (Lib.strCells str).map AV.lit).length = (k + str.size) * 1 := by rw [List.length_append, h4', List.length_map, Lib.strCells_length, Nat.mul_one]
  rcases hcase with ⟨hbl, hown'⟩ | ⟨g, hg, hg', hown', hw, hbl⟩
  · refine wp_value hex ⟨H, L.set id' (some v'), Ext.refl _ _, ?_⟩
    have hge : ∀ g, ownB v' = some g → w.heap.size ≤ g := fun g hg => by
      rcases hown'.2 with ⟨rfl, _⟩ | ⟨g', cap, cur, rfl, hB, _⟩
      · simp [ownB] at hg
      · simp [ownB] at hg; omega
    have hnew := hr.new (id := id') (ob := .row e 1 (cs ++ (Lib.strCells str).map AV.lit)) (x := v') (w' := w') hfr hbl hge
      ⟨v', vs ++ Lib.strCells str, k + str.size, by simp [Loc.set], hlen, ⟨hown'.1, hown'.2.imp (fun h => h) fun ⟨g, cap, cur, r1, r2, r3⟩ => ⟨g, cap, cur, r1, Nat.le_trans hr.below.size r2, r3⟩⟩, hrl.app (hrd _), mem_app2 hv1 hd1, by decide, by rw [hlen]; omega, fun g hg => by
        cases hh : H g with
        | none => rfl
        | some ob => have := (Array.getElem?_eq_some_iff.1 (hr.heap _ _ hh)).1; have := hge g hg; omega⟩
      (fun b ob hb' => by rw [hbl.block b (Array.getElem?_eq_some_iff.1 (hr.heap _ _ hb')).1]; exact hr.heap _ _ hb')
    have hfew := hnew.fewer (μ := fun i => if i = id' then some (.row e 1 (cs ++ (Lib.strCells str).map AV.lit)) else if i = id then none else S.μ i) (fun i o' hi => by
      by_cases h1 : i = id'
      · simpa [h1] using hi
      · by_cases h2 : i = id
        · simp [h1, h2] at hi
          exact absurd hi.1 (fun e => h1 (by rw [h2]; exact e))
        · simpa [h1, h2] using hi)
    rw [happ]
    exact hfew.val hd (x := .row id') (v := v') (by simp [RepV, Loc.set, hv'1]) [] []
  · refine wp_value hex ⟨H, L.set id' (some v'), Ext.refl _ _, ?_⟩
    have hmv := hr.moved (ob' := .row e 1 (cs ++ (Lib.strCells str).map AV.lit)) hfr ho hl hg hg' hw hbl ⟨v', vs ++ Lib.strCells str, k + str.size, by simp [Loc.set], hlen, hown', hrl.app (hrd _), mem_app2 hv1 hd1, by decide, by rw [hlen]; omega, fun g2 hg2 => by
      rw [hg'] at hg2
      cases hg2
      exact hHv g hg⟩
    rw [happ]
    exact hmv.val hd (x := .row id') (v := v') (by simp [RepV, Loc.set, hv'1]) [] []

theorem sound_appendNil (hr : Rep C n w0 H L S a w) (hd : ∀ d, o.dst = some d → d < n) {t : TypeId} {s x : Operand} {e : TypeId} {sz by' : Nat} {z : List Value} {id' : Nat} {ds : List AV} {us : List Nat} (hfr : S.Fresh id') (h : o.op = .call { callee := .builtin .append, args := #[s, x], argTypes := #[t, t] }) (ht : tyElem C.P t = some (e, sz, by')) (hsz : 0 < sz)
    (hz : tyZero C.P e = some z) (hzl : z.length = sz) (hs : S.ev s = .lit (.slice none 0 0)) (hx : S.ev x = .sl sz ds ∨ ∃ i e', S.ev x = .row i ∧ S.μ i = some (.row e' sz ds))
    (hb : ds.length / sz * by' ≤ 140737488355328) (hlm : ds.length ≤ 140737488355328) :
    Sound C n w0 H S a w o Q { val := .row id', upd := [(id', some (.row e sz ds))], use := us, fresh := [id'] } := by
  obtain ⟨hu, ie, hie, hisz, hiby⟩ := tyElem_spec ht
  obtain ⟨i, zv, hi, hzz, hzc⟩ := tyZero_spec hz
  rw [hie] at hi
  cases hi
  have hes := hr.ev s
  rw [hs] at hes
  simp only [RepV] at hes
  obtain ⟨A, c, m, vd, hvx, hAn, hdl, hrd, hd1, hcell⟩ := source hr hx
  have hkm : ds.length / sz = m := by rw [hdl]; exact Nat.mul_div_cancel _ hsz
  rw [hkm] at hb
  have hsum : 0 + m ≤ 140737488355328 := by
    have : m * 1 ≤ m * sz := Nat.mul_le_mul_left _ hsz
    rw [hdl] at hlm
    omega
  have hzs : zv.cells.size = sz := by rw [← hzl, ← hzc]; simp
  obtain ⟨v', w', hr1, hv'1, hcase⟩ := append_out (P := C.P) (ty := o.type) hu hie hzz hisz hiby hzs hsz (World.ownsRow_nil w w.heap.size e sz) (Nat.le_refl _) hAn (by rw [hrd.length, hdl]) hcell hd1 hsum (by simpa using hb)
  have hex : (execOp a.eval o).run C.P w = .ok (.value v') w' := by
    simp only [execOp, h, resolve, invoke, builtin, Sem.run_bind, Sem.run_pure, Result.andThen_ok, List.map_toArray, List.map_cons, List.map_nil, hes, hvx, hr1]
  rcases hcase with ⟨hbl, hown'⟩ | ⟨g, hg, _⟩
  · rw [Nat.zero_add, List.nil_append] at hown'
    have := sound_row (Q := Q) hr hd hfr (v := v') (cs := ds) hrd hd1 hsz hdl hlm hown' hbl hv'1 hex
    unfold Sound at this ⊢
    exact this
  · simp [ownB] at hg

theorem RepO.place {B : Nat} {id : Nat} {ob : AO} (h : RepO H B w L id ob) {x : Value} {g : Nat} (hl : L id = some x) (hg : ownB x = some g) : H g = none := by
  obtain ⟨y, hy, hb⟩ := h.block
  rw [hl] at hy
  cases hy
  exact (hb g hg).2.2

/-- An own row is let go: its memory is known from here on. -/
theorem Rep.letGo (hr : Rep C n w0 H L S a w) {id e sz : Nat} {cs : List AV} (h : S.μ id = some (.row e sz cs)) : ∃ H' v, L id = some v ∧ H.le H' ∧ Ext w0.heap.size H H' ∧ RepV H' (.sl sz cs) noLoc v ∧ Rep C n w0 H' L { ρ := S.ρ, μ := fun i => if i = id then none else S.μ i } a w := by
  obtain ⟨v, vs, m, hl, hlen, hown, hrl, h1, hsz, hmx, hH⟩ := hr.objs id _ h
  have hv : ∃ H', H.le H' ∧ RepV H' (.sl sz cs) noLoc v ∧ (∀ b o, H' b = some o → w.heap[b]? = some o) ∧ Ext w0.heap.size H H' ∧ ∀ g, ownB v ≠ some g → H' g = H g := by
    rcases hown.2 with ⟨rfl, rfl⟩ | ⟨g, cap, cur, rfl, hB, hh, hnc, hcm, hcs, htake⟩
    · refine ⟨H, Heap.le_refl _, ?_, hr.heap, Ext.refl _ _, fun _ _ => rfl⟩
      simp only [RepV]
      exact ⟨none, 0, 0, rfl, Nat.le_refl _, by simp [maxLen], hsz, hlen, ⟨hmx, fun _ => rfl⟩, fun hp => absurd hp (by omega)⟩
    · refine ⟨fun b => if b = g then some (.cells cur e (0, 0)) else H b, fun b o hb => ?_, ?_, fun b o hb => ?_, ⟨fun b o hb => ?_, fun b hb => ?_⟩, fun g' hg' => ?_⟩
      · have : b ≠ g := fun e => by subst e; rw [hH b rfl] at hb; cases hb
        simp [this, hb]
      · simp only [RepV]
        refine ⟨_, m, cap, rfl, hnc, hcm, hsz, hlen, ⟨hmx, by simp⟩, fun hp => ⟨g, 0, cur, e, (0, 0), vs, rfl, by simp, fun j u hu => ?_, RepL.mono (fun b o hb => ?_) (Loc.le_refl _) hrl, h1⟩⟩
        · rw [← htake, List.getElem?_take] at hu
          split at hu
          · simpa using hu
          · cases hu
        · have : b ≠ g := fun e => by subst e; rw [hH b rfl] at hb; cases hb
          simp [this, hb]
      · by_cases hbg : b = g
        · subst hbg; simp at hb; subst hb; exact hh
        · simp [hbg] at hb; exact hr.heap b o hb
      · have : b ≠ g := fun e => by subst e; rw [hH b rfl] at hb; cases hb
        simp [this, hb]
      · have : b ≠ g := fun e => by omega
        simp [this]
      · have : g' ≠ g := fun e => hg' (by rw [e]; rfl)
        simp [this]
  obtain ⟨H', hle, hsl, hheap, hext, hoff⟩ := hv
  have old : ∀ i o, (if i = id then none else S.μ i) = some o → i ≠ id ∧ S.μ i = some o := fun i o ho => by
    by_cases hi : i = id
    · simp [hi] at ho
    · simp [hi] at ho; exact ⟨hi, ho⟩
  refine ⟨H', v, hl, hle, hext, hsl, ⟨C.mono _ _ hle hr.glob, hheap, hr.size, fun i => RepV.mono hle (Loc.le_refl _) (hr.slot i), fun i o ho => ?_, fun i j o o' g x x' hne hi hj => ?_, hr.below, hr.defers⟩⟩
  · obtain ⟨hi, ho2⟩ := old i o ho
    have hro := hr.objs i o ho2
    have hoff' : ∀ x g, L i = some x → ownB x = some g → H' g = none := fun x g hx hg => by
      rw [hoff g (fun e => hr.apart i id o _ g x v hi ho2 h hx hl hg e)]
      exact hro.place hx hg
    cases o with
    | var t c =>
      obtain ⟨g, us, a1, a2, a3, a4, a5, a6⟩ := hro
      exact ⟨g, us, a1, a2, RepL.mono hle (Loc.le_refl _) a3, a4, a5, hoff' _ g a1 rfl⟩
    | row e' s c =>
      obtain ⟨u, us, k, a1, a2, a3, a4, a5, a6, a7, a8⟩ := hro
      exact ⟨u, us, k, a1, a2, a3, RepL.mono hle (Loc.le_refl _) a4, a5, a6, a7, fun g hg => hoff' u g a1 hg⟩
    | blk o =>
      obtain ⟨g, a1, a2, a3, a4⟩ := hro
      exact ⟨g, a1, a2, a3, hoff' _ g a1 rfl⟩
    | pin c us => exact ⟨hro.1, RepL.mono hle (Loc.le_refl _) hro.2⟩
  · exact hr.apart i j o o' g x x' hne (old i o hi).2 (old j o' hj).2

theorem Rep.letGoAll : ∀ (us : List (Nat × Nat × List AV)) {H : Heap} {S : SS} (hr : Rep C n w0 H L S a w) (hu : ∀ p ∈ us, ∃ e, S.μ p.1 = some (.row e p.2.1 p.2.2)) (hnd : (us.map (·.1)).Nodup) {xs : List AV} {vs : List Value} (hl : RepL H xs L vs),
    ∃ H', H.le H' ∧ Ext w0.heap.size H H' ∧ RepL H' (frzAll us xs) L vs ∧ Rep C n w0 H' L { ρ := S.ρ, μ := fun i => if i ∈ us.map (·.1) then none else S.μ i } a w
  | [], H, S, hr, hu, hnd, xs, vs, hl => ⟨H, Heap.le_refl _, Ext.refl _ _, hl, by simpa using hr⟩
  | (id, sz, cs) :: us, H, S, hr, hu, hnd, xs, vs, hl => by
    obtain ⟨e, he⟩ := hu (id, sz, cs) (by simp)
    obtain ⟨H', v, hv, hle, hx, hsl, hr'⟩ := hr.letGo he
    simp only [List.map_cons, List.nodup_cons] at hnd
    obtain ⟨H2, hle2, hx2, hl2, hr2⟩ := Rep.letGoAll us hr' (fun p hp => by
      obtain ⟨e', he'⟩ := hu p (by simp [hp])
      refine ⟨e', ?_⟩
      have : p.1 ≠ id := fun e => hnd.1 (by rw [← e]; exact List.mem_map_of_mem hp)
      simp [this, he']) hnd.2 (RepL.frz hle hsl hv hl)
    refine ⟨H2, Heap.le_trans hle hle2, hx.trans hx2, hl2, ?_⟩
    have e2 : (fun i => if i ∈ us.map (·.1) then none else if i = id then none else S.μ i) = fun i => if i ∈ ((id, sz, cs) :: us).map (·.1) then none else S.μ i := by
      funext i
      by_cases h1 : i ∈ us.map (·.1) <;> by_cases h2 : i = id <;> simp_all
    have h3 := hr2
    dsimp only at h3
    rw [e2] at h3
    exact h3

theorem lkU_drop (us : List (Nat × Nat × List AV)) (id : Nat) : lkU (us.map fun p => (p.1, (none : Option AO))) id = if id ∈ us.map (·.1) then some none else none := by
  induction us with
  | nil => simp [lkU]
  | cons p us ih =>
    simp only [List.map_cons, lkU, ih]
    by_cases h : p.1 = id
    · subst h; simp
    · have : Nat.beq p.1 id = false := by
        cases hb : Nat.beq p.1 id with
        | true => exact absurd (Nat.eq_of_beq_eq_true hb) h
        | false => rfl
      have h2 : ¬ id = p.1 := fun e => h e.symm
      rw [this, cond_false]
      by_cases h3 : id ∈ us.map (·.1) <;> simp only [List.mem_cons, h2, h3, or_true, or_false, if_true, if_false]

theorem run_call_val {P : Program} {o : Oper} {y : Operand} {f : FuncId} {caps : Array Value} {args : Array Operand} {tys : Array TypeId} (h : o.op = .call { callee := .value y, args := args, argTypes := tys }) (hy : a.eval y = .func (.func f) #[] caps)
    (hb : ((P.funcs[f]?).map (·.body.isSome)) = some true) (hnm : ((P.funcs[f]?).map (·.name == "runtime.NumGoroutine")) = some false) : (execOp a.eval o).run P w = .ok (.enter f (args.map a.eval ++ caps)) w := by
  cases hf : P.funcs[f]? with
  | none => simp [hf] at hb
  | some fn =>
    have hb' : fn.body.isNone = false := by
      have : fn.body.isSome = true := by simpa [hf] using hb
      cases hbb : fn.body <;> simp_all
    have hn' : (fn.name == "runtime.NumGoroutine") = false := by simpa [hf] using hnm
    unfold execOp
    simp only [h, resolve, hy, Deferred.ofValue, invoke, callFunc, Sem.run_bind, Sem.run_pure, Result.andThen_ok, run_program, hf, hn', hb', Bool.false_eq_true, if_false, Array.empty_append]

/-- A call of a function's value, with rows that are let go. -/
theorem sound_callG (hr : Rep C n w0 H L S a w) (hd : ∀ d, o.dst = some d → d < n) {y : Operand} {f : FuncId} {args : Array Operand} {tys : Array TypeId} {caps : List AV} {us : List (Nat × Nat × List AV)} {as : List AV} {res : AV} (h : o.op = .call { callee := .value y, args := args, argTypes := tys }) (hy : S.ev y = .clo f caps) (hb : ((C.P.funcs[f]?).map (·.body.isSome)) = some true)
    (hnm : ((C.P.funcs[f]?).map (·.name == "runtime.NumGoroutine")) = some false) (hu : ∀ p ∈ us, ∃ e, S.μ p.1 = some (.row e p.2.1 p.2.2)) (hnd : (us.map (·.1)).Nodup) (ha : frzAll us (args.toList.map S.ev ++ caps) = as) (hc : ECalls C f as res) :
    Sound C n w0 H S a w o Q { val := res, use := us.map (·.1), upd := us.map fun p => (p.1, none) } := by
  have hargs : ∀ (l : List Operand), RepL H (l.map S.ev) L (l.map a.eval) := by
    intro l
    induction l with
    | nil => simp only [List.map_nil, RepL]
    | cons x l ih => simp only [List.map_cons, RepL]; exact ⟨_, _, rfl, hr.ev x, ih⟩
  have hcl := hr.ev y
  rw [hy] at hcl
  simp only [RepV] at hcl
  obtain ⟨cv, hev, hcr⟩ := hcl
  have hl := (hargs args.toList).app hcr
  obtain ⟨H1, hle, hx1, hl1, hr1⟩ := hr.letGoAll us hu hnd hl
  rw [ha] at hl1
  have := hc H1 L _ w hr1.glob hr1.heap hl1
  have e1 : (List.map a.eval args.toList ++ cv).toArray = args.map a.eval ++ cv.toArray := by apply Array.ext'; simp
  rw [e1] at this
  refine wp_enter (run_call_val h hev hb hnm) (this.mono ?_)
  rintro e w' ⟨H', v, rfl, hv, hx, hh, hbl⟩
  refine ⟨v, rfl, H', L, hx1.trans ⟨hx.1, fun b hb => hx.2 b (Nat.lt_of_lt_of_le hb hr.below.size)⟩, ?_⟩
  have h2 := (hr1.grow hx hh hbl).val (dst := o.dst) hd (RepV.mono (Heap.le_refl _) (noLoc_le L) hv) [] []
  have e : S.app o.dst { val := res, use := us.map (·.1), upd := us.map fun p => (p.1, none) } = SS.app { ρ := S.ρ, μ := fun i => if i ∈ us.map (·.1) then none else S.μ i } o.dst { val := res, use := [], fresh := [] } := by
    unfold SS.app
    congr 1
    funext i
    simp only [lkU_drop, lkU]
    by_cases hi : i ∈ us.map (·.1) <;> simp [hi]
  rw [e]
  exact h2

theorem sound_callB (hr : Rep C n w0 H L S a w) (hd : ∀ d, o.dst = some d → d < n) {y : Operand} {f : FuncId} {args : Array Operand} {tys : Array TypeId} {caps : List AV} {us : List (Nat × Nat × List AV)} {as : List AV} {u : Value} (h : o.op = .call { callee := .value y, args := args, argTypes := tys }) (hy : S.ev y = .clo f caps) (hb : ((C.P.funcs[f]?).map (·.body.isSome)) = some true)
    (hnm : ((C.P.funcs[f]?).map (·.name == "runtime.NumGoroutine")) = some false) (hu : ∀ p ∈ us, ∃ e, S.μ p.1 = some (.row e p.2.1 p.2.2)) (hnd : (us.map (·.1)).Nodup) (ha : frzAll us (args.toList.map S.ev ++ caps) = as) (hc : ECalls C f as (.lit u)) :
    Sound C n w0 H S a w o Q { val := .lit u, use := us.map (·.1) } := by
  have hargs : ∀ (l : List Operand), RepL H (l.map S.ev) L (l.map a.eval) := by
    intro l
    induction l with
    | nil => simp only [List.map_nil, RepL]
    | cons x l ih => simp only [List.map_cons, RepL]; exact ⟨_, _, rfl, hr.ev x, ih⟩
  have hcl := hr.ev y
  rw [hy] at hcl
  simp only [RepV] at hcl
  obtain ⟨cv, hev, hcr⟩ := hcl
  have hl := (hargs args.toList).app hcr
  obtain ⟨H1, hle, hx1, hl1, hr1⟩ := hr.letGoAll us hu hnd hl
  rw [ha] at hl1
  have := hc H1 L _ w hr1.glob hr1.heap hl1
  have e1 : (List.map a.eval args.toList ++ cv).toArray = args.map a.eval ++ cv.toArray := by apply Array.ext'; simp
  rw [e1] at this
  refine wp_enter (run_call_val h hev hb hnm) (this.mono ?_)
  rintro e w' ⟨H', v, rfl, hv, hx, hh, hbl⟩
  simp only [RepV] at hv
  subst hv
  refine ⟨v, rfl, H, L, Ext.refl _ _, ?_⟩
  have hh' : ∀ b o, H b = some o → w'.heap[b]? = some o := fun b o hb => by
    rw [hbl.block b (Array.getElem?_eq_some_iff.1 (hr.heap b o hb)).1]; exact hr.heap b o hb
  exact (hr.grow (Ext.refl _ _) hh' hbl).val (dst := o.dst) hd (x := .lit v) (by simp only [RepV]) _ _

/-- An object more, in a block that is no other object's. -/
theorem Rep.add (h : Rep C n w0 H L S a w) {id : Nat} {ob : AO} {x : Value} (hf : S.Fresh id) (hx : ∀ g, ownB x = some g → ∀ k o y, S.μ k = some o → L k = some y → ownB y ≠ some g) (ho : RepO H w0.heap.size w (L.set id (some x)) id ob) :
    Rep C n w0 H (L.set id (some x)) { ρ := S.ρ, μ := fun i => if i = id then some ob else S.μ i } a w where
  glob := h.glob
  heap := h.heap
  size := h.size
  slot i := RepV.setL (hf.2.1 i) (h.slot i)
  objs i o hi := by
    by_cases hid : i = id
    · subst hid
      simp at hi
      subst hi
      exact ho
    · simp [hid] at hi
      exact (h.objs i o hi).kept (Heap.le_refl _) (fun g _ _ hn => hn) (by simp [Loc.set, hid]) (fun cs hcs vs hr => by
        rcases hcs with ⟨t, rfl⟩ | ⟨us, rfl⟩ <;> exact RepL.setL (hf.2.2 i _ hi) hr) (fun _ _ _ _ => rfl)
  apart i j o o' g y y' hne hi hj hl hl' hg hg' := by
    by_cases h1 : i = id
    · subst h1
      have h2 : ¬ j = i := fun e => hne e.symm
      simp [h2] at hj
      simp [Loc.set] at hl
      simp [Loc.set, h2] at hl'
      subst hl
      exact hx g hg j o' y' hj hl' hg'
    · by_cases h2 : j = id
      · subst h2
        simp [h1] at hi
        simp [Loc.set] at hl'
        simp [Loc.set, h1] at hl
        subst hl'
        exact hx g hg' i o y hi hl hg
      · simp [h1] at hi
        simp [h2] at hj
        simp [Loc.set, h1] at hl
        simp [Loc.set, h2] at hl'
        exact h.apart i j o o' g y y' hne hi hj hl hl' hg hg'
  below := h.below
  defers := h.defers

mutual
theorem AV.closed_hasNot : ∀ {x : AV} {id : Nat}, x.closed = true → x.has id = false
  | .any, _, _ => rfl
  | .lit _, _, _ => rfl
  | .sl _ _, _, _ => rfl
  | .slc _ _ _, _, _ => rfl
  | .ip _, _, _ => rfl
  | .agg fs, _, h => closedL_hasNot (xs := fs) h
  | .tup fs, _, h => closedL_hasNot (xs := fs) h
  | .clo _ fs, _, h => closedL_hasNot (xs := fs) h
  | .ref _ _, _, h => by simp [AV.closed] at h
  | .row _, _, h => by simp [AV.closed] at h
theorem closedL_hasNot : ∀ {xs : List AV} {id : Nat}, closedL xs = true → hasL id xs = false
  | [], _, _ => rfl
  | x :: xs, id, h => by
    simp only [closedL, Bool.and_eq_true] at h
    simp only [hasL, AV.closed_hasNot h.1, closedL_hasNot h.2, Bool.or_self]
end
/-- A call that hands back a closure over two new variables. -/
theorem sound_callW (hr : Rep C n w0 H L S a w) (hd : ∀ d, o.dst = some d → d < n) {f : FuncId} {args : Array Operand} {tys : Array TypeId} {as : List AV} {f2 : FuncId} {t1 t2 : TypeId} {cs1 cs2 : List AV} {id1 id2 : Nat} (hf1 : S.Fresh id1) (hf2 : S.Fresh id2) (h : o.op = .call { callee := .value (.func f), args := args, argTypes := tys }) (hb : ((C.P.funcs[f]?).map (·.body.isSome)) = some true)
    (hnm : ((C.P.funcs[f]?).map (·.name == "runtime.NumGoroutine")) = some false) (ha : args.toList.map S.ev = as) (hne : id1 ≠ id2) (hc1 : closedL cs1 = true) (hc2 : closedL cs2 = true) (hc : ECallsW C f as f2 t1 cs1 t2 cs2) :
    Sound C n w0 H S a w o Q { val := .clo f2 [.ref id1 0, .ref id2 0], upd := [(id1, some (.var t1 cs1)), (id2, some (.var t2 cs2))], fresh := [id1, id2] } := by
  have hargs : ∀ (l : List Operand), RepL H (l.map S.ev) L (l.map a.eval) := by
    intro l
    induction l with
    | nil => simp only [List.map_nil, RepL]
    | cons x l ih => simp only [List.map_cons, RepL]; exact ⟨_, _, rfl, hr.ev x, ih⟩
  have hl := hargs args.toList
  rw [ha] at hl
  have := hc H L _ w hr.glob hr.heap hl
  have e1 : (List.map a.eval args.toList).toArray = args.map a.eval := by apply Array.ext'; rw [Array.toList_map]
  rw [e1] at this
  refine wp_enter (run_call_fn h hb hnm) (this.mono ?_)
  rintro e w' ⟨H', g1, g2, vs1, vs2, rfl, hx, hh, hbl, hg, hB1, hB2, hn1, hn2, hh1, hh2, hr1, hr2, ho1, ho2⟩
  have hle : w0.heap.size ≤ w.heap.size := hr.below.size
  have hx' : Ext w0.heap.size H H' := ⟨hx.1, fun b hb => hx.2 b (Nat.lt_of_lt_of_le hb hle)⟩
  have hgr := hr.grow hx hh hbl
  have old : ∀ k ob y g, S.μ k = some ob → L k = some y → ownB y = some g → g < w.heap.size := fun k ob y g hk hy hyg => by
    obtain ⟨x', hx1, hb2⟩ := (hr.objs k ob hk).block
    rw [hy] at hx1
    cases hx1
    exact (hb2 g hyg).1
  have A1 := hgr.add (id := id1) (ob := .var t1 cs1) (x := .pointer (some ⟨g1, 0, none⟩)) hf1 (fun g hgg k ob y hk hy hyg => by
      simp [ownB] at hgg
      have := old k ob y g hk hy hyg
      omega)
    ⟨g1, vs1, by simp [Loc.set], hh1, RepL.closed hc1 hr1, ho1, by omega, hn1⟩
  have hf2' : SS.Fresh { ρ := S.ρ, μ := fun i => if i = id1 then some (.var t1 cs1) else S.μ i } id2 := by
    refine ⟨(if_neg (fun e : id2 = id1 => hne e.symm)).trans hf2.1, hf2.2.1, fun i ob hi => ?_⟩
    by_cases h1 : i = id1
    · simp [h1] at hi
      subst hi
      exact closedL_hasNot hc1
    · simp [h1] at hi
      exact hf2.2.2 i ob hi
  have A2 := A1.add (id := id2) (ob := .var t2 cs2) (x := .pointer (some ⟨g2, 0, none⟩)) hf2' (fun g hgg k ob y hk hy hyg => by
      simp [ownB] at hgg
      by_cases h1 : k = id1
      · subst h1
        simp [Loc.set] at hy
        subst hy
        simp [ownB] at hyg
        omega
      · simp [h1] at hk
        simp [Loc.set, h1] at hy
        have := old k ob y g hk hy hyg
        omega)
    ⟨g2, vs2, by simp [Loc.set], hh2, RepL.closed hc2 hr2, ho2, by omega, hn2⟩
  refine ⟨_, rfl, H', (L.set id1 (some (.pointer (some ⟨g1, 0, none⟩)))).set id2 (some (.pointer (some ⟨g2, 0, none⟩))), hx', ?_⟩
  have hv := A2.val (dst := o.dst) hd (x := .clo f2 [.ref id1 0, .ref id2 0]) (v := .func (.func f2) #[] #[.pointer (some ⟨g1, 0, none⟩), .pointer (some ⟨g2, 0, none⟩)])
    (by
      simp only [RepV, RepL]
      exact ⟨[.pointer (some ⟨g1, 0, none⟩), .pointer (some ⟨g2, 0, none⟩)], rfl, _, _, rfl, ⟨.pointer (some ⟨g1, 0, none⟩), g1, by simp [Loc.set, hne], rfl, rfl⟩, _, _, rfl, ⟨.pointer (some ⟨g2, 0, none⟩), g2, by simp [Loc.set], rfl, rfl⟩, rfl⟩) [] []
  have e : S.app o.dst { val := .clo f2 [.ref id1 0, .ref id2 0], upd := [(id1, some (.var t1 cs1)), (id2, some (.var t2 cs2))], fresh := [id1, id2] } = SS.app { ρ := S.ρ, μ := fun i => if i = id2 then some (.var t2 cs2) else if i = id1 then some (.var t1 cs1) else S.μ i } o.dst { val := .clo f2 [.ref id1 0, .ref id2 0], use := [], fresh := [] } := by
    unfold SS.app
    congr 1
    funext i
    by_cases h1 : i = id1
    · subst h1; simp [lkU, hne]
    · by_cases h2 : i = id2
      · simp [lkU, h2, beq_ne hne]
      · simp [lkU, h1, h2, beq_ne (fun e : id1 = i => h1 e.symm), beq_ne (fun e : id2 = i => h2 e.symm)]
  rw [e]
  exact hv

theorem sound_callM (hr : Rep C n w0 H L S a w) (hd : ∀ d, o.dst = some d → d < n) {f : FuncId} {args : Array Operand} {tys : Array TypeId} {as : List AV} {res : AV} {id : Nat} {e : TypeId} {sz : Nat} {cs : List AV} (hf : S.Fresh id) (h : o.op = .call { callee := .value (.func f), args := args, argTypes := tys }) (hb : ((C.P.funcs[f]?).map (·.body.isSome)) = some true)
    (hnm : ((C.P.funcs[f]?).map (·.name == "runtime.NumGoroutine")) = some false) (ha : args.toList.map S.ev = as) (hc : ECallsM C f as res id e sz cs) :
    Sound C n w0 H S a w o Q { val := res, upd := [(id, some (.row e sz cs))], fresh := [id] } := by
  have hargs : ∀ (l : List Operand), RepL H (l.map S.ev) L (l.map a.eval) := by
    intro l
    induction l with
    | nil => simp only [List.map_nil, RepL]
    | cons x l ih => simp only [List.map_cons, RepL]; exact ⟨_, _, rfl, hr.ev x, ih⟩
  have hl := hargs args.toList
  rw [ha] at hl
  have := hc H L _ w hr.glob hr.heap hl
  have e1 : (List.map a.eval args.toList).toArray = args.map a.eval := by apply Array.ext'; rw [Array.toList_map]
  rw [e1] at this
  refine wp_enter (run_call_fn h hb hnm) (this.mono ?_)
  rintro e' w' ⟨H', v, rv, rfl, hv, hro, hx, hh, hbl⟩
  have hle : w0.heap.size ≤ w.heap.size := hr.below.size
  have hx' : Ext w0.heap.size H H' := ⟨hx.1, fun b hb => hx.2 b (Nat.lt_of_lt_of_le hb hle)⟩
  have hgr := hr.grow hx hh hbl
  have old : ∀ k ob y g, S.μ k = some ob → L k = some y → ownB y = some g → g < w.heap.size := fun k ob y g hk hy hyg => by
    obtain ⟨x', hx1, hb2⟩ := (hr.objs k ob hk).block
    rw [hy] at hx1
    cases hx1
    exact (hb2 g hyg).1
  obtain ⟨x2, hx2, hb2⟩ := hro.block
  simp [Loc.set] at hx2
  subst hx2
  obtain ⟨v0, vs, m, hl0, hlen, hown, hrl, h1, hsz, hbd, hH⟩ := hro
  simp [Loc.set] at hl0
  subst hl0
  have hown' : w'.ownsRow w0.heap.size e sz rv m vs := by
    refine ⟨hown.1, ?_⟩
    rcases hown.2 with h | ⟨g', cap, cur, hv', hb', hrest⟩
    · exact .inl h
    · exact .inr ⟨g', cap, cur, hv', Nat.le_trans hle hb', hrest⟩
  have A1 := hgr.add (id := id) (ob := .row e sz cs) (x := rv) hf (fun g hgg k ob y hk hy hyg => by
      have h1 := (hb2 g hgg).2.1
      have := old k ob y g hk hy hyg
      omega)
    ⟨rv, vs, m, by simp [Loc.set], hlen, hown', hrl, h1, hsz, hbd, hH⟩
  refine ⟨_, rfl, H', L.set id (some rv), hx', ?_⟩
  have hle2 : Loc.le (noLoc.set id (some rv)) (L.set id (some rv)) := fun i y hy => by
    by_cases h : i = id
    · subst h; simpa [Loc.set] using hy
    · simp [Loc.set, h, noLoc] at hy
  have hv' := A1.val (dst := o.dst) hd (x := res) (v := v) (RepV.mono (Heap.le_refl _) hle2 hv) [] []
  have e2 : S.app o.dst { val := res, upd := [(id, some (.row e sz cs))], fresh := [id] } = SS.app { ρ := S.ρ, μ := fun i => if i = id then some (.row e sz cs) else S.μ i } o.dst { val := res, use := [], fresh := [] } := by
    unfold SS.app
    congr 1
    funext i
    by_cases h1 : i = id
    · subst h1; simp [lkU]
    · simp [lkU, h1, beq_ne (fun e : id = i => h1 e.symm)]
  rw [e2]
  exact hv'

/-- What ranges over a string. -/
theorem sound_iterNew (hr : Rep C n w0 H L S a w) (hd : ∀ d, o.dst = some d → d < n) {id : Nat} (hf : S.Fresh id) {t : TypeId} {x : Operand} {str : ByteArray} (h : o.op = .range t x) (ht : C.P.underlying t = some .string) (hx : S.ev x = .lit (.string str)) :
    Sound C n w0 H S a w o Q { val := .ref id 0, upd := [(id, some (.blk (.stringIter str 0)))], fresh := [id] } := by
  have hxe := hr.ev x
  rw [hx] at hxe
  simp only [RepV] at hxe
  have hex : (execOp a.eval o).run C.P w = .ok (.value (.pointer (some ⟨w.heap.size, 0, none⟩))) (w.alloc (.stringIter str 0)) := by
    have hr0 := run_range_string (P := C.P) w t str ht
    simp only [execOp, h, hxe, Sem.run_bind, hr0, Result.andThen_ok, Sem.run_pure]
    rfl
  refine wp_value hex ⟨H, L.set id (some (.pointer (some ⟨w.heap.size, 0, none⟩))), Ext.refl _ _, ?_⟩
  have hnone : H w.heap.size = none := by
    cases hh : H w.heap.size with
    | none => rfl
    | some ob => have := (Array.getElem?_eq_some_iff.1 (hr.heap _ _ hh)).1; omega
  have hnew := hr.new (id := id) (ob := .blk (.stringIter str 0)) (x := .pointer (some ⟨w.heap.size, 0, none⟩)) (w' := w.alloc (.stringIter str 0)) hf (alloc_below w _) (fun g hg => by simp [ownB] at hg; omega)
    ⟨w.heap.size, by simp [Loc.set], by rw [heap_alloc_new], hr.below.size, hnone⟩
    (fun b ob hb => by rw [(alloc_below w _).block b (Array.getElem?_eq_some_iff.1 (hr.heap _ _ hb)).1]; exact hr.heap _ _ hb)
  have hv := hnew.val (dst := o.dst) hd (x := .ref id 0) (v := .pointer (some ⟨w.heap.size, 0, none⟩)) (by simp [RepV, Loc.set, ownB]) [] [id]
  rw [app_upd1 S o.dst (.ref id 0) id (.blk (.stringIter str 0)) [] [id] [] [id]]
  exact hv
theorem iterAt (hr : Rep C n w0 H L S a w) {x : Operand} {id : Nat} {str : ByteArray} {pos : Nat} (hx : S.ev x = .ref id 0) (ho : S.μ id = some (.blk (.stringIter str pos))) : ∃ g, a.eval x = .pointer (some ⟨g, 0, none⟩) ∧ L id = some (.pointer (some ⟨g, 0, none⟩)) ∧ w.heap[g]? = some (.stringIter str pos) ∧ w0.heap.size ≤ g ∧ H g = none := by
  have hxe := hr.ev x
  rw [hx] at hxe
  simp only [RepV] at hxe
  obtain ⟨y, g, hl, hg, hv⟩ := hxe
  obtain ⟨g', hl', hh, hB, hH⟩ := hr.objs id _ ho
  rw [hl] at hl'
  cases hl'
  simp [ownB] at hg
  subst hg
  exact ⟨g', hv, hl, hh, hB, hH⟩
theorem sound_iterNext (hr : Rep C n w0 H L S a w) (hd : ∀ d, o.dst = some d → d < n) {x : Operand} {id : Nat} {str : ByteArray} {pos : Nat} (h : o.op = .next x true) (hx : S.ev x = .ref id 0) (ho : S.μ id = some (.blk (.stringIter str pos))) (hp : pos < str.size) :
    Sound C n w0 H S a w o Q { val := .tup [.lit (.bool true), .lit (goInt pos), .lit (.int .i32 (Utf8.decode str pos).1)], upd := [(id, some (.blk (.stringIter str (pos + (Utf8.decode str pos).2))))], use := [id] } := by
  obtain ⟨g, hv, hl, hh, hB, hH⟩ := iterAt hr hx ho
  have hlt := (Array.getElem?_eq_some_iff.1 hh).1
  have hex : (execOp a.eval o).run C.P w = .ok (.value (.tuple #[.bool true, goInt pos, .int .i32 (Utf8.decode str pos).1])) { w with heap := w.heap.setIfInBounds g (.stringIter str (pos + (Utf8.decode str pos).2)) } := by
    have hn : (Instr.next (.pointer (some ⟨g, 0, none⟩)) true o.type).run C.P w = .ok (.tuple #[.bool true, goInt pos, .int .i32 (Utf8.decode str pos).1]) { w with heap := w.heap.setIfInBounds g (.stringIter str (pos + (Utf8.decode str pos).2)) } := by
      simp only [Instr.next, getObj, setObj, Sem.run_bind, Sem.run, hh, Result.andThen, hp, if_true]
      simp [Sem.run, hh]
    simp only [execOp, h, hv, Sem.run_bind, hn, Result.andThen_ok, Sem.run_pure]
  have hoth : ∀ k, k ≠ g → (w.heap.setIfInBounds g (.stringIter str (pos + (Utf8.decode str pos).2)))[k]? = w.heap[k]? := fun k hk => by
    rw [Array.getElem?_setIfInBounds, if_neg (fun e : g = k => hk e.symm)]
  have hw := hr.wrote (ob' := .blk (.stringIter str (pos + (Utf8.decode str pos).2))) ho hl rfl (w' := { w with heap := w.heap.setIfInBounds g (.stringIter str (pos + (Utf8.decode str pos).2)) }) hoth ⟨rfl, rfl, rfl, by simp, fun k hk => hoth k (by omega)⟩
    ⟨g, hl, by simp [hlt], hB, hH⟩
  refine wp_value hex ⟨H, L, Ext.refl _ _, ?_⟩
  have hval := hw.val (dst := o.dst) hd (x := .tup [.lit (.bool true), .lit (goInt pos), .lit (.int .i32 (Utf8.decode str pos).1)]) (v := .tuple #[.bool true, goInt pos, .int .i32 (Utf8.decode str pos).1])
    (by simp only [RepV, RepL]; exact ⟨[_, _, _], rfl, _, _, rfl, rfl, _, _, rfl, rfl, _, _, rfl, rfl, rfl⟩) [id] []
  rw [app_upd1 S o.dst _ id _ [id] [] [id] []]
  exact hval
theorem sound_iterEnd (hr : Rep C n w0 H L S a w) (hd : ∀ d, o.dst = some d → d < n) {x : Operand} {id : Nat} {str : ByteArray} {pos : Nat} (h : o.op = .next x true) (hx : S.ev x = .ref id 0) (ho : S.μ id = some (.blk (.stringIter str pos))) (hp : ¬ pos < str.size) :
    Sound C n w0 H S a w o Q { val := .tup [.lit (.bool false)], use := [id] } := by
  obtain ⟨g, hv, hl, hh, hB, hH⟩ := iterAt hr hx ho
  have hex : (execOp a.eval o).run C.P w = .ok (.value (.tuple #[.bool false])) w := by
    have hn : (Instr.next (.pointer (some ⟨g, 0, none⟩)) true o.type).run C.P w = .ok (.tuple #[.bool false]) w := by
      simp [Instr.next, getObj, Sem.run, hh, hp]
    simp only [execOp, h, hv, Sem.run_bind, hn, Result.andThen_ok, Sem.run_pure]
  exact sound_val hr hd (v := .tuple #[.bool false]) (by simp only [RepV, RepL]; exact ⟨[_], rfl, _, _, rfl, rfl, rfl⟩) [id] [] hex
end
end Go.Ab
namespace Go.Ab
open Go.RowKit
section
variable {C : Ctx} {n : Nat} {w0 : World} {H : Heap} {L : Loc} {S : SS} {a : Act} {w : World} {o : Oper} {Q : Exit → Act → World → Prop}
theorem Step.sound {e : Eff} (h : Step C S o e) (hr : Rep C n w0 H L S a w) (hd : ∀ d, o.dst = some d → d < n) (hf : ∀ id ∈ e.fresh, S.Fresh id) : Sound C n w0 H S a w o Q e := by
  cases h with
  | pure v h =>
    refine sound_val hr hd (v := v) (by simp [RepV]) [] [] (h a.eval (fun x _ u hu => ?_) w)
    have := hr.ev x
    rw [hu] at this
    simpa [RepV] using this
  | copy x h => exact sound_val hr hd (hr.ev x) [] [] (by rcases h with h | h <;> simp [execOp, h])
  | pick c x y t h hc =>
    have hce := hr.ev c
    rw [hc] at hce
    simp only [RepV] at hce
    refine sound_val hr hd (v := if t then a.eval x else a.eval y) ?_ [] [] (by cases t <;> simp [execOp, h, hce, asBool])
    cases t
    · exact hr.ev y
    · exact hr.ev x
  | lenSl t e x sz m cs h ht hx hn => exact sound_lenSl hr hd h ht hx hn [] []
  | lenRow t e e' x id sz m cs h ht hx ho hn => exact sound_lenRow hr hd h ht hx ho hn _ _
  | call f args tys as res h hb hnm ha hc => exact sound_call hr hd h hb hnm ha hc [] []
  | callG y f args tys caps us as res h hy hb hnm hu hnd ha hc => exact sound_callG hr hd h hy hb hnm hu hnd ha hc
  | callB y f args tys caps us as u h hy hb hnm hu hnd ha hc => exact sound_callB hr hd h hy hb hnm hu hnd ha hc
  | callW f args tys as f2 t1 t2 cs1 cs2 id1 id2 h hb hnm ha hne hc1 hc2 hc => exact sound_callW hr hd (hf id1 (by simp)) (hf id2 (by simp)) h hb hnm ha hne hc1 hc2 hc
  | callM f args tys as res id e sz cs h hb hnm ha hc => exact sound_callM hr hd (hf id (by simp)) h hb hnm ha hc
  | alloc t z id h hz h1 => exact sound_alloc hr hd (hf id (by simp)) h hz h1
  | box t x id cs h hx => exact sound_box hr hd (hf id (by simp)) h hx
  | loadA t x id off k ob h hx ho hni ht hk => exact sound_loadA hr hd h hx ho hni ht hk _ _
  | loadS t x id off ob c h hx ho ht hk => exact sound_loadS hr hd h hx ho ht hk _ _
  | loadIA t x k cs h hx ht hk => exact sound_loadIA hr hd h hx ht hk _ _
  | loadIS t x c cs h hx ht hk => exact sound_loadIS hr hd h hx ht hk _ _
  | store t x y id off k ob new h hx ho hy hv ht hn hk =>
    cases ob with
    | row _ _ _ => simp [AO.isVar] at hv
    | blk _ => simp [AO.isVar] at hv
    | pin _ _ => simp [AO.isVar] at hv
    | var ty cs => subst hn; exact sound_store hr hd h hx ho hy ht hk _ _
  | storeRow t x y id off k e sz cs new h hx ho hy hcl ht hn hk => subst hn; exact sound_storeRow hr hd h hx ho hy hcl ht hk _ _
  | fieldRef t x f id off fo ft h hx hf' => exact sound_fieldRef hr hd h hx hf' _ _
  | fieldIp t x f fo ft cs h hx hf' hk => exact sound_fieldIp hr hd h hx hf' hk _ _
  | fieldS t x f fo ft cs c h hx hf' ht hk => exact sound_fieldS hr hd h hx hf' ht hk _ _
  | fieldA t x f fo k ft cs h hx hf' ht hk => exact sound_fieldA hr hd h hx hf' ht hk _ _
  | indexSl t x y e sz by' cs k i h ht hx hy h0 h1 => exact sound_indexSl hr hd h ht hx hy h0 h1 _ _
  | indexRow t x y e e' id sz by' cs k i h ht hx ho hy h0 h1 => exact sound_indexRow hr hd h ht hx ho hy h0 h1 _ _
  | build t parts pl z ps cs h hp hz h1 hps hc => exact sound_build hr hd h hp hz h1 hps hc _ _
  | buildSlice t len parts e sz by' z ps cs id h ht hsz hz h1 hzl hps hc hcl hl => exact sound_buildSlice hr hd (hf id (by simp)) h ht hsz hz h1 hzl hps hc hcl hl
  | make0 t x y e sz by' z k k' c id h ht hsz hz hx hy h0 hb hm => exact sound_make0 hr hd (hf id (by simp)) h ht hsz hz hx hy h0 hb hm
  | makeN t x y e by' z k k' c id h ht hz h1 hx hy h0 hb hby => exact sound_makeN hr hd (hf id (by simp)) h ht hz h1 hx hy h0 hb hby
  | sliceSl t x lo hi mx e sz by' m cs l k h ht hx hn hlo hhi hmx h1 h2 => exact sound_sliceSl hr hd h ht hx hn hlo hhi hmx h1 h2 _ _
  | sliceX t x lo hi mx e sz by' m cs l k h ht hx hn hlo hhi hmx hs h1 h2 => exact sound_sliceX hr hd h ht hx hn hlo hhi hmx hs h1 h2 _ _
  | append t s x e sz by' z id id' cs ds us h ht hsz hz hzl hs ho hx hb hl => exact sound_append hr hd (hf id' (by simp)) h ht hsz hz hzl hs ho (hx.imp And.left fun ⟨i, e', h1, h2, _⟩ => ⟨i, e', h1, h2⟩) hb hl
  | appendNil t s x e sz by' z id' ds us h ht hsz hz hzl hs hx hb hl => exact sound_appendNil hr hd (hf id' (by simp)) h ht hsz hz hzl hs (hx.imp And.left fun ⟨i, e', h1, h2, _⟩ => ⟨i, e', h1, h2⟩) hb hl
  | appendS t tu s x e id id' cs str h ht hus hz hs ho hx hb => exact sound_appendS hr hd (hf id' (by simp)) h ht hus hz hs ho hx hb
  | iterNew t x id str h ht hx => exact sound_iterNew hr hd (hf id (by simp)) h ht hx
  | iterNext x id str pos h hx ho hp => exact sound_iterNext hr hd h hx ho hp
  | iterEnd x id str pos h hx ho hp => exact sound_iterEnd hr hd h hx ho hp
  | extract x i fs c h hx hi => exact sound_extract hr hd h hx hi _ _
  | strOf t t' x id e sz bs cs h ht he ht' hx ho hsz hc => exact sound_strOf hr hd h ht he ht' hx ho hsz hc _ _
  | makeFunc f caps h => exact sound_makeFunc hr hd h _ _
  | nilRef x id off h hx => exact sound_nilRef hr hd h hx _ _
  | nilIp x cs h hx => exact sound_nilIp hr hd h hx _ _
end
end Go.Ab
