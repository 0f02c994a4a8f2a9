/- Each operation's step is sound (the last cases). Over any program. -/
import Derived.Test.YtkngglpnejdicaaDoorAb5
set_option linter.unusedVariables false
set_option linter.unusedSimpArgs false
namespace Go.Ab
open Go.RowKit

section
variable {C : Ctx} {n : Nat} {w0 : World} {H : Heap} {L : Loc} {S : SS} {a : Act} {w : World} {o : Oper} {Q : Exit → Act → World → Prop}

theorem foldl_set (off : Nat) : ∀ (l : List Value) (k : Nat) (cells : Array Value), off + k + l.length ≤ cells.size →
    ((l.zipIdx k).foldl (fun (cs : Array Value) (p : Value × Nat) => cs.setIfInBounds (off + p.2) p.1) cells).toList = cells.toList.take (off + k) ++ l ++ cells.toList.drop (off + k + l.length)
  | [], k, cells, _ => by simp
  | v :: l, k, cells, h => by
    simp only [List.length_cons] at h
    simp only [List.zipIdx_cons, List.foldl_cons]
    rw [foldl_set off l (k + 1) _ (by simp; omega)]
    simp only [Array.toList_setIfInBounds, List.length_cons]
    apply List.ext_getElem?
    intro j
    simp only [List.getElem?_append, List.length_take, List.length_set, Array.length_toList, List.length_append, List.length_cons]
    have hk : off + k < cells.size := by omega
    rw [show min (off + (k + 1)) cells.size = off + k + 1 by omega, show min (off + k) cells.size = off + k by omega]
    by_cases h1 : j < off + k
    · rw [if_pos (by omega), if_pos (by omega), if_pos (by omega), if_pos (by omega)]
      rw [List.getElem?_take, List.getElem?_take, if_pos (by omega), if_pos (by omega), List.getElem?_set, if_neg (by omega)]
    · by_cases h2 : j = off + k
      · subst h2
        rw [if_pos (by omega), if_pos (by omega), if_pos (by omega), if_neg (by omega)]
        rw [List.getElem?_take, if_pos (by omega), List.getElem?_set, if_pos rfl]
        simp [hk]
      · by_cases h3 : j < off + k + 1 + l.length
        · rw [if_pos (by omega), if_neg (by omega), if_pos (by omega), if_neg (by omega)]
          rw [show j - (off + k) = (j - (off + k + 1)) + 1 by omega, List.getElem?_cons_succ]
        · rw [if_neg (by omega), if_neg (by omega)]
          rw [List.getElem?_drop, List.getElem?_drop, List.getElem?_set, if_neg (by omega)]
          congr 1
          omega
theorem fill_over (v : Value) (off : Nat) (cells : Array Value) (h : off + v.cells.size ≤ cells.size) :
    (v.cells.zipIdx.foldl (fun (cs : Array Value) (x : Value × Nat) => match x with | (c, j) => cs.setIfInBounds (off + j) c) cells).toList = cells.toList.take off ++ v.cells.toList ++ cells.toList.drop (off + v.cells.toList.length) := by
  have := foldl_set off v.cells.toList 0 cells (by simpa using h)
  simp only [Nat.add_zero] at this
  rw [← this, ← Array.foldl_toList, Array.toList_zipIdx]

inductive All2 {α β : Type} (R : α → β → Prop) : List α → List β → Prop
  | nil : All2 R [] []
  | cons {a b as bs} : R a b → All2 R as bs → All2 R (a :: as) (b :: bs)

theorem fill_rep {pl : Nat → Option (Nat × Nat)} : ∀ (ps : List (Nat × List AV)) (parts : List (Nat × Value)) (zs cs : List AV) (arr : Array Value), RepL H zs L arr.toList → (∀ u ∈ arr.toList, u.oneCell' = true) →
    (All2 (fun (p : Nat × List AV) (q : Nat × Value) => p.1 = q.1 ∧ RepL H p.2 L q.2.cells.toList ∧ ∀ u ∈ q.2.cells.toList, u.oneCell' = true) ps parts) → fillA pl zs ps = some cs →
    ∃ arr', Instr.fill pl arr parts = some arr' ∧ RepL H cs L arr'.toList ∧ ∀ u ∈ arr'.toList, u.oneCell' = true
  | [], _, zs, cs, arr, hz, h1, hp, hc => by
    cases hp
    simp [fillA] at hc
    subst hc
    exact ⟨arr, rfl, hz, h1⟩
  | (i, new) :: ps, _, zs, cs, arr, hz, h1, hp, hc => by
    cases hp with
    | cons hq hp =>
      rename_i q parts
      obtain ⟨i', v⟩ := q
      obtain ⟨rfl, hr, hv1⟩ := hq
      simp only [fillA] at hc
      cases hpl : pl i with
      | none => simp [hpl] at hc
      | some os =>
        obtain ⟨off, size⟩ := os
        simp only [hpl] at hc
        cases hcond : Nat.beq new.length size && Nat.ble (off + size) zs.length with
        | false => simp [hcond] at hc
        | true =>
          simp only [hcond, cond_true] at hc
          simp only [Bool.and_eq_true] at hcond
          have e1 := Nat.eq_of_beq_eq_true hcond.1
          have e2 := Nat.le_of_ble_eq_true hcond.2
          have e3 := hr.length
          have e4 := hz.length
          simp only [Array.length_toList] at e3 e4
          have hov := fill_over v off arr (by omega)
          obtain ⟨arr', hf, hrr, h11⟩ := fill_rep ps parts (over zs off new) cs _ (by rw [hov]; exact over_rep hz hr) (by
            rw [hov]
            intro u hu
            rcases List.mem_append.1 hu with hu | hu
            · rcases List.mem_append.1 hu with hu | hu
              · exact h1 u (List.mem_of_mem_take hu)
              · exact hv1 u hu
            · exact h1 u (List.mem_of_mem_drop hu)) hp hc
          refine ⟨arr', ?_, hrr, h11⟩
          simp only [Instr.fill, hpl]
          rw [if_neg (by simp; omega)]
          exact hf

theorem parts_rep (hr : Rep C n w0 H L S a w) : ∀ (l : List (Nat × Operand)) (ps : List (Nat × List AV)), optL (l.map fun (i, x) => (cellsOf (S.ev x)).map fun c => (i, c)) = some ps →
    All2 (fun (p : Nat × List AV) (q : Nat × Value) => p.1 = q.1 ∧ RepL H p.2 L q.2.cells.toList ∧ ∀ u ∈ q.2.cells.toList, u.oneCell' = true) ps (l.map fun (i, x) => (i, a.eval x))
  | [], ps, h => by simp [optL] at h; subst h; exact .nil
  | (i, x) :: l, ps, h => by
    simp only [List.map_cons] at h
    cases hc : cellsOf (S.ev x) with
    | none => simp [hc, optL] at h
    | some c =>
      simp only [hc, Option.map_some, optL] at h
      cases hl : optL (l.map fun (i, x) => (cellsOf (S.ev x)).map fun c => (i, c)) with
      | none => rw [hl] at h; simp at h
      | some qs =>
        rw [hl] at h
        simp at h
        subst h
        obtain ⟨h1, h2⟩ := cellsOf_rep (hr.ev x) hc
        exact .cons ⟨rfl, h1, h2⟩ (parts_rep hr l qs hl)

theorem tyZero_spec {P : Program} {t : TypeId} {z : List Value} (h : tyZero P t = some z) : ∃ i zv, P.info? t = some i ∧ i.zero = some zv ∧ zv.cells.toList = z := by
  unfold tyZero at h
  cases hi : P.info? t with
  | none => simp [hi] at h
  | some i =>
    cases hz : i.zero with
    | none => simp [hi, hz] at h
    | some zv => simp [hi, hz] at h; exact ⟨i, zv, rfl, hz, h⟩

theorem built_of {P : Program} {t : TypeId} {pl : Nat → Option (Nat × Nat)} (hp : tyPlaces P t = some pl) {i : TypeInfo} {zv : Value} (hi : P.info? t = some i) (hz : i.zero = some zv) (parts : List (Nat × Value)) : P.built t parts = Instr.fill pl zv.cells parts := by
  unfold tyPlaces at hp
  unfold Program.built
  cases hu : P.underlying t with
  | none => simp [hu] at hp
  | some d =>
    cases d <;> simp [hu] at hp
    case array m e =>
      cases hie : P.info? e with
      | none => simp [hie] at hp
      | some ie => simp [hie] at hp; subst hp; simp [hi, hz, hie]
    case struct fields =>
      cases hm : fields.toList.mapM (fun f => (P.info? f.type).map fun i => (f.offset, i.size)) with
      | none => rw [hm] at hp; simp at hp
      | some places => rw [hm] at hp; simp at hp; subst hp; simp [hi, hz, hm]

theorem sound_build (hr : Rep C n w0 H L S a w) (hd : ∀ d, o.dst = some d → d < n) {t : TypeId} {parts : Array (Nat × Operand)} {pl : Nat → Option (Nat × Nat)} {z : List Value} {ps : List (Nat × List AV)} {cs : List AV} (h : o.op = .build t parts) (hp : tyPlaces C.P t = some pl) (hz : tyZero C.P t = some z) (h1 : z.all (·.oneCell') = true)
    (hps : optL (parts.toList.map fun (i, x) => (cellsOf (S.ev x)).map fun c => (i, c)) = some ps) (hc : fillA pl (z.map .lit) ps = some cs) (us fr : List Nat) : Sound C n w0 H S a w o Q { val := .agg cs, use := us, fresh := fr } := by
  obtain ⟨i, zv, hi, hzz, hzc⟩ := tyZero_spec hz
  subst hzc
  obtain ⟨arr, hf, hrr, h11⟩ := fill_rep ps _ _ cs zv.cells (RepL.lits L _) (List.all_eq_true.1 h1) (parts_rep hr _ _ hps) hc
  refine sound_val hr hd (v := .agg arr) (by simp only [RepV]; exact ⟨arr.toList, by simp, hrr, h11⟩) us fr ?_
  have hb := run_build (P := C.P) w t (parts.map fun (i, x) => (i, a.eval x)) arr (by rw [built_of hp hi hzz, Array.toList_map]; exact hf)
  simp [execOp, h, hb]

theorem zeros_eq (z : List Value) (zv : Array Value) (hz : zv.toList = z) (sz N : Nat) (hl : z.length = sz) (hsz : 0 < sz) : ((Array.range N).map (zv[· % zv.size]!)).toList = (List.range N).map fun j => z.getD (j % sz) undef := by
  subst hz
  simp only [Array.toList_map, Array.toList_range]
  apply List.map_congr_left
  intro j _
  have : j % sz < zv.size := by have := Nat.mod_lt j hsz; simpa [← hl] using this
  simp only [Array.length_toList] at hl
  subst hl
  rw [getElem!_pos zv (j % zv.size) this]
  simp [List.getD, this]

theorem sound_buildSlice (hr : Rep C n w0 H L S a w) (hd : ∀ d, o.dst = some d → d < n) {t : TypeId} {len : Nat} {parts : Array (Nat × Operand)} {e : TypeId} {sz by' : Nat} {z : List Value} {ps : List (Nat × List AV)} {cs : List AV} {id : Nat} (hfr : S.Fresh id) (h : o.op = .buildSlice t len parts) (ht : tyElem C.P t = some (e, sz, by')) (hsz : 0 < sz) (hz : tyZero C.P e = some z) (h1 : z.all (·.oneCell') = true)
    (hzl : z.length = sz) (hps : optL (parts.toList.map fun (i, x) => (cellsOf (S.ev x)).map fun c => (i, c)) = some ps) (hc : fillA (fun i => some (i * sz, sz)) ((List.range (len * sz)).map fun j => .lit (z.getD (j % sz) undef)) ps = some cs) (hcl : closedL cs = true) (hl : len * sz ≤ 16777216) :
    Sound C n w0 H S a w o Q { val := .row id, upd := [(id, some (.row e sz cs))], fresh := [id] } := by
  obtain ⟨hu, ie, hie, hisz, hiby⟩ := tyElem_spec ht
  obtain ⟨i, zv, hi, hzz, hzc⟩ := tyZero_spec hz
  rw [hie] at hi
  cases hi
  have hzeros := zeros_eq z zv.cells hzc sz (len * sz) hzl hsz
  have hmem : ∀ u ∈ (List.range (len * sz)).map (fun j => z.getD (j % sz) undef), u.oneCell' = true := by
    intro u hu
    obtain ⟨j, _, rfl⟩ := List.mem_map.1 hu
    have hj : j % sz < z.length := by rw [hzl]; exact Nat.mod_lt _ hsz
    simp only [List.getD, List.getElem?_eq_getElem hj, Option.getD_some]
    exact List.all_eq_true.1 h1 _ (List.getElem_mem hj)
  obtain ⟨arr, hf, hrr, h11⟩ := fill_rep (L := L) ps _ _ cs ((Array.range (len * sz)).map (zv.cells[· % zv.cells.size]!)) (by
    rw [hzeros]
    have := RepL.lits (H := H) L ((List.range (len * sz)).map fun j => z.getD (j % sz) undef)
    rw [List.map_map] at this
    exact this) (by rw [hzeros]; exact hmem) (parts_rep hr _ _ hps) hc
  have hsz2 : ∀ (ps : List (Nat × List AV)) (zs cs : List AV), fillA (fun i => some (i * sz, sz)) zs ps = some cs → cs.length = zs.length := by
    intro ps
    induction ps with
    | nil => intro zs cs h; simp [fillA] at h; rw [h]
    | cons p ps ih =>
      intro zs cs h
      obtain ⟨i, new⟩ := p
      simp only [fillA] at h
      cases hcond : Nat.beq new.length sz && Nat.ble (i * sz + sz) zs.length with
      | false => simp [hcond] at h
      | true =>
        simp only [hcond, cond_true] at h
        simp only [Bool.and_eq_true] at hcond
        have e1 := Nat.eq_of_beq_eq_true hcond.1
        have e2 := Nat.le_of_ble_eq_true hcond.2
        rw [ih _ _ h]
        simp [over]
        omega
  have hlen : cs.length = len * sz := by rw [hsz2 _ _ _ hc]; simp
  have hal := hrr.length
  simp only [Array.length_toList] at hal
  refine sound_row hr hd hfr (m := len) (vs := arr.toList) (v := .slice (some ⟨w.heap.size, 0, none⟩) len len) (w' := w.alloc (.cells arr e)) (RepL.closed hcl hrr) h11 hsz hlen (by omega) (World.ownsRow_lit w arr len (Nat.le_refl _) (by
    simp only [maxLen]
    have : len * 1 ≤ len * sz := Nat.mul_le_mul_left _ hsz
    omega) (by omega)) (alloc_below w _) rfl ?_
  have hp : (parts.map fun (i, x) => (i, a.eval x)).toList = parts.toList.map fun (i, x) => (i, a.eval x) := Array.toList_map
  have hn : ¬ (16777216 < len * sz) := by omega
  have hf' : Instr.fill (fun i => some (i * sz, sz)) ((Array.range (len * sz)).map (zv.cells[· % zv.cells.size]!)) (parts.map fun (i, x) => (i, a.eval x)).toList = some arr := by rw [hp]; exact hf
  simp only [execOp, h]
  by_cases h0 : len * sz = 0
  · have hf0 : Instr.fill (fun i => some (i * sz, sz)) ((Array.range 0).map ((#[] : Array Value)[· % (#[] : Array Value).size]!)) (parts.map fun (i, x) => (i, a.eval x)).toList = some arr := by
      rw [h0] at hf'
      simpa [Array.range_zero'] using hf'
    simp [Instr.buildSlice, run_underlying hu, sizeOf, typeInfo, hie, hisz, h0, newRow] at hf0 ⊢
    simp [hf0]
  · simp [Instr.buildSlice, run_underlying hu, sizeOf, typeInfo, hie, hisz, h0, hn, zeroValue, hzz, newRow] at hf' ⊢
    simp [hf']
end
end Go.Ab
