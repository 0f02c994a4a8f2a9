/- From a law's contract to its row. Over any program. -/
import Derived.Test.YtkngglpnejdicaaDoorAb15
import Derived.Deep.DeepHandedRow
import Derived.Lay
import Derived.Lib.LaidTab
import Derived.Lib.SmallJoins
import Derived.Carry
import Derived.SizedLaws
import Derived.ProofKit
import Derived.OpenShut
import Derived.ShutString
import Derived.ChangeOld
import Derived.ChangeSlices
import Derived.MakeChecks
set_option linter.unusedVariables false
set_option linter.unusedSimpArgs false
namespace Go.Ab
open Go.ChangeShapes Go.WideShapes Go.ChangeAt Go.RowKit
open Go.ChangeMaps (open_string shut_string)

section
variable {H : Type} {enc : TypeId × Value → H} {P : Program}
/-- There is an input that fits: the listed variables laid. -/
theorem witness_laid {C : Checked} {os : Os} {f : FuncId} {fn : Func} {s : OpenSpec} {conds : List PathCond} {apart : Bool} {laid : List (String × DataW Unit)} (args : Array Value)
    (hv : ((World.laidAll C.prog os laid).forCall (fun _ _ => 0) ⟨#[], args, []⟩).variablesZipB C.prog = true)
    (hr : (((World.laidAll C.prog os laid).forCall (fun _ _ => 0) ⟨#[], args, []⟩).heap.toList.drop C.prog.globals.size).take ((begin C.prog (fun _ _ => 0) default).world.heap.size - C.prog.globals.size) =
      (begin C.prog (fun _ _ => 0) default).world.heap.toList.drop C.prog.globals.size)
    (hok : Input.okWideB C.prog ((World.laidAll C.prog os laid).forCall (fun _ _ => 0) ⟨#[], args, []⟩) f ⟨#[], args, []⟩ = true)
    (hrow : s.preRow enc C.prog fn conds apart laid ((World.laidAll C.prog os laid).forCall (fun _ _ => 0) ⟨#[], args, []⟩).memory args) :
    ∃ (w : World) (tape : Tape) (i : Input), w.os = os ∧ (w.forCall tape i).Shaped C.prog ∧ i.vars = [] ∧ Input.okWide C.prog (w.forCall tape i) .any w.heap.size f i ∧
      s.preRow enc C.prog fn conds apart laid (w.forCall tape i).memory i.args ∧ ({} : Assume).holds C.prog (lone (Frame.enter C.prog f i.args .normal) [] (w.forCall tape i)) :=
  ⟨World.laidAll C.prog os laid, fun _ _ => 0, ⟨#[], args, []⟩, World.laidAll_os _ _ _, World.shaped_of_ZipB hv hr, (Input.okWide_of_okWideB (base := 0) hok).1, (Input.okWide_of_okWideB hok).2, hrow, by
    exact ⟨fun h => absurd h Bool.false_ne_true, fun h => absurd h Bool.false_ne_true, fun h => absurd h Bool.false_ne_true, fun d h => absurd h (by simp), fun d h => absurd h (by simp), fun h => absurd h Bool.false_ne_true⟩⟩

/-- Whatever was read reads as it did. -/
theorem trodAll_back (hl : laidOutB P = true) {W W' : World} (hb : Below W.heap.size W W') : ∀ (ts : List TypeId) (vs : List Value) (ds : List (DataW H)) (ps : List MemPlace), (ts.all fun t => P.readableRec t && decide (t < P.types.size)) = true →
    DataW.TrodAll enc P W 0 (fun _ => true) true ts vs ds ps → (∀ x ∈ ps, x.block < W.heap.size) → DataW.TrodAll enc P W' 0 (fun b => decide (b < W.heap.size)) true ts vs ds ps
  | [], [], [], ps, _, h, _ => h
  | t :: ts, v :: vs, d :: ds, ps, hr, h, hlt => by
    obtain ⟨p, q, h1, h2, rfl⟩ := h
    simp only [List.all_cons, Bool.and_eq_true, decide_eq_true_eq] at hr
    exact ⟨p, q, Below.trod hl hr.1.1 hr.1.2 h1 hb (fun x hx => hlt x (by simp [hx])), trodAll_back hl hb ts vs ds q (by simpa using hr.2) h2 (fun x hx => hlt x (by simp [hx])), rfl⟩
  | [], [], _ :: _, _, _, h, _ => h.elim
  | [], _ :: _, _, _, _, h, _ => by cases ‹List (DataW H)› <;> exact h.elim
  | _ :: _, [], _, _, _, h, _ => by cases ‹List (DataW H)› <;> exact h.elim
  | _ :: _, _ :: _, [], _, _, h, _ => h.elim

/-- The memory as it is when the call begins. -/
def memOf (W : World) : Heap := fun b => W.heap[b]?

theorem rep_ints {W : World} {sp : Nat → Bool} {hd : Bool} {t e : TypeId} {k : IntKind} {fuel : Nat} {v : Value} {y : DataW H × List MemPlace} {c : Nat} (ht : P.underlying t = some (.slice e)) (he : P.underlying e = some (.int k)) (hc : P.cellsOf e = 1)
    (h : DataW.trod enc P W 0 sp hd fuel t [v] = some y) (hbt : P.bytesOf e = c) (hc0 : 0 < c) (hsz : ∀ n ∈ y.1.weights P t, n ≤ reachBytes) (L : Loc) :
    ∃ zs : List Int, RepV (memOf W) (.sl 1 (is k zs)) L v ∧ v.oneCell' = true ∧ zs.length * c ≤ reachBytes ∧ ∀ z ∈ zs, (Lit.int k z).wf = true := by
  have hrb : reachBytes = 140737488351232 := by decide
  rcases open_ints ht he hc h with ⟨hcs, hy⟩ | ⟨a, len, cap, zs, hcs, _, hl, hm, hz, hy, hcell, hwf⟩
  · simp at hcs
    subst hcs
    refine ⟨[], ?_, rfl, by simp, by simp⟩
    simp only [RepV]
    exact ⟨none, 0, 0, rfl, Nat.le_refl _, by simp [maxLen], by decide, by simp [is], ⟨by simp [is], fun _ => rfl⟩, fun hp => absurd hp (by omega)⟩
  · simp at hcs
    subst hcs
    have hlz : len ≤ zs.length := by rw [hz]; split <;> omega
    have hw := hsz (zs.length * c) (by
      subst hy
      subst hbt
      simp only [DataW.weights, ht]
      have : (lits (H := H) k (zs.take len)).length + (lits (H := H) k (zs.drop len)).length = zs.length := by simp [lits]; omega
      rw [this]
      simp)
    have hlen : (zs.take len).length = len := by simp; omega
    have hle : len * c ≤ zs.length * c := Nat.mul_le_mul_right _ hlz
    have hle2 : len * 1 ≤ len * c := Nat.mul_le_mul_left _ hc0
    refine ⟨zs.take len, ?_, rfl, by rw [hlen]; omega, fun z hz' => hwf z (List.mem_of_mem_take hz')⟩
    simp only [RepV]
    refine ⟨some a, len, cap, rfl, hl, hm, by decide, by simp [is]; omega, ⟨by simp [is]; omega, by simp⟩, fun hp => ?_⟩
    have h0 := hcell 0 (by omega)
    have ha : a.spot = none ∧ ∃ o t fr, W.heap[a.block]? = some (.cells o t fr) := by
      simp only [Addr.add, if_true] at h0
      unfold World.cell? at h0
      split at h0
      · rename_i o t fr hh
        split at h0
        · cases h0
        · rename_i hs
          exact ⟨by simpa using hs, o, t, fr, hh⟩
      · cases h0
    obtain ⟨hsp, o, t', fr, hh⟩ := ha
    obtain ⟨b, off, spot⟩ := a
    simp only at hsp hh
    subst hsp
    refine ⟨b, off, o, t', fr, (zs.take len).map (.int k), rfl, hh, fun j u hu => ?_, ?_, fun u hu => ?_⟩
    · simp only [List.getElem?_map, Option.map_eq_some_iff] at hu
      obtain ⟨z, hz', rfl⟩ := hu
      have hj : j < zs.length := by
        have := (List.getElem?_eq_some_iff.1 hz').1
        simp at this
        omega
      have := hcell j hj
      rw [cell_at hh] at this
      rw [this]
      rw [List.getElem?_take] at hz'
      split at hz'
      · simp [List.getD_eq_getElem?_getD, hz']
      · cases hz'
    · have := RepL.lits (H := memOf W) noLoc ((zs.take len).map (Value.int k))
      rw [List.map_map] at this
      exact this
    · obtain ⟨z, _, rfl⟩ := List.mem_map.1 hu
      rfl
/-- What a law answers whose call gives true, and leaves all memory as it was. -/
theorem post_true {f : Func} {s : ChangeSpec} {W W' : World} {args : Array Value} {ds gs : List (DataW H)} {before : List MemPlace} {tb : TypeId} (hW : DataW.Whole enc P f.params.toList s.vars false W args.toList ds gs before)
    (hl : laidOutB P = true) (hp : (f.params.toList.all fun t => P.readableRec t && decide (t < P.types.size)) = true) (hr : f.resultTypes = #[tb]) (htb : P.underlying tb = some .bool) (hvs : s.vars = [])
    (hs : (s.fn H (ds ++ gs)).results = [.lit (.bool true)] ∧ (s.fn H (ds ++ gs)).args = ds ∧ (s.fn H (ds ++ gs)).vars = []) (bel : Below W.heap.size W W') : s.post enc P f false true false false W args (.bool true) W' := by
  have hW' := hW
  obtain ⟨p, q, hA, hV, rfl, hfz, hnd⟩ := hW
  rw [hvs] at hV
  obtain ⟨rfl, rfl⟩ := trodVars_none hV
  refine ⟨ds, [], _, [], p, [], hW', ?_, ?_, ?_, bel.frame _, fun h => by cases h⟩
  · rw [hs.1, hr]
    exact trodAll_mk1 (shut_bool htb _)
  · rw [hs.2.1]
    exact trodAll_back hl bel _ _ _ _ hp hA fun x hx => hW'.lt x (by simp [hx])
  · rw [hs.2.2, hvs]
    rfl

/-- A law's row, out of its contract. -/
theorem lifted_of {C : Checked} {os : Os} (started : os.Started) {f : FuncId} {fn : Func} {s : ChangeSpec} {conds : List PathCond} {laid : List (String × DataW Unit)} {F : Stop.Interp} (Cx : Ctx) (hP : Cx.P = C.prog) (own : ownKnob C.prog.godebug = none) (noInit : C.prog.inits.idxOf? f = none)
    (hfn : C.prog.funcs[f]? = some fn) (witness : ∃ (w : World) (tape : Tape) (i : Input), w.os = os ∧ (w.forCall tape i).Shaped C.prog ∧ i.vars = [] ∧ Input.okWide C.prog (w.forCall tape i) .any w.heap.size f i ∧
      (OpenSpec.ofChange s).preRow enc C.prog fn conds false laid (w.forCall tape i).memory i.args ∧ ({} : Assume).holds C.prog (lone (Frame.enter C.prog f i.args .normal) [] (w.forCall tape i)))
    {tb : TypeId} (hl : laidOutB C.prog = true) (hp : (fn.params.toList.all fun t => C.prog.readableRec t && decide (t < C.prog.types.size)) = true) (hr : fn.resultTypes = #[tb]) (htb : C.prog.underlying tb = some .bool) (hvs : s.vars = [])
    (hs : ∀ ds : List (DataW H), ds.length = fn.params.size → (s.fn H ds).results = [.lit (.bool true)] ∧ (s.fn H ds).args = ds ∧ (s.fn H ds).vars = [])
    (hG : ∀ W : World, laidMetH C.prog laid W → Cx.G (memOf W))
    (hlaw : ∀ (W : World) (base : Nat) (args : Array Value) (ds : List (DataW H)) (ps : List MemPlace), (∀ (j : Nat) t v, fn.params[j]? = some t → args[j]? = some v → Value.okWide C.prog W .any base t v) → DataW.TrodAll enc C.prog W 0 (fun _ => true) true fn.params.toList args.toList ds ps →
      (DataW.weightsEach C.prog fn.params.toList ds).all (· ≤ reachBytes) = true → ∃ xs, RepL (memOf W) xs noLoc args.toList ∧ ECalls Cx f xs (.lit (.bool true))) :
    ReturnsInHanded {} C os f .any ((OpenSpec.ofChange s).preRow enc C.prog fn conds false laid) (((OpenSpec.ofChange s).at F).post enc C.prog fn false true false false) := by
  refine returnsInHanded_of_row (C := C) (s := OpenSpec.ofChange s) own started noInit hfn witness ?_
  intro W base args ds gs before hval hW _ _ hsz hL _ _
  have hW2 : DataW.Whole enc C.prog fn.params.toList s.vars false W args.toList ds gs before := hW
  have hsz2 : (DataW.weightsEach C.prog (fn.params.toList ++ s.plain.varTypes C.prog) (ds ++ gs)).all (· ≤ reachBytes) = true := hsz
  have hW3 := hW2
  obtain ⟨p, q, hA, hV, rfl, _, _⟩ := hW2
  rw [hvs] at hV
  obtain ⟨rfl, rfl⟩ := trodVars_none hV
  have hvt : s.plain.varTypes C.prog = [] := by
    unfold ChangeSpec.plain DataSpec.varTypes
    rw [hvs]
    rfl
  rw [hvt, List.append_nil, List.append_nil] at hsz2
  obtain ⟨xs, hrep, hcall⟩ := hlaw W base args ds p hval hA hsz2
  have hc := hcall (memOf W) noLoc args.toList W (hG W hL) (fun b o h => h) hrep
  rw [hP] at hc
  refine Calls.mono hc ?_
  rintro e W' ⟨H', v, rfl, hv, _, _, bel⟩
  simp only [RepV] at hv
  subst hv
  refine ⟨.bool true, rfl, ?_⟩
  have hlen : ds.length = fn.params.size := by
    have : ∀ (ts : List TypeId) (vs : List Value) (ds : List (DataW H)) (ps : List MemPlace), DataW.TrodAll enc C.prog W 0 (fun _ => true) true ts vs ds ps → ds.length = ts.length := by
      intro ts
      induction ts with
      | nil => intro vs ds ps h; cases vs <;> cases ds <;> first | rfl | exact h.elim
      | cons t ts ih =>
        intro vs ds ps h
        cases vs with
        | nil => cases ds <;> exact h.elim
        | cons v vs =>
          cases ds with
          | nil => exact h.elim
          | cons d ds =>
            obtain ⟨p, q, _, h2, _⟩ := h
            simp [ih vs ds q h2]
    simpa using this _ _ _ _ hA
  exact post_true hW3 hl hp hr htb hvs (by rw [List.append_nil]; exact hs ds hlen) bel
end
end Go.Ab
