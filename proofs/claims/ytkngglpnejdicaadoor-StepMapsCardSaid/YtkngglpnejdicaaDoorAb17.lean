/- A function that hands back a row that its caller may write to. -/
import Derived.Test.YtkngglpnejdicaaDoorAb15
set_option linter.unusedVariables false
set_option linter.unusedSimpArgs false
namespace Go.Ab
open Go.RowKit
mutual
/-- Does a value name no own object but one row? -/
def AV.only (id : Nat) : AV → Bool
  | .ref .. => false
  | .row i => Nat.beq i id
  | .agg fs => onlyL id fs
  | .tup fs => onlyL id fs
  | .clo _ fs => onlyL id fs
  | _ => true
def onlyL (id : Nat) : List AV → Bool
  | [] => true
  | x :: xs => x.only id && onlyL id xs
end
mutual
theorem RepV.only {H : Heap} {id : Nat} {rv : Value} : ∀ {x : AV} {L : Loc} {v : Value}, L id = some rv → x.only id = true → RepV H x L v → RepV H x (noLoc.set id (some rv)) v
  | .any, _, _, _, _, _ => by simp [RepV]
  | .lit _, _, _, _, _, h => by simpa [RepV] using h
  | .sl sz cs, _, _, _, _, h => by simpa [RepV] using h
  | .slc sz cs _, _, _, _, _, h => by simpa [RepV] using h
  | .agg fs, _, _, hl, hn, h => by
    simp only [RepV, AV.only] at h hn ⊢
    obtain ⟨vs, rfl, hr, h1⟩ := h
    exact ⟨vs, rfl, RepL.only hl hn hr, h1⟩
  | .tup fs, _, _, hl, hn, h => by
    simp only [RepV, AV.only] at h hn ⊢
    obtain ⟨vs, rfl, hr⟩ := h
    exact ⟨vs, rfl, RepL.only hl hn hr⟩
  | .ref i off, _, _, _, hn, h => by simp [AV.only] at hn
  | .row i, _, _, hl, hn, h => by
    simp only [AV.only] at hn
    have := Nat.eq_of_beq_eq_true hn
    subst this
    simp only [RepV] at h ⊢
    rw [hl] at h
    exact ⟨by simp [Loc.set, h.1], h.2⟩
  | .ip cs, _, _, _, _, h => by simpa [RepV] using h
  | .clo f cs, _, _, hl, hn, h => by
    simp only [RepV, AV.only] at h hn ⊢
    obtain ⟨vs, rfl, hr⟩ := h
    exact ⟨vs, rfl, RepL.only hl hn hr⟩
theorem RepL.only {H : Heap} {id : Nat} {rv : Value} : ∀ {xs : List AV} {L : Loc} {vs : List Value}, L id = some rv → onlyL id xs = true → RepL H xs L vs → RepL H xs (noLoc.set id (some rv)) vs
  | [], _, _, _, _, h => by simpa [RepL] using h
  | x :: xs, _, _, hl, hn, h => by
    simp only [RepL, onlyL, Bool.and_eq_true] at h hn ⊢
    obtain ⟨v, r, rfl, h1, h2⟩ := h
    exact ⟨v, r, rfl, RepV.only hl hn.1 h1, RepL.only hl hn.2 h2⟩
end
def postM (C : Ctx) (fn : Func) (res : AV) (id : Nat) (e : TypeId) (sz : Nat) (cs : List AV) : Exit → St → Prop
  | .normal, σ => ∃ vs, ResOk C σ fn.results.toList vs ∧ onlyL id vs = true ∧ lookO σ.objs id = some (.row e sz cs) ∧ res = packR vs
  | .ret, σ => ∃ vs, ResOk C σ fn.results.toList vs ∧ onlyL id vs = true ∧ lookO σ.objs id = some (.row e sz cs) ∧ res = packR vs
  | _, _ => False
theorem postM_ret {C : Ctx} {fn : Func} {res : AV} {id : Nat} {e : TypeId} {sz : Nat} {cs : List AV} {σ : St} (h : ∃ vs, ResOk C σ fn.results.toList vs ∧ onlyL id vs = true ∧ lookO σ.objs id = some (.row e sz cs) ∧ res = packR vs) : postM C fn res id e sz cs .ret σ := h
theorem ecallsM_of_awp {C : Ctx} {f : FuncId} {fn : Func} {c : Code} {args : List AV} {res : AV} {id : Nat} {e : TypeId} {sz : Nat} {cs : List AV} (hf : C.P.funcs[f]? = some fn) (hb : fn.body = some c) (hn : args.length ≤ fn.ntmps) (h : awp C fn.ntmps c (postM C fn res id e sz cs) (entry args)) (hmk : C.marks = [] := by rfl) : ECallsM C f args res id e sz cs := by
  intro H L vals w hG hH hr
  refine calls_of_wp hf hb ((wpIn_wide (n := 0)).1 ?_)
  have hrep := entry_Rep hmk hG hH hn hr
  refine wpIn_mono (h w H L _ w hrep none) fun ex a' w' hp => ?_
  obtain ⟨σ', H', L', hx, hr', hq⟩ := hp
  have fin : (∃ vs, ResOk C σ' fn.results.toList vs ∧ onlyL id vs = true ∧ lookO σ'.objs id = some (.row e sz cs) ∧ res = packR vs) → a'.defers = [] ∧ ∃ v, (results fn a'.tmps).run C.P w' = .ok v w' ∧
      ∃ H' v' rv, Ending.returned v = .returned v' ∧ RepV H' res (noLoc.set id (some rv)) v' ∧ RepO H' w.heap.size w' (noLoc.set id (some rv)) id (.row e sz cs) ∧ Ext w.heap.size H H' ∧ (∀ b o, H' b = some o → w'.heap[b]? = some o) ∧ Below w.heap.size w w' := by
    rintro ⟨vs, hres, hcl, ho, rfl⟩
    obtain ⟨us, hrun, hrl⟩ := res_run hr' _ _ hres
    have hlu := hrl.length
    obtain ⟨rv, vs', m, hl0, hlen, hown, hrl', h1, hsz, hbd, hH⟩ := hr'.objs id _ ho
    refine ⟨hr'.defers.trans hmk, if h : us.toArray.size = 1 then us.toArray[0] else .tuple us.toArray, ?_, H', _, rv, rfl, ?_, ⟨rv, vs', m, by simp [Loc.set], hlen, hown, hrl', h1, hsz, hbd, hH⟩, hx, hr'.heap, hr'.below⟩
    · show (do let vs ← fn.results.mapM (resOne a'.tmps); pure (if h : vs.size = 1 then vs[0] else .tuple vs) : Sem Value).run C.P w' = _
      have hm : (fn.results.mapM (resOne a'.tmps)).run C.P w' = .ok us.toArray w' := by
        rw [Array.mapM_eq_mapM_toList]
        simp [hrun]
      simp only [Sem.run_bind, hm, Result.andThen_ok, Sem.run_pure]
    · have hrc := RepL.only hl0 hcl hrl
      match vs, us, hrc, hlu with
      | [v], [u], hrc, _ =>
        simp only [packR]
        simp only [RepL] at hrc
        obtain ⟨x, r, e, hx, _⟩ := hrc
        cases e
        simpa using hx
      | [], us, hrc, hlu =>
        have : us = [] := List.eq_nil_of_length_eq_zero (by simpa using hlu)
        subst this
        simp only [packR, RepV]
        exact ⟨[], by simp, hrc⟩
      | v1 :: v2 :: vs, us, hrc, hlu =>
        simp only [packR, RepV]
        refine ⟨us, ?_, hrc⟩
        rw [dif_neg (by simp at hlu ⊢; omega)]
  cases ex with
  | normal => exact fin hq
  | ret => exact fin hq
  | _ => exact hq.elim
theorem AV.le_any (x : AV) : AV.le x .any := fun H L v h => by simp [RepV]
end Go.Ab
