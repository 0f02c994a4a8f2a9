/- The library's Insert of one value in front of a row that has no room: what is returned lies in a new row. -/
import Derived.Shelf.Spec.SlicesInsertGrow
import Derived.Test.YtkngglpnejdicaaDoorLb
set_option linter.unusedVariables false
set_option linter.unusedSimpArgs false
namespace Go.Proofs.YtkngglpnejdicaaDoor
open Go Go.Shelf Go.RowKit Go.Lib Go.Ab Go.Mth
theorem i122 : (Tryd.prog.info? 122).map (fun i => (i.zero, i.size, i.bytes)) = some (some (Value.int IntKind.u32 0), 1, 4) := by kernel_rfl
set_option maxHeartbeats 4000000 in
set_option maxRecDepth 100000 in
theorem insert_front (b off n vb voff vc : Nat) (cs : List Value) (x : Value) (w : World) (hn : 0 < n) (hbig : (n + 1) * 4 ≤ 140737488355328) (hcl : cs.length = n)
    (hcs : ∀ j v, cs[j]? = some v → w.cell? ⟨b, off + j, none⟩ = some v) (hx : w.cell? ⟨vb, voff, none⟩ = some x) (h1c : ∀ v ∈ cs, v.oneCell' = true) (h1x : x.oneCell' = true) :
    Calls Tryd.prog 113 #[.slice (some ⟨b, off, none⟩) n n, .int .i64 0, .slice (some ⟨vb, voff, none⟩) 1 vc] w fun e w' =>
      e = .returned (.slice (some ⟨w.heap.size, 0, none⟩) (n + 1) (grownCap w (n + 1) n 122)) ∧
      w' = (((w.alloc (.cells (Builtin.zeroCells (Value.int .u32 0).cells (n + 1) ++ Builtin.zeroCells (Value.int .u32 0).cells (grownCap w (n + 1) n 122 - (n + 1))) 122)).drew.setCells w.heap.size 0 [x]).drew).setCells w.heap.size 1 cs := by
  have t3 := Tryd.underlying3; have a3 := Tryd.isAgg3; have z3 := Tryd.sizeOf3; have v3 := Tryd.zeroValue3; have t4 := Tryd.underlying4; have a4 := Tryd.isAgg4; have z4 := Tryd.sizeOf4; have v4 := Tryd.zeroValue4
  have t87 := Tryd.underlying87; have a87 := Tryd.isAgg87; have z87 := Tryd.sizeOf87; have v87 := Tryd.zeroValue87; have t122 := Tryd.underlying122; have a122 := Tryd.isAgg122; have z122 := Tryd.sizeOf122; have v122 := Tryd.zeroValue122
  have u3 := run_underlying Tryd.underlying3; have u4 := run_underlying Tryd.underlying4; have u87 := run_underlying Tryd.underlying87; have u122 := run_underlying Tryd.underlying122
  have mixed := mixedT
  obtain ⟨i0, hi0, hz0, hzs, hzb⟩ := info_parts i122
  have hz2 : ¬ ((0 : Int) = (n : Int)) := by omega
  have hz3 : (n : Int) < (n : Int) + 1 := by omega
  have hsz : (Tryd.prog.info? 122).map (·.size) = some 1 := by rw [hi0]; simp [hzs]
  have hbw : b < w.heap.size := block_lt_of_cell (hcs 0 _ (List.getElem?_eq_getElem (by omega)))
  have hvw : vb < w.heap.size := block_lt_of_cell hx
  have hold : (Builtin.firstCells i0.size 0 (.slice (some ⟨b, off, none⟩) 0 n)).run Tryd.prog w.drew = .ok ([] : List Value).toArray w.drew := by
    rw [hzs]
    exact run_firstCells_some w.drew 1 0 ⟨b, off, none⟩ 0 n [] rfl (fun j v hj => by cases hj)
  have hrz : ∀ ty, (Builtin.append_ #[87, 3] ty #[.slice (some ⟨b, off, none⟩) 0 n, .int .i64 ((n : Int) + 1 - 0)]).run Tryd.prog w =
      .ok (.slice (some ⟨w.heap.size, 0, none⟩) (n + 1) (grownCap w (n + 1) n 122)) (w.drew.alloc (.cells (Builtin.zeroCells (Value.int .u32 0).cells (n + 1) ++ Builtin.zeroCells (Value.int .u32 0).cells (grownCap w (n + 1) n 122 - (n + 1))) 122)) := fun ty => by
    have h := Lib.run_append_grow_zeros w 87 3 ty 122 i0 _ .i64 .i64 Tryd.underlying87 Tryd.underlying3 hi0 hz0 (some ⟨b, off, none⟩) 0 n [] hold (n + 1) (by omega) (by omega) (by omega) (by omega) (by rw [hzb]; omega) (by rw [hzb, Nat.zero_add]; exact growslice_fits (by omega) hbig)
    rw [Nat.zero_add] at h
    simpa using h
  obtain ⟨G, hG⟩ : ∃ G, G = grownCap w (n + 1) n 122 := ⟨_, rfl⟩
  obtain ⟨ROW, hROW⟩ : ∃ ROW : Array Value, ROW = Builtin.zeroCells (Value.int .u32 0).cells (n + 1) ++ Builtin.zeroCells (Value.int .u32 0).cells (G - (n + 1)) := ⟨_, rfl⟩
  rw [← hG] at hrz ⊢
  rw [← hROW] at hrz ⊢
  have hRl : n + 1 ≤ ROW.size := by
    rw [hROW]
    simp [Builtin.zeroCells, Value.cells]
  obtain ⟨W1, hW1⟩ : ∃ W1, W1 = w.drew.alloc (.cells ROW 122) := ⟨_, rfl⟩
  rw [← hW1] at hrz
  have hN : ∀ j, j < n + 1 → (W1.cell? ⟨w.heap.size, j, none⟩).isSome = true := fun j hj => by
    rw [hW1, World.cell?_alloc_at (w := w.drew) ROW _ w.heap.size j rfl, Array.getElem?_eq_getElem (by omega)]; rfl
  have hNf : ∀ j, W1.frozen? ⟨w.heap.size, j, none⟩ = false := fun j => by rw [hW1]; exact World.frozen?_alloc_at (w := w.drew) ROW _ w.heap.size j rfl
  have hOb : ∀ j v, w.cell? ⟨b, j, none⟩ = some v → W1.cell? ⟨b, j, none⟩ = some v := fun j v h => by rw [hW1, World.cell?_alloc_past (w := w.drew) _ b j hbw]; exact h
  have hOv : ∀ j v, w.cell? ⟨vb, j, none⟩ = some v → W1.cell? ⟨vb, j, none⟩ = some v := fun j v h => by rw [hW1, World.cell?_alloc_past (w := w.drew) _ vb j hvw]; exact h
  have hcpA : ∀ (W : World), (∀ x, W.cell? x = W1.cell? x) → (∀ x, W.frozen? x = W1.frozen? x) → ∀ ty dc, (Builtin.copy_ #[87, 87] ty #[.slice (some ⟨w.heap.size, 0, none⟩) (n + 1) dc, .slice (some ⟨vb, voff, none⟩) 1 vc]).run Tryd.prog W = .ok (goInt [x].length) (W.setCells w.heap.size 0 [x]) := fun W hWc hWf ty dc =>
    run_copy_cells W _ _ ty 122 w.heap.size 0 (n + 1) dc ⟨vb, voff, none⟩ 1 vc [x] Tryd.underlying87 hsz (by simp only [List.length_cons, List.length_nil, Nat.min_def]; split <;> omega)
      (fun j v hj => by
        cases j with
        | zero => simp at hj; subst hj; rw [Addr.add_lit, hWc]; exact hOv _ _ hx
        | succ j => simp at hj)
      (fun j hj => by rw [hWc]; simp at hj; subst hj; exact hN _ (by omega)) (fun j hj => by rw [hWf]; exact hNf _) (fun v hv => by simp at hv; subst hv; exact h1x)
  have hGn : n + 1 ≤ G := by rw [hG]; exact grownCap_ge w _ _ _
  have hG63 : G ≤ 9223372036854775807 := by
    have := grownCap_le_maxLen w (n + 1) n 122 (by unfold maxLen; omega)
    rw [← hG] at this
    unfold maxLen at this
    omega
  have hbN : b ≠ w.heap.size := by omega
  have hcpB : ∀ (W : World), (∀ a, W.cell? a = (W1.setCells w.heap.size 0 [x]).cell? a) → (∀ a, W.frozen? a = (W1.setCells w.heap.size 0 [x]).frozen? a) → ∀ ty dc sc, (Builtin.copy_ #[87, 87] ty #[.slice (some ⟨w.heap.size, 1, none⟩) n dc, .slice (some ⟨b, off, none⟩) n sc]).run Tryd.prog W = .ok (goInt cs.length) (W.setCells w.heap.size 1 cs) := fun W hWc hWf ty dc sc =>
    run_copy_cells W _ _ ty 122 w.heap.size 1 n dc ⟨b, off, none⟩ n sc cs Tryd.underlying87 hsz (by rw [hcl]; simp only [Nat.min_def]; split <;> omega)
      (fun j v hj => by
        rw [Addr.add_lit, hWc, World.cell?_setCells_out _ _ _ _ _ (fun h _ => absurd h hbN)]
        exact hOb _ v (hcs j v hj))
      (fun j hj => by rw [hWc]; exact isSome_setCells _ _ _ _ (fun t ht => hN _ (by simp at ht; omega)) _ (hN _ (by omega)))
      (fun j hj => by rw [hWf, World.frozen?_setCells]; exact hNf _) (fun v hv => h1c v hv)
  subst hW1
  have hE1 : ∀ x, ((w.alloc (.cells ROW 122)).drew).cell? x = (w.drew.alloc (.cells ROW 122)).cell? x := fun x => rfl
  have hE2 : ∀ x, ((w.alloc (.cells ROW 122)).drew).frozen? x = (w.drew.alloc (.cells ROW 122)).frozen? x := fun x => rfl
  have hF1 : ∀ a, (((w.alloc (.cells ROW 122)).drew.setCells w.heap.size 0 [x]).drew).cell? a = ((w.drew.alloc (.cells ROW 122)).setCells w.heap.size 0 [x]).cell? a := fun x => rfl
  have hF2 : ∀ a, (((w.alloc (.cells ROW 122)).drew.setCells w.heap.size 0 [x]).drew).frozen? a = ((w.drew.alloc (.cells ROW 122)).setCells w.heap.size 0 [x]).frozen? a := fun x => rfl
  have hw1 : IntKind.i64.wrap ((n : Int) + 1) = (n : Int) + 1 := by rw [IntKind.wrap_i64]; omega
  have hw2 : IntKind.i64.wrap 1 = 1 := by decide
  have hG1 : ¬ (G = 1) := by omega
  have hb2 : (1 : Int) ≤ (n : Int) + 1 := by omega
  have hn0 : ¬ (n = 0) := by omega
  have hb1 : (0 : Int) ≤ (n : Int) := by omega
  clear hold hROW hG hRl
  go_enter Tryd.func113, Tryd.ntmps113
  go_wp2_with (first
    | (at_builtin; refine Lib.wpList_append_run _ rfl _ _ _ _ rfl _ _ rfl rfl _ _ (hrz _) ?_)
    | (at_builtin; refine wpList_copy_runI _ rfl _ _ 87 87 rfl _ _ rfl rfl (hcpA _ hE1 hE2 _ _) ?_)
    | (at_builtin; refine wpList_copy_runI _ rfl _ _ 87 87 rfl _ _ rfl rfl (hcpB _ (fun _ => rfl) (fun _ => rfl) _ _ _) ?_))
  go_region_law_o (refine step_copy_runI rfl _ _ 87 87 rfl (.slice (some ⟨w.heap.size, 1, none⟩) n (G - 1)) (.slice (some ⟨b, off, none⟩) n n) (by simp [Act.eval, Act.put]) (by simp [Act.eval, Act.put]) (hcpB _ hF1 hF2 3 (G - 1) n) ?_)
  go_wp2
  go_ret
  exact ⟨rfl, rfl⟩
set_option maxHeartbeats 4000000 in
set_option maxRecDepth 100000 in
theorem insert_empty (base : Option Addr) (vb voff vc : Nat) (x : Value) (w : World) (hx : w.cell? ⟨vb, voff, none⟩ = some x) (h1x : x.oneCell' = true) :
    Calls Tryd.prog 113 #[.slice base 0 0, .int .i64 0, .slice (some ⟨vb, voff, none⟩) 1 vc] w fun e w' =>
      e = .returned (.slice (some ⟨w.heap.size, 0, none⟩) 1 (grownCap w 1 0 122)) ∧ w' = w.drew.alloc (.cells ([x].toArray ++ Builtin.zeroCells (Value.int .u32 0).cells (grownCap w 1 0 122 - 1)) 122) := by
  have t3 := Tryd.underlying3; have a3 := Tryd.isAgg3; have z3 := Tryd.sizeOf3; have v3 := Tryd.zeroValue3; have t4 := Tryd.underlying4; have a4 := Tryd.isAgg4; have z4 := Tryd.sizeOf4; have v4 := Tryd.zeroValue4
  have t87 := Tryd.underlying87; have a87 := Tryd.isAgg87; have z87 := Tryd.sizeOf87; have v87 := Tryd.zeroValue87; have t122 := Tryd.underlying122; have a122 := Tryd.isAgg122; have z122 := Tryd.sizeOf122; have v122 := Tryd.zeroValue122
  have u3 := run_underlying Tryd.underlying3; have u4 := run_underlying Tryd.underlying4; have u87 := run_underlying Tryd.underlying87; have u122 := run_underlying Tryd.underlying122
  have mixed := mixedT
  obtain ⟨i0, hi0, hz0, hzs, hzb⟩ := info_parts i122
  have hsrc : Src Tryd.prog i0.size 87 (.slice (some ⟨vb, voff, none⟩) 1 vc) 1 [x] w := by
    rw [hzs]
    exact Src.ofSlice w Tryd.underlying87 ⟨vb, voff, none⟩ 1 vc [x] rfl (fun j u hj => by
      cases j with
      | zero => simp at hj; subst hj; rw [Addr.add_lit]; exact hx
      | succ j => simp at hj) (fun v hv => by simp at hv; subst hv; exact h1x)
  have hold : (Builtin.firstCells i0.size 0 (.slice base 0 0)).run Tryd.prog w.drew = .ok ([] : List Value).toArray w.drew := by
    rw [hzs]
    cases base with
    | none => exact run_firstCells_none w.drew 1 0 0 0
    | some a => exact run_firstCells_some w.drew 1 0 a 0 0 [] rfl (fun j v hj => by cases hj)
  have hrun : ∀ ty, (Builtin.append_ #[87, 87] ty #[.slice base 0 0, .slice (some ⟨vb, voff, none⟩) 1 vc]).run Tryd.prog w = _ := fun ty =>
    run_append_grow_src w 87 87 ty 122 i0 _ Tryd.underlying87 hi0 hz0 base 0 0 [] hold _ 1 [x] hsrc (by omega) (by omega) (by rw [hzb]; exact growslice_fits (by omega) (by omega))
  go_enter Tryd.func113, Tryd.ntmps113
  cases base with
  | none =>
    go_wp2_with (at_builtin; refine Lib.wpList_append_run _ rfl _ _ _ _ rfl _ _ rfl rfl _ _ (hrun _) ?_)
    go_ret
    exact ⟨rfl, rfl⟩
  | some a =>
    obtain ⟨ab, ao, asp⟩ := a
    go_wp2_with (at_builtin; refine Lib.wpList_append_run _ rfl _ _ _ _ rfl _ _ rfl rfl _ _ (hrun _) ?_)
    all_goals (go_ret; exact ⟨rfl, rfl⟩)
theorem setCells_below {B b : Nat} (hb : B ≤ b) {a : World} : ∀ (vs : List Value) (o : Nat) (w : World), Below B a w → Below B a (w.setCells b o vs)
  | [], _, _, h => h
  | v :: r, o, w, h => setCells_below hb r (o + 1) _ (h.setCell hb v)
theorem ret_row {H : Heap} {w w' : World} {xs : List Nat} {k : IntKind} {cap : Nat} (hH : ∀ b o, H b = some o → w.heap[b]? = some o) (hb : Below w.heap.size w w') (hl : 0 < xs.length) (hle : xs.length ≤ cap) (hcap : cap ≤ maxLen) (hbd : xs.length ≤ 140737488355328)
    (hc : ∀ (j x : Nat), xs[j]? = some x → w'.cell? ⟨w.heap.size, j, none⟩ = some (.int k x)) :
    ∃ H' v, (Ending.returned (.slice (some ⟨w.heap.size, 0, none⟩) xs.length cap)) = .returned v ∧ RepV H' (.sl 1 (ns k xs)) noLoc v ∧ Ext w.heap.size H H' ∧ (∀ b o, H' b = some o → w'.heap[b]? = some o) ∧ Below w.heap.size w w' := by
  obtain ⟨ob, hob, hcl⟩ := cells_of_cell (hc 0 _ (List.getElem?_eq_getElem hl))
  cases ob with
  | cells o t fr =>
    have hsm : ∀ b x, H b = some x → b < w.heap.size := fun b x h => (Array.getElem?_eq_some_iff.1 (hH b x h)).1
    have hcell : ∀ (j x : Nat), xs[j]? = some x → o[j]? = some (.int k x) := fun j x hj => by
      have := hc j x hj
      unfold World.cell? at this
      rw [hob] at this
      simpa using this
    refine ⟨fun b => if b = w.heap.size then some (.cells o t fr) else H b, _, rfl, ?_, ⟨fun b x h => ?_, fun b h => if_neg (by omega)⟩, fun b x h => ?_, hb⟩
    · simp only [RepV]
      refine ⟨_, _, _, rfl, hle, hcap, by omega, by simp [ns], ⟨by simpa [ns] using hbd, fun h => by cases h⟩, fun _ => ⟨_, _, o, t, fr, xs.map (fun (x : Nat) => Value.int k (x : Int)), rfl, if_pos rfl, fun j u hu => ?_, ?_, fun u hu => ?_⟩⟩
      · rw [List.getElem?_map] at hu
        cases hx : xs[j]? with
        | none => rw [hx] at hu; cases hu
        | some x => rw [hx] at hu; cases hu; rw [Nat.zero_add]; exact hcell j x hx
      · have := RepL.lits (H := fun b => if b = w.heap.size then some (.cells o t fr) else H b) noLoc (xs.map (fun (x : Nat) => Value.int k (x : Int)))
        rw [List.map_map] at this
        exact this
      · obtain ⟨x, _, rfl⟩ := List.mem_map.1 hu; rfl
    · show (if b = w.heap.size then _ else H b) = _
      rw [if_neg (by have := hsm b x h; omega)]; exact h
    · have h' : (if b = w.heap.size then some (Obj.cells o t fr) else H b) = some x := h
      split at h'
      · rename_i e; subst e; cases h'; exact hob
      · rw [hb.block b (hsm b x h')]; exact hH b x h'
  | _ => simp [Obj.isCells] at hcl
theorem c_insert (xs : List Nat) (x : Nat) (hxs : xs.length ≤ 1000000000) : ECalls cx 113 [.slc 1 (ns .u32 xs) xs.length, nm .i64 0, .sl 1 (ns .u32 [x])] (.sl 1 (ns .u32 (x :: xs))) := by
  intro H L vals w hG hH hr
  simp only [RepL, RepV, nm, ns_len, Nat.mul_one] at hr
  obtain ⟨v1, _, rfl, ⟨A, n1, rfl, _, _, _, hn1, ⟨_, hA⟩, h1⟩, v2, _, rfl, rfl, v3, _, rfl, ⟨B, n2, vc, rfl, _, _, _, hn2, ⟨_, hB⟩, h2⟩, rfl⟩ := hr
  subst hn1
  simp at hn2
  subst hn2
  obtain ⟨vb, voff, o2, t2, fr2, vs2, rfl, hb2, hc2, hr2, ho2⟩ := h2 (by omega)
  simp only [ns, List.map_cons, List.map_nil, RepL, RepV, nm] at hr2
  obtain ⟨_, _, rfl, rfl, rfl⟩ := hr2
  have hx : w.cell? ⟨vb, voff, none⟩ = some (.int .u32 (x : Int)) := by
    unfold World.cell?
    rw [hH vb _ hb2]
    have := hc2 0 _ rfl
    simpa using this
  by_cases h0 : xs.length = 0
  · have hx0 : xs = [] := List.length_eq_zero_iff.1 h0
    subst hx0
    refine (insert_empty A vb voff vc _ w hx rfl).mono ?_
    rintro e w' ⟨rfl, rfl⟩
    refine ret_row (xs := [x]) hH ?_ (by simp) (grownCap_ge w _ _ _) (grownCap_le_maxLen w 1 0 122 (by unfold maxLen; omega)) (by simp) ?_
    · exact (Below.refl _ _).drew.alloc (Nat.le_refl _) _
    · intro j y hj
      cases j with
      | zero =>
        simp at hj; subst hj
        rw [World.cell?_alloc_at (w := w.drew) _ _ w.heap.size 0 rfl, Array.getElem?_append_left (by simp)]
        rfl
      | succ j => simp at hj
  · obtain ⟨b1, off1, o1, t1, fr1, vs1, rfl, hb1, hc1, hr1, ho1⟩ := h1 (by omega)
    have hv1 : vs1 = xs.map (fun (x : Nat) => Value.int .u32 (x : Int)) := by
      have h : ∀ (l : List Nat) (vs : List Value), RepL H (ns .u32 l) noLoc vs → vs = l.map (fun (x : Nat) => Value.int .u32 (x : Int)) := by
        intro l
        induction l with
        | nil => intro vs h; simpa [ns, RepL] using h
        | cons y l ih =>
          intro vs h
          simp only [ns, List.map_cons, RepL, RepV, nm] at h
          obtain ⟨_, r, rfl, rfl, h⟩ := h
          rw [List.map_cons, ih r h]
      exact h xs vs1 hr1
    have hl1 : vs1.length = xs.length := by rw [hv1, List.length_map]
    have hcs : ∀ (j : Nat) (v : Value), vs1[j]? = some v → w.cell? ⟨b1, off1 + j, none⟩ = some v := fun j v hj => by
      unfold World.cell?
      rw [hH b1 _ hb1]
      have := hc1 j v hj
      simpa using this
    refine (insert_front b1 off1 xs.length vb voff vc vs1 _ w (by omega) (by omega) hl1 hcs hx ho1 rfl).mono ?_
    rintro e w' ⟨rfl, rfl⟩
    refine ret_row (xs := x :: xs) hH ?_ (by simp) (grownCap_ge w _ _ _) (grownCap_le_maxLen w (xs.length + 1) xs.length 122 (by unfold maxLen; omega)) (by simp; omega) ?_
    · exact setCells_below (Nat.le_refl _) _ _ _ (setCells_below (Nat.le_refl _) _ _ _ ((Below.refl _ _).alloc (Nat.le_refl _) _).drew).drew
    · obtain ⟨ROW, hROW⟩ : ∃ ROW : Array Value, ROW = Builtin.zeroCells (Value.int .u32 0).cells (xs.length + 1) ++ Builtin.zeroCells (Value.int .u32 0).cells (grownCap w (xs.length + 1) xs.length 122 - (xs.length + 1)) := ⟨_, rfl⟩
      have hRl : xs.length + 1 ≤ ROW.size := by rw [hROW]; simp [Builtin.zeroCells, Value.cells]
      rw [← hROW]
      have hN : ∀ j, j < xs.length + 1 → ((w.drew.alloc (.cells ROW 122)).cell? ⟨w.heap.size, j, none⟩).isSome = true := fun j hj => by
        rw [World.cell?_alloc_at (w := w.drew) ROW _ w.heap.size j rfl, Array.getElem?_eq_getElem (by omega)]; rfl
      intro j y hj
      cases j with
      | zero =>
        simp at hj; subst hj
        rw [World.cell?_setCells_out _ _ _ _ _ (fun _ _ => .inl (by simp))]
        have := World.cell?_setCells_in w.heap.size [Value.int .u32 (x : Int)] 0 (w.drew.alloc (.cells ROW 122)) (fun j hj => hN _ (by simp at hj; omega)) 0 (by simp)
        rw [Nat.add_zero] at this
        exact this
      | succ j =>
        simp at hj
        have hjl : j < xs.length := (List.getElem?_eq_some_iff.1 hj).1
        have := World.cell?_setCells_in w.heap.size vs1 1 (((w.alloc (.cells ROW 122)).drew.setCells w.heap.size 0 [Value.int .u32 (x : Int)]).drew) (fun j hj => isSome_setCells _ _ _ _ (fun t ht => hN _ (by simp at ht; omega)) _ (hN _ (by omega))) j (by omega)
        rw [Nat.add_comm j 1, this]
        subst hv1
        rw [List.getElem_map]
        congr 2
        exact congrArg _ (List.getElem?_eq_some_iff.1 hj).2
end Go.Proofs.YtkngglpnejdicaaDoor
