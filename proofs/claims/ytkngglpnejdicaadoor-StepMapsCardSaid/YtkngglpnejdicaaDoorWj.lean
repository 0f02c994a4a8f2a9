import Derived.Test.YtkngglpnejdicaaDoorWi
set_option linter.unusedVariables false
set_option linter.unusedSimpArgs false
namespace Go.Proofs.YtkngglpnejdicaaDoor
open Go Go.Ab Go.Mth
theorem Wj_tO24 : tyZero cx.P 24 = some [(Go.Value.int IntKind.i64 0), (Go.Value.slice none 0 0), (Go.Value.slice none 0 0)] := by kernel_rfl
theorem Wj_tE22 : tyElem cx.P 22 = some (3, 1, 8) := by kernel_rfl
theorem Wj_tO3 : tyZero cx.P 3 = some [(Go.Value.int IntKind.i64 0)] := by kernel_rfl
theorem Wj_tP24 : tyPlaces cx.P 24 = some (fun i => (#[(0, 1), (1, 1), (2, 1)] : Array (Nat × Nat))[i]?) := by kernel_rfl
theorem Wj_tZ24 : tySize cx.P 24 = some 3 := by kernel_rfl
theorem Wj_tA24 : tyAgg cx.P 24 = some 3 := by kernel_rfl
theorem Wj_tC83 : callable cx.P 83 = true := by kernel_rfl
theorem c_skin (q c : Int) : ECalls cx 83 [(AV.lit (.int .i64 (q))), (AV.lit (.int .i64 (c)))] (mapV (kinM q c)) := by
  refine ecalls_of_awp Tryd.func83 (c := _) rfl (Nat.le_of_ble_eq_true rfl) ?_
  show awp cx 10 _ (postF cx Tryd.f83 _) ⟨[(0, (AV.lit (.int .i64 (q)))), (1, (AV.lit (.int .i64 (c))))], []⟩
  refine awp_seq fun K0 hK0 => ?_
  refine awp_region rfl ?_
  refine o_alloc 2 [(nm .i64 (0)), (AV.lit (.slice none 0 0)), (AV.lit (.slice none 0 0))] Gd.none Wj_tO24 rfl rfl rfl ?_
  refine aops_end ?_
  refine hK0 _ ?_
  refine awp_seq fun K1 hK1 => ?_
  refine awp_region rfl ?_
  refine o_move (AV.lit (.int .i64 (q))) Gd.none rfl ?_
  refine o_buildSlice 3 ([(nm .i64 (1)), (AV.lit (.int .i64 (q)))]) [(0, [(nm .i64 (1))]), (1, [(AV.lit (.int .i64 (q)))])] Gd.none Wj_tE22 rfl Wj_tO3 rfl rfl rfl rfl rfl rfl rfl ?_
  refine o_move (AV.lit (.int .i64 (c))) Gd.none rfl ?_
  refine o_buildSlice 4 ([(nm .i64 (0)), (AV.lit (.int .i64 (c)))]) [(0, [(nm .i64 (0))]), (1, [(AV.lit (.int .i64 (c)))])] Gd.none Wj_tE22 rfl Wj_tO3 rfl rfl rfl rfl rfl rfl rfl ?_
  refine o_build [(nm .i64 (2)), (AV.row 3), (AV.row 4)] [(0, [(nm .i64 (2))]), (1, [(AV.row 3)]), (2, [(AV.row 4)])] Gd.none Wj_tP24 Wj_tO24 rfl rfl rfl ?_
  refine o_store [(4, (AO.row 3 1 ([(nm .i64 (0)), (AV.lit (.int .i64 (c)))]))), (3, (AO.row 3 1 ([(nm .i64 (1)), (AV.lit (.int .i64 (q)))]))), (2, (AO.var 24 [(nm .i64 (2)), (AV.row 3), (AV.row 4)]))] Gd.none Wj_tZ24 rfl rfl rfl rfl rfl rfl ?_
  refine aops_end ?_
  refine hK1 _ ?_
  refine awp_wk (σ' := ⟨[(4, (AV.ref 2 (0)))], [(2, (AO.var 24 [(nm .i64 (2)), (AV.row 3), (AV.row 4)])), (3, (AO.row 3 1 ([(nm .i64 (1)), (AV.lit (.int .i64 (q)))]))), (4, (AO.row 3 1 ([(nm .i64 (0)), (AV.lit (.int .i64 (c)))])))]⟩) (Wk.sub (And.intro rfl (trivial)) (And.intro rfl (And.intro rfl (And.intro rfl (trivial))))) ?_
  refine awp_wk (σ' := ⟨[(4, (AV.ref 2 (0)))], [(2, (AO.var 24 [(nm .i64 (2)), (AV.sl 1 ([(nm .i64 (1)), (AV.lit (.int .i64 (q)))])), (AV.row 4)])), (4, (AO.row 3 1 ([(nm .i64 (0)), (AV.lit (.int .i64 (c)))])))]⟩) (Wk.freeze (id := 3) (e := 3) (sz := 1) (cs := ([(nm .i64 (1)), (AV.lit (.int .i64 (q)))])) rfl) ?_
  refine awp_wk (σ' := ⟨[(4, (AV.ref 2 (0)))], [(2, (AO.var 24 [(nm .i64 (2)), (AV.sl 1 ([(nm .i64 (1)), (AV.lit (.int .i64 (q)))])), (AV.sl 1 ([(nm .i64 (0)), (AV.lit (.int .i64 (c)))]))]))]⟩) (Wk.freeze (id := 4) (e := 3) (sz := 1) (cs := ([(nm .i64 (0)), (AV.lit (.int .i64 (c)))])) rfl) ?_
  refine awp_ret ?_
  refine post_ret ⟨[(mapV (kinM q c))], And.intro ⟨2, (AO.var 24 [(nm .i64 (2)), (AV.sl 1 ([(nm .i64 (1)), (AV.lit (.int .i64 (q)))])), (AV.sl 1 ([(nm .i64 (0)), (AV.lit (.int .i64 (c)))]))]), rfl, rfl, rfl, Or.inl ⟨Wj_tA24, AV.le_agg (LeL.cons (AV.le_refl _) (LeL.cons (AV.le_refl _) (LeL.cons (AV.le_refl _) (LeL.nil))))⟩⟩ (trivial), rfl, ?_⟩
  rfl

theorem c_sCollatz  : ECalls cx 43 [] (mapV (kinM 3 1)) := by
  refine ecalls_of_awp Tryd.func43 (c := _) rfl (Nat.le_of_ble_eq_true rfl) ?_
  show awp cx 2 _ (postF cx Tryd.f43 _) ⟨[], []⟩
  refine awp_seq fun K0 hK0 => ?_
  refine awp_region rfl ?_
  refine o_alloc 2 [(nm .i64 (0)), (AV.lit (.slice none 0 0)), (AV.lit (.slice none 0 0))] Gd.none Wj_tO24 rfl rfl rfl ?_
  refine aops_end ?_
  refine hK0 _ ?_
  refine awp_seq fun K1 hK1 => ?_
  refine awp_region rfl ?_
  refine o_call [(nm .i64 (3)), (nm .i64 (1))] (mapV (kinM ((3 : Int)) ((1 : Int)))) Gd.none Wj_tC83 rfl (c_skin ((3 : Int)) ((1 : Int))) ?_
  refine o_store [(2, (AO.var 24 [(AV.lit (.int .i64 ((kinM ((3 : Int)) ((1 : Int))).mod))), (AV.sl 1 (is .i64 ((kinM ((3 : Int)) ((1 : Int))).mul))), (AV.sl 1 (is .i64 ((kinM ((3 : Int)) ((1 : Int))).add)))]))] Gd.none Wj_tZ24 rfl rfl rfl rfl rfl rfl ?_
  refine aops_end ?_
  refine hK1 _ ?_
  refine awp_ret ?_
  refine post_ret ⟨[(AV.agg [(AV.lit (.int .i64 ((kinM ((3 : Int)) ((1 : Int))).mod))), (AV.sl 1 (is .i64 ((kinM ((3 : Int)) ((1 : Int))).mul))), (AV.sl 1 (is .i64 ((kinM ((3 : Int)) ((1 : Int))).add)))])], And.intro ⟨2, (AO.var 24 [(AV.lit (.int .i64 ((kinM ((3 : Int)) ((1 : Int))).mod))), (AV.sl 1 (is .i64 ((kinM ((3 : Int)) ((1 : Int))).mul))), (AV.sl 1 (is .i64 ((kinM ((3 : Int)) ((1 : Int))).add)))]), rfl, rfl, rfl, Or.inl ⟨Wj_tA24, AV.le_refl _⟩⟩ (trivial), rfl, ?_⟩
  rfl

theorem c_gCollatz  : ECalls cx 44 [] (mapV (kinM 3 1)) := by
  refine ecalls_of_awp Tryd.func44 (c := _) rfl (Nat.le_of_ble_eq_true rfl) ?_
  show awp cx 4 _ (postF cx Tryd.f44 _) ⟨[], []⟩
  refine awp_seq fun K0 hK0 => ?_
  refine awp_region rfl ?_
  refine o_alloc 2 [(nm .i64 (0)), (AV.lit (.slice none 0 0)), (AV.lit (.slice none 0 0))] Gd.none Wj_tO24 rfl rfl rfl ?_
  refine aops_end ?_
  refine hK0 _ ?_
  refine awp_seq fun K1 hK1 => ?_
  refine awp_region rfl ?_
  refine o_buildSlice 3 (ns .i64 ([1, 3])) [(0, [(nm .i64 (1))]), (1, [(nm .i64 (3))])] Gd.none Wj_tE22 rfl Wj_tO3 rfl rfl rfl rfl rfl rfl rfl ?_
  refine o_buildSlice 4 (ns .i64 ([0, 1])) [(0, [(nm .i64 (0))]), (1, [(nm .i64 (1))])] Gd.none Wj_tE22 rfl Wj_tO3 rfl rfl rfl rfl rfl rfl rfl ?_
  refine o_build [(nm .i64 (2)), (AV.row 3), (AV.row 4)] [(0, [(nm .i64 (2))]), (1, [(AV.row 3)]), (2, [(AV.row 4)])] Gd.none Wj_tP24 Wj_tO24 rfl rfl rfl ?_
  refine o_store [(4, (AO.row 3 1 (ns .i64 ([0, 1])))), (3, (AO.row 3 1 (ns .i64 ([1, 3])))), (2, (AO.var 24 [(nm .i64 (2)), (AV.row 3), (AV.row 4)]))] Gd.none Wj_tZ24 rfl rfl rfl rfl rfl rfl ?_
  refine aops_end ?_
  refine hK1 _ ?_
  refine awp_wk (σ' := ⟨[(0, (AV.ref 2 (0)))], [(2, (AO.var 24 [(nm .i64 (2)), (AV.row 3), (AV.row 4)])), (3, (AO.row 3 1 (ns .i64 ([1, 3])))), (4, (AO.row 3 1 (ns .i64 ([0, 1]))))]⟩) (Wk.sub (And.intro rfl (trivial)) (And.intro rfl (And.intro rfl (And.intro rfl (trivial))))) ?_
  refine awp_wk (σ' := ⟨[(0, (AV.ref 2 (0)))], [(2, (AO.var 24 [(nm .i64 (2)), (AV.sl 1 (ns .i64 ([1, 3]))), (AV.row 4)])), (4, (AO.row 3 1 (ns .i64 ([0, 1]))))]⟩) (Wk.freeze (id := 3) (e := 3) (sz := 1) (cs := (ns .i64 ([1, 3]))) rfl) ?_
  refine awp_wk (σ' := ⟨[(0, (AV.ref 2 (0)))], [(2, (AO.var 24 [(nm .i64 (2)), (AV.sl 1 (ns .i64 ([1, 3]))), (AV.sl 1 (ns .i64 ([0, 1])))]))]⟩) (Wk.freeze (id := 4) (e := 3) (sz := 1) (cs := (ns .i64 ([0, 1]))) rfl) ?_
  refine awp_ret ?_
  refine post_ret ⟨[(mapV (kinM 3 1))], And.intro ⟨2, (AO.var 24 [(nm .i64 (2)), (AV.sl 1 (ns .i64 ([1, 3]))), (AV.sl 1 (ns .i64 ([0, 1])))]), rfl, rfl, rfl, Or.inl ⟨Wj_tA24, AV.le_agg (LeL.cons (AV.le_refl _) (LeL.cons (AV.le_refl _) (LeL.cons (AV.le_refl _) (LeL.nil))))⟩⟩ (trivial), rfl, ?_⟩
  rfl

theorem c_gKin (q c : Int) : ECalls cx 42 [(AV.lit (.int .i64 (q))), (AV.lit (.int .i64 (c)))] (.tup [mapV (if kinOk q c then kinM q c else noM), bp (kinOk q c)]) := by
  refine ecalls_of_awp Tryd.func42 (c := _) rfl (Nat.le_of_ble_eq_true rfl) ?_
  show awp cx 36 _ (postF cx Tryd.f42 _) ⟨[(0, (AV.lit (.int .i64 (q)))), (1, (AV.lit (.int .i64 (c))))], []⟩
  refine awp_seq fun K0 hK0 => ?_
  refine awp_region rfl ?_
  refine o_alloc 2 [(nm .i64 (0)), (AV.lit (.slice none 0 0)), (AV.lit (.slice none 0 0))] Gd.none Wj_tO24 rfl rfl rfl ?_
  refine o_assign (AV.lit (.bool false)) Gd.none rfl ?_
  refine aops_end ?_
  refine hK0 _ ?_
  refine awp_seq fun K1 hK1 => ?_
  refine awp_seq fun K2 hK2 => ?_
  refine awp_region rfl ?_
  refine o_move (AV.lit (.int .i64 (q))) Gd.none rfl ?_
  refine o_lss (a := (q)) (c := (((1 : Nat) : Int))) Gd.none rfl rfl ?_
  refine o_move (bp ((q) < (((1 : Nat) : Int)))) Gd.none rfl ?_
  refine o_splitP (q := (q) < (((1 : Nat) : Int))) 8 rfl (fun h1 => ?_) (fun h1 => ?_)
  · refine o_skip (b := decide ((q) < (((1 : Nat) : Int)))) rfl rfl (decide_eq_true h1) ?_
    refine o_skip (b := decide ((q) < (((1 : Nat) : Int)))) rfl rfl (decide_eq_true h1) ?_
    refine o_pickT (b := decide ((q) < (((1 : Nat) : Int)))) (AV.lit (.bool true)) Gd.none rfl (decide_eq_true h1) rfl ?_
    refine o_move (AV.lit (.bool true)) Gd.none rfl ?_
    refine o_skip (b := true) rfl rfl rfl ?_
    refine o_skip (b := true) rfl rfl rfl ?_
    refine o_pickT (b := true) (AV.lit (.bool true)) Gd.none rfl rfl rfl ?_
    refine o_move (AV.lit (.bool true)) Gd.none rfl ?_
    refine o_skip (b := true) rfl rfl rfl ?_
    refine o_skip (b := true) rfl rfl rfl ?_
    refine o_pickT (b := true) (AV.lit (.bool true)) Gd.none rfl rfl rfl ?_
    refine o_move (AV.lit (.bool true)) Gd.none rfl ?_
    refine o_skip (b := true) rfl rfl rfl ?_
    refine o_skip (b := true) rfl rfl rfl ?_
    refine o_skip (b := true) rfl rfl rfl ?_
    refine o_pickT (b := true) (AV.lit (.bool true)) Gd.none rfl rfl rfl ?_
    refine o_move (AV.lit (.bool true)) Gd.none rfl ?_
    refine o_skip (b := true) rfl rfl rfl ?_
    refine o_skip (b := true) rfl rfl rfl ?_
    refine o_skip (b := true) rfl rfl rfl ?_
    refine o_pickT (b := true) (AV.lit (.bool true)) Gd.none rfl rfl rfl ?_
    refine aops_end ?_
    refine hK2 _ ?_
    refine awp_condB (b := true) rfl (fun _ => ?_) (fun hh => absurd (hh.symm.trans rfl) (by decide))
    refine awp_seq fun K3 hK3 => ?_
    refine awp_region rfl ?_
    refine o_build [(nm .i64 (0)), (AV.lit (.slice none 0 0)), (AV.lit (.slice none 0 0))] [] Gd.none Wj_tP24 Wj_tO24 rfl rfl rfl ?_
    refine o_store [(2, (AO.var 24 [(nm .i64 (0)), (AV.lit (.slice none 0 0)), (AV.lit (.slice none 0 0))]))] Gd.none Wj_tZ24 rfl rfl rfl rfl rfl rfl ?_
    refine o_assign (AV.lit (.bool false)) Gd.none rfl ?_
    refine aops_end ?_
    refine hK3 _ ?_
    refine awp_ret ?_
    refine post_ret ⟨[(mapV noM), (AV.lit (.bool false))], And.intro ⟨2, (AO.var 24 [(nm .i64 (0)), (AV.lit (.slice none 0 0)), (AV.lit (.slice none 0 0))]), rfl, rfl, rfl, Or.inl ⟨Wj_tA24, AV.le_agg (LeL.cons (AV.le_refl _) (LeL.cons (AV.le_nil' (by decide) (by first | rfl | simp [digs_zero, ns, is])) (LeL.cons (AV.le_nil' (by decide) (by first | rfl | simp [digs_zero, ns, is])) (LeL.nil))))⟩⟩ (And.intro (AV.le_refl _) (trivial)), rfl, ?_⟩
    have hk : ¬ kinOk q c := by unfold kinOk; first | omega | (intro hh; simp_all)
    exact tup_eq2 (congrArg mapV (if_neg hk)) (bl_bp (b := false) (by simp [hk])).symm
  · refine o_move (AV.lit (.int .i64 (q))) (Gd.yes rfl rfl (decide_eq_false h1)) rfl ?_
    refine o_gtr (a := (q)) (c := (((999 : Nat) : Int))) (Gd.yes rfl rfl (decide_eq_false h1)) rfl rfl ?_
    refine o_pickF (b := decide ((q) < (((1 : Nat) : Int)))) (bp ((((999 : Nat) : Int)) < (q))) Gd.none rfl (decide_eq_false h1) rfl ?_
    refine o_move (bp ((((999 : Nat) : Int)) < (q))) Gd.none rfl ?_
    refine o_splitP (q := (((999 : Nat) : Int)) < (q)) 12 rfl (fun h2 => ?_) (fun h2 => ?_)
    · refine o_skip (b := decide ((((999 : Nat) : Int)) < (q))) rfl rfl (decide_eq_true h2) ?_
      refine o_skip (b := decide ((((999 : Nat) : Int)) < (q))) rfl rfl (decide_eq_true h2) ?_
      refine o_pickT (b := decide ((((999 : Nat) : Int)) < (q))) (AV.lit (.bool true)) Gd.none rfl (decide_eq_true h2) rfl ?_
      refine o_move (AV.lit (.bool true)) Gd.none rfl ?_
      refine o_skip (b := true) rfl rfl rfl ?_
      refine o_skip (b := true) rfl rfl rfl ?_
      refine o_pickT (b := true) (AV.lit (.bool true)) Gd.none rfl rfl rfl ?_
      refine o_move (AV.lit (.bool true)) Gd.none rfl ?_
      refine o_skip (b := true) rfl rfl rfl ?_
      refine o_skip (b := true) rfl rfl rfl ?_
      refine o_skip (b := true) rfl rfl rfl ?_
      refine o_pickT (b := true) (AV.lit (.bool true)) Gd.none rfl rfl rfl ?_
      refine o_move (AV.lit (.bool true)) Gd.none rfl ?_
      refine o_skip (b := true) rfl rfl rfl ?_
      refine o_skip (b := true) rfl rfl rfl ?_
      refine o_skip (b := true) rfl rfl rfl ?_
      refine o_pickT (b := true) (AV.lit (.bool true)) Gd.none rfl rfl rfl ?_
      refine aops_end ?_
      refine hK2 _ ?_
      refine awp_condB (b := true) rfl (fun _ => ?_) (fun hh => absurd (hh.symm.trans rfl) (by decide))
      refine awp_seq fun K4 hK4 => ?_
      refine awp_region rfl ?_
      refine o_build [(nm .i64 (0)), (AV.lit (.slice none 0 0)), (AV.lit (.slice none 0 0))] [] Gd.none Wj_tP24 Wj_tO24 rfl rfl rfl ?_
      refine o_store [(2, (AO.var 24 [(nm .i64 (0)), (AV.lit (.slice none 0 0)), (AV.lit (.slice none 0 0))]))] Gd.none Wj_tZ24 rfl rfl rfl rfl rfl rfl ?_
      refine o_assign (AV.lit (.bool false)) Gd.none rfl ?_
      refine aops_end ?_
      refine hK4 _ ?_
      refine awp_ret ?_
      refine post_ret ⟨[(mapV noM), (AV.lit (.bool false))], And.intro ⟨2, (AO.var 24 [(nm .i64 (0)), (AV.lit (.slice none 0 0)), (AV.lit (.slice none 0 0))]), rfl, rfl, rfl, Or.inl ⟨Wj_tA24, AV.le_agg (LeL.cons (AV.le_refl _) (LeL.cons (AV.le_nil' (by decide) (by first | rfl | simp [digs_zero, ns, is])) (LeL.cons (AV.le_nil' (by decide) (by first | rfl | simp [digs_zero, ns, is])) (LeL.nil))))⟩⟩ (And.intro (AV.le_refl _) (trivial)), rfl, ?_⟩
      have hk : ¬ kinOk q c := by unfold kinOk; first | omega | (intro hh; simp_all)
      exact tup_eq2 (congrArg mapV (if_neg hk)) (bl_bp (b := false) (by simp [hk])).symm
    · refine o_move (AV.lit (.int .i64 (c))) (Gd.yes rfl rfl (decide_eq_false h2)) rfl ?_
      refine o_lss (a := (c)) (c := ((-999999))) (Gd.yes rfl rfl (decide_eq_false h2)) rfl rfl ?_
      refine o_pickF (b := decide ((((999 : Nat) : Int)) < (q))) (bp ((c) < ((-999999)))) Gd.none rfl (decide_eq_false h2) rfl ?_
      refine o_move (bp ((c) < ((-999999)))) Gd.none rfl ?_
      refine o_splitP (q := (c) < ((-999999))) 16 rfl (fun h3 => ?_) (fun h3 => ?_)
      · refine o_skip (b := decide ((c) < ((-999999)))) rfl rfl (decide_eq_true h3) ?_
        refine o_skip (b := decide ((c) < ((-999999)))) rfl rfl (decide_eq_true h3) ?_
        refine o_pickT (b := decide ((c) < ((-999999)))) (AV.lit (.bool true)) Gd.none rfl (decide_eq_true h3) rfl ?_
        refine o_move (AV.lit (.bool true)) Gd.none rfl ?_
        refine o_skip (b := true) rfl rfl rfl ?_
        refine o_skip (b := true) rfl rfl rfl ?_
        refine o_skip (b := true) rfl rfl rfl ?_
        refine o_pickT (b := true) (AV.lit (.bool true)) Gd.none rfl rfl rfl ?_
        refine o_move (AV.lit (.bool true)) Gd.none rfl ?_
        refine o_skip (b := true) rfl rfl rfl ?_
        refine o_skip (b := true) rfl rfl rfl ?_
        refine o_skip (b := true) rfl rfl rfl ?_
        refine o_pickT (b := true) (AV.lit (.bool true)) Gd.none rfl rfl rfl ?_
        refine aops_end ?_
        refine hK2 _ ?_
        refine awp_condB (b := true) rfl (fun _ => ?_) (fun hh => absurd (hh.symm.trans rfl) (by decide))
        refine awp_seq fun K5 hK5 => ?_
        refine awp_region rfl ?_
        refine o_build [(nm .i64 (0)), (AV.lit (.slice none 0 0)), (AV.lit (.slice none 0 0))] [] Gd.none Wj_tP24 Wj_tO24 rfl rfl rfl ?_
        refine o_store [(2, (AO.var 24 [(nm .i64 (0)), (AV.lit (.slice none 0 0)), (AV.lit (.slice none 0 0))]))] Gd.none Wj_tZ24 rfl rfl rfl rfl rfl rfl ?_
        refine o_assign (AV.lit (.bool false)) Gd.none rfl ?_
        refine aops_end ?_
        refine hK5 _ ?_
        refine awp_ret ?_
        refine post_ret ⟨[(mapV noM), (AV.lit (.bool false))], And.intro ⟨2, (AO.var 24 [(nm .i64 (0)), (AV.lit (.slice none 0 0)), (AV.lit (.slice none 0 0))]), rfl, rfl, rfl, Or.inl ⟨Wj_tA24, AV.le_agg (LeL.cons (AV.le_refl _) (LeL.cons (AV.le_nil' (by decide) (by first | rfl | simp [digs_zero, ns, is])) (LeL.cons (AV.le_nil' (by decide) (by first | rfl | simp [digs_zero, ns, is])) (LeL.nil))))⟩⟩ (And.intro (AV.le_refl _) (trivial)), rfl, ?_⟩
        have hk : ¬ kinOk q c := by unfold kinOk; first | omega | (intro hh; simp_all)
        exact tup_eq2 (congrArg mapV (if_neg hk)) (bl_bp (b := false) (by simp [hk])).symm
      · refine o_move (AV.lit (.int .i64 (c))) (Gd.yes rfl rfl (decide_eq_false h3)) rfl ?_
        refine o_gtr (a := (c)) (c := (((999999 : Nat) : Int))) (Gd.yes rfl rfl (decide_eq_false h3)) rfl rfl ?_
        refine o_pickF (b := decide ((c) < ((-999999)))) (bp ((((999999 : Nat) : Int)) < (c))) Gd.none rfl (decide_eq_false h3) rfl ?_
        refine o_move (bp ((((999999 : Nat) : Int)) < (c))) Gd.none rfl ?_
        refine o_splitP (q := (((999999 : Nat) : Int)) < (c)) 20 rfl (fun h4 => ?_) (fun h4 => ?_)
        · refine o_skip (b := decide ((((999999 : Nat) : Int)) < (c))) rfl rfl (decide_eq_true h4) ?_
          refine o_skip (b := decide ((((999999 : Nat) : Int)) < (c))) rfl rfl (decide_eq_true h4) ?_
          refine o_skip (b := decide ((((999999 : Nat) : Int)) < (c))) rfl rfl (decide_eq_true h4) ?_
          refine o_pickT (b := decide ((((999999 : Nat) : Int)) < (c))) (AV.lit (.bool true)) Gd.none rfl (decide_eq_true h4) rfl ?_
          refine o_move (AV.lit (.bool true)) Gd.none rfl ?_
          refine o_skip (b := true) rfl rfl rfl ?_
          refine o_skip (b := true) rfl rfl rfl ?_
          refine o_skip (b := true) rfl rfl rfl ?_
          refine o_pickT (b := true) (AV.lit (.bool true)) Gd.none rfl rfl rfl ?_
          refine aops_end ?_
          refine hK2 _ ?_
          refine awp_condB (b := true) rfl (fun _ => ?_) (fun hh => absurd (hh.symm.trans rfl) (by decide))
          refine awp_seq fun K6 hK6 => ?_
          refine awp_region rfl ?_
          refine o_build [(nm .i64 (0)), (AV.lit (.slice none 0 0)), (AV.lit (.slice none 0 0))] [] Gd.none Wj_tP24 Wj_tO24 rfl rfl rfl ?_
          refine o_store [(2, (AO.var 24 [(nm .i64 (0)), (AV.lit (.slice none 0 0)), (AV.lit (.slice none 0 0))]))] Gd.none Wj_tZ24 rfl rfl rfl rfl rfl rfl ?_
          refine o_assign (AV.lit (.bool false)) Gd.none rfl ?_
          refine aops_end ?_
          refine hK6 _ ?_
          refine awp_ret ?_
          refine post_ret ⟨[(mapV noM), (AV.lit (.bool false))], And.intro ⟨2, (AO.var 24 [(nm .i64 (0)), (AV.lit (.slice none 0 0)), (AV.lit (.slice none 0 0))]), rfl, rfl, rfl, Or.inl ⟨Wj_tA24, AV.le_agg (LeL.cons (AV.le_refl _) (LeL.cons (AV.le_nil' (by decide) (by first | rfl | simp [digs_zero, ns, is])) (LeL.cons (AV.le_nil' (by decide) (by first | rfl | simp [digs_zero, ns, is])) (LeL.nil))))⟩⟩ (And.intro (AV.le_refl _) (trivial)), rfl, ?_⟩
          have hk : ¬ kinOk q c := by unfold kinOk; first | omega | (intro hh; simp_all)
          exact tup_eq2 (congrArg mapV (if_neg hk)) (bl_bp (b := false) (by simp [hk])).symm
        · refine o_move (AV.lit (.int .i64 (q))) (Gd.yes rfl rfl (decide_eq_false h4)) rfl ?_
          refine o_remT (a := (q)) (c := (((2 : Nat) : Int))) (Gd.yes rfl rfl (decide_eq_false h4)) rfl rfl (by omega) ?_
          refine o_eql (a := (Int.tmod (q) (((2 : Nat) : Int)))) (c := (((0 : Nat) : Int))) (Gd.yes rfl rfl (decide_eq_false h4)) rfl rfl ?_
          refine o_pickF (b := decide ((((999999 : Nat) : Int)) < (c))) (bp ((Int.tmod (q) (((2 : Nat) : Int))) = (((0 : Nat) : Int)))) Gd.none rfl (decide_eq_false h4) rfl ?_
          refine o_move (bp ((Int.tmod (q) (((2 : Nat) : Int))) = (((0 : Nat) : Int)))) Gd.none rfl ?_
          refine o_splitP (q := (Int.tmod (q) (((2 : Nat) : Int))) = (((0 : Nat) : Int))) 25 rfl (fun h5 => ?_) (fun h5 => ?_)
          · refine o_skip (b := decide ((Int.tmod (q) (((2 : Nat) : Int))) = (((0 : Nat) : Int)))) rfl rfl (decide_eq_true h5) ?_
            refine o_skip (b := decide ((Int.tmod (q) (((2 : Nat) : Int))) = (((0 : Nat) : Int)))) rfl rfl (decide_eq_true h5) ?_
            refine o_skip (b := decide ((Int.tmod (q) (((2 : Nat) : Int))) = (((0 : Nat) : Int)))) rfl rfl (decide_eq_true h5) ?_
            refine o_pickT (b := decide ((Int.tmod (q) (((2 : Nat) : Int))) = (((0 : Nat) : Int)))) (AV.lit (.bool true)) Gd.none rfl (decide_eq_true h5) rfl ?_
            refine aops_end ?_
            refine hK2 _ ?_
            refine awp_condB (b := true) rfl (fun _ => ?_) (fun hh => absurd (hh.symm.trans rfl) (by decide))
            refine awp_seq fun K7 hK7 => ?_
            refine awp_region rfl ?_
            refine o_build [(nm .i64 (0)), (AV.lit (.slice none 0 0)), (AV.lit (.slice none 0 0))] [] Gd.none Wj_tP24 Wj_tO24 rfl rfl rfl ?_
            refine o_store [(2, (AO.var 24 [(nm .i64 (0)), (AV.lit (.slice none 0 0)), (AV.lit (.slice none 0 0))]))] Gd.none Wj_tZ24 rfl rfl rfl rfl rfl rfl ?_
            refine o_assign (AV.lit (.bool false)) Gd.none rfl ?_
            refine aops_end ?_
            refine hK7 _ ?_
            refine awp_ret ?_
            refine post_ret ⟨[(mapV noM), (AV.lit (.bool false))], And.intro ⟨2, (AO.var 24 [(nm .i64 (0)), (AV.lit (.slice none 0 0)), (AV.lit (.slice none 0 0))]), rfl, rfl, rfl, Or.inl ⟨Wj_tA24, AV.le_agg (LeL.cons (AV.le_refl _) (LeL.cons (AV.le_nil' (by decide) (by first | rfl | simp [digs_zero, ns, is])) (LeL.cons (AV.le_nil' (by decide) (by first | rfl | simp [digs_zero, ns, is])) (LeL.nil))))⟩⟩ (And.intro (AV.le_refl _) (trivial)), rfl, ?_⟩
            have hk : ¬ kinOk q c := by unfold kinOk; first | omega | (intro hh; simp_all)
            exact tup_eq2 (congrArg mapV (if_neg hk)) (bl_bp (b := false) (by simp [hk])).symm
          · refine o_move (AV.lit (.int .i64 (c))) (Gd.yes rfl rfl (decide_eq_false h5)) rfl ?_
            refine o_remT (a := (c)) (c := (((2 : Nat) : Int))) (Gd.yes rfl rfl (decide_eq_false h5)) rfl rfl (by omega) ?_
            refine o_eql (a := (Int.tmod (c) (((2 : Nat) : Int)))) (c := (((0 : Nat) : Int))) (Gd.yes rfl rfl (decide_eq_false h5)) rfl rfl ?_
            refine o_pickF (b := decide ((Int.tmod (q) (((2 : Nat) : Int))) = (((0 : Nat) : Int)))) (bp ((Int.tmod (c) (((2 : Nat) : Int))) = (((0 : Nat) : Int)))) Gd.none rfl (decide_eq_false h5) rfl ?_
            refine aops_end ?_
            refine hK2 _ ?_
            refine awp_condQ (q := (Int.tmod (c) (((2 : Nat) : Int))) = (((0 : Nat) : Int))) rfl (fun h6 => ?_) (fun h6 => ?_)
            · refine awp_seq fun K8 hK8 => ?_
              refine awp_region rfl ?_
              refine o_build [(nm .i64 (0)), (AV.lit (.slice none 0 0)), (AV.lit (.slice none 0 0))] [] Gd.none Wj_tP24 Wj_tO24 rfl rfl rfl ?_
              refine o_store [(2, (AO.var 24 [(nm .i64 (0)), (AV.lit (.slice none 0 0)), (AV.lit (.slice none 0 0))]))] Gd.none Wj_tZ24 rfl rfl rfl rfl rfl rfl ?_
              refine o_assign (AV.lit (.bool false)) Gd.none rfl ?_
              refine aops_end ?_
              refine hK8 _ ?_
              refine awp_ret ?_
              refine post_ret ⟨[(mapV noM), (AV.lit (.bool false))], And.intro ⟨2, (AO.var 24 [(nm .i64 (0)), (AV.lit (.slice none 0 0)), (AV.lit (.slice none 0 0))]), rfl, rfl, rfl, Or.inl ⟨Wj_tA24, AV.le_agg (LeL.cons (AV.le_refl _) (LeL.cons (AV.le_nil' (by decide) (by first | rfl | simp [digs_zero, ns, is])) (LeL.cons (AV.le_nil' (by decide) (by first | rfl | simp [digs_zero, ns, is])) (LeL.nil))))⟩⟩ (And.intro (AV.le_refl _) (trivial)), rfl, ?_⟩
              have hk : ¬ kinOk q c := by unfold kinOk; first | omega | (intro hh; simp_all)
              exact tup_eq2 (congrArg mapV (if_neg hk)) (bl_bp (b := false) (by simp [hk])).symm
            · refine awp_skip ?_
              refine hK1 _ ?_
              refine awp_seq fun K9 hK9 => ?_
              refine awp_region rfl ?_
              refine o_move (AV.lit (.int .i64 (q))) Gd.none rfl ?_
              refine o_buildSlice 3 ([(nm .i64 (1)), (AV.lit (.int .i64 (q)))]) [(0, [(nm .i64 (1))]), (1, [(AV.lit (.int .i64 (q)))])] Gd.none Wj_tE22 rfl Wj_tO3 rfl rfl rfl rfl rfl rfl rfl ?_
              refine o_move (AV.lit (.int .i64 (c))) Gd.none rfl ?_
              refine o_buildSlice 4 ([(nm .i64 (0)), (AV.lit (.int .i64 (c)))]) [(0, [(nm .i64 (0))]), (1, [(AV.lit (.int .i64 (c)))])] Gd.none Wj_tE22 rfl Wj_tO3 rfl rfl rfl rfl rfl rfl rfl ?_
              refine o_build [(nm .i64 (2)), (AV.row 3), (AV.row 4)] [(0, [(nm .i64 (2))]), (1, [(AV.row 3)]), (2, [(AV.row 4)])] Gd.none Wj_tP24 Wj_tO24 rfl rfl rfl ?_
              refine o_store [(4, (AO.row 3 1 ([(nm .i64 (0)), (AV.lit (.int .i64 (c)))]))), (3, (AO.row 3 1 ([(nm .i64 (1)), (AV.lit (.int .i64 (q)))]))), (2, (AO.var 24 [(nm .i64 (2)), (AV.row 3), (AV.row 4)]))] Gd.none Wj_tZ24 rfl rfl rfl rfl rfl rfl ?_
              refine o_assign (AV.lit (.bool true)) Gd.none rfl ?_
              refine aops_end ?_
              refine hK9 _ ?_
              refine awp_wk (σ' := ⟨[(4, (AV.ref 2 (0))), (5, (AV.lit (.bool true)))], [(2, (AO.var 24 [(nm .i64 (2)), (AV.row 3), (AV.row 4)])), (3, (AO.row 3 1 ([(nm .i64 (1)), (AV.lit (.int .i64 (q)))]))), (4, (AO.row 3 1 ([(nm .i64 (0)), (AV.lit (.int .i64 (c)))])))]⟩) (Wk.sub (And.intro rfl (And.intro rfl (trivial))) (And.intro rfl (And.intro rfl (And.intro rfl (trivial))))) ?_
              refine awp_wk (σ' := ⟨[(4, (AV.ref 2 (0))), (5, (AV.lit (.bool true)))], [(2, (AO.var 24 [(nm .i64 (2)), (AV.sl 1 ([(nm .i64 (1)), (AV.lit (.int .i64 (q)))])), (AV.row 4)])), (4, (AO.row 3 1 ([(nm .i64 (0)), (AV.lit (.int .i64 (c)))])))]⟩) (Wk.freeze (id := 3) (e := 3) (sz := 1) (cs := ([(nm .i64 (1)), (AV.lit (.int .i64 (q)))])) rfl) ?_
              refine awp_wk (σ' := ⟨[(4, (AV.ref 2 (0))), (5, (AV.lit (.bool true)))], [(2, (AO.var 24 [(nm .i64 (2)), (AV.sl 1 ([(nm .i64 (1)), (AV.lit (.int .i64 (q)))])), (AV.sl 1 ([(nm .i64 (0)), (AV.lit (.int .i64 (c)))]))]))]⟩) (Wk.freeze (id := 4) (e := 3) (sz := 1) (cs := ([(nm .i64 (0)), (AV.lit (.int .i64 (c)))])) rfl) ?_
              refine awp_ret ?_
              refine post_ret ⟨[(mapV (kinM q c)), (AV.lit (.bool true))], And.intro ⟨2, (AO.var 24 [(nm .i64 (2)), (AV.sl 1 ([(nm .i64 (1)), (AV.lit (.int .i64 (q)))])), (AV.sl 1 ([(nm .i64 (0)), (AV.lit (.int .i64 (c)))]))]), rfl, rfl, rfl, Or.inl ⟨Wj_tA24, AV.le_agg (LeL.cons (AV.le_refl _) (LeL.cons (AV.le_refl _) (LeL.cons (AV.le_refl _) (LeL.nil))))⟩⟩ (And.intro (AV.le_refl _) (trivial)), rfl, ?_⟩
              have hk : kinOk q c := by unfold kinOk; first | omega | (refine ⟨?_, ?_, ?_, ?_, ?_, ?_⟩ <;> omega)
              exact tup_eq2 (congrArg mapV (if_pos hk)) (bl_bp (b := true) (by simp [hk])).symm

theorem c_sKin (q c : Int) : ECalls cx 38 [(AV.lit (.int .i64 (q))), (AV.lit (.int .i64 (c)))] (.tup [mapV (if kinOk q c then kinM q c else noM), nm .i64 (if kinOk q c then 0 else 2)]) := by
  refine ecalls_of_awp Tryd.func38 (c := _) rfl (Nat.le_of_ble_eq_true rfl) ?_
  show awp cx 34 _ (postF cx Tryd.f38 _) ⟨[(0, (AV.lit (.int .i64 (q)))), (1, (AV.lit (.int .i64 (c))))], []⟩
  refine awp_seq fun K0 hK0 => ?_
  refine awp_region rfl ?_
  refine o_alloc 2 [(nm .i64 (0)), (AV.lit (.slice none 0 0)), (AV.lit (.slice none 0 0))] Gd.none Wj_tO24 rfl rfl rfl ?_
  refine o_assign (nm .i64 (0)) Gd.none rfl ?_
  refine aops_end ?_
  refine hK0 _ ?_
  refine awp_seq fun K1 hK1 => ?_
  refine awp_seq fun K2 hK2 => ?_
  refine awp_region rfl ?_
  refine o_move (AV.lit (.int .i64 (q))) Gd.none rfl ?_
  refine o_remT (a := (q)) (c := (((2 : Nat) : Int))) Gd.none rfl rfl (by omega) ?_
  refine o_eql (a := (Int.tmod (q) (((2 : Nat) : Int)))) (c := (((0 : Nat) : Int))) Gd.none rfl rfl ?_
  refine o_move (bp ((Int.tmod (q) (((2 : Nat) : Int))) = (((0 : Nat) : Int)))) Gd.none rfl ?_
  refine o_splitP (q := (Int.tmod (q) (((2 : Nat) : Int))) = (((0 : Nat) : Int))) 9 rfl (fun h1 => ?_) (fun h1 => ?_)
  · refine o_skip (b := decide ((Int.tmod (q) (((2 : Nat) : Int))) = (((0 : Nat) : Int)))) rfl rfl (decide_eq_true h1) ?_
    refine o_skip (b := decide ((Int.tmod (q) (((2 : Nat) : Int))) = (((0 : Nat) : Int)))) rfl rfl (decide_eq_true h1) ?_
    refine o_skip (b := decide ((Int.tmod (q) (((2 : Nat) : Int))) = (((0 : Nat) : Int)))) rfl rfl (decide_eq_true h1) ?_
    refine o_pickT (b := decide ((Int.tmod (q) (((2 : Nat) : Int))) = (((0 : Nat) : Int)))) (AV.lit (.bool true)) Gd.none rfl (decide_eq_true h1) rfl ?_
    refine o_move (AV.lit (.bool true)) Gd.none rfl ?_
    refine o_skip (b := true) rfl rfl rfl ?_
    refine o_skip (b := true) rfl rfl rfl ?_
    refine o_pickT (b := true) (AV.lit (.bool true)) Gd.none rfl rfl rfl ?_
    refine o_move (AV.lit (.bool true)) Gd.none rfl ?_
    refine o_skip (b := true) rfl rfl rfl ?_
    refine o_skip (b := true) rfl rfl rfl ?_
    refine o_pickT (b := true) (AV.lit (.bool true)) Gd.none rfl rfl rfl ?_
    refine o_move (AV.lit (.bool true)) Gd.none rfl ?_
    refine o_skip (b := true) rfl rfl rfl ?_
    refine o_skip (b := true) rfl rfl rfl ?_
    refine o_pickT (b := true) (AV.lit (.bool true)) Gd.none rfl rfl rfl ?_
    refine o_move (AV.lit (.bool true)) Gd.none rfl ?_
    refine o_skip (b := true) rfl rfl rfl ?_
    refine o_skip (b := true) rfl rfl rfl ?_
    refine o_pickT (b := true) (AV.lit (.bool true)) Gd.none rfl rfl rfl ?_
    refine aops_end ?_
    refine hK2 _ ?_
    refine awp_condB (b := true) rfl (fun _ => ?_) (fun hh => absurd (hh.symm.trans rfl) (by decide))
    refine awp_seq fun K3 hK3 => ?_
    refine awp_region rfl ?_
    refine o_build [(nm .i64 (0)), (AV.lit (.slice none 0 0)), (AV.lit (.slice none 0 0))] [] Gd.none Wj_tP24 Wj_tO24 rfl rfl rfl ?_
    refine o_store [(2, (AO.var 24 [(nm .i64 (0)), (AV.lit (.slice none 0 0)), (AV.lit (.slice none 0 0))]))] Gd.none Wj_tZ24 rfl rfl rfl rfl rfl rfl ?_
    refine o_assign (nm .i64 (2)) Gd.none rfl ?_
    refine aops_end ?_
    refine hK3 _ ?_
    refine awp_ret ?_
    refine post_ret ⟨[(mapV noM), (nm .i64 (2))], And.intro ⟨2, (AO.var 24 [(nm .i64 (0)), (AV.lit (.slice none 0 0)), (AV.lit (.slice none 0 0))]), rfl, rfl, rfl, Or.inl ⟨Wj_tA24, AV.le_agg (LeL.cons (AV.le_refl _) (LeL.cons (AV.le_nil' (by decide) (by first | rfl | simp [digs_zero, ns, is])) (LeL.cons (AV.le_nil' (by decide) (by first | rfl | simp [digs_zero, ns, is])) (LeL.nil))))⟩⟩ (And.intro (AV.le_refl _) (trivial)), rfl, ?_⟩
    have hk : ¬ kinOk q c := by unfold kinOk; first | omega | (intro hh; simp_all)
    exact tup_eq2 (congrArg mapV (if_neg hk)) (congrArg (nm .i64) (if_neg hk))
  · refine o_move (AV.lit (.int .i64 (c))) (Gd.yes rfl rfl (decide_eq_false h1)) rfl ?_
    refine o_remT (a := (c)) (c := (((2 : Nat) : Int))) (Gd.yes rfl rfl (decide_eq_false h1)) rfl rfl (by omega) ?_
    refine o_eql (a := (Int.tmod (c) (((2 : Nat) : Int)))) (c := (((0 : Nat) : Int))) (Gd.yes rfl rfl (decide_eq_false h1)) rfl rfl ?_
    refine o_pickF (b := decide ((Int.tmod (q) (((2 : Nat) : Int))) = (((0 : Nat) : Int)))) (bp ((Int.tmod (c) (((2 : Nat) : Int))) = (((0 : Nat) : Int)))) Gd.none rfl (decide_eq_false h1) rfl ?_
    refine o_move (bp ((Int.tmod (c) (((2 : Nat) : Int))) = (((0 : Nat) : Int)))) Gd.none rfl ?_
    refine o_splitP (q := (Int.tmod (c) (((2 : Nat) : Int))) = (((0 : Nat) : Int))) 14 rfl (fun h2 => ?_) (fun h2 => ?_)
    · refine o_skip (b := decide ((Int.tmod (c) (((2 : Nat) : Int))) = (((0 : Nat) : Int)))) rfl rfl (decide_eq_true h2) ?_
      refine o_skip (b := decide ((Int.tmod (c) (((2 : Nat) : Int))) = (((0 : Nat) : Int)))) rfl rfl (decide_eq_true h2) ?_
      refine o_pickT (b := decide ((Int.tmod (c) (((2 : Nat) : Int))) = (((0 : Nat) : Int)))) (AV.lit (.bool true)) Gd.none rfl (decide_eq_true h2) rfl ?_
      refine o_move (AV.lit (.bool true)) Gd.none rfl ?_
      refine o_skip (b := true) rfl rfl rfl ?_
      refine o_skip (b := true) rfl rfl rfl ?_
      refine o_pickT (b := true) (AV.lit (.bool true)) Gd.none rfl rfl rfl ?_
      refine o_move (AV.lit (.bool true)) Gd.none rfl ?_
      refine o_skip (b := true) rfl rfl rfl ?_
      refine o_skip (b := true) rfl rfl rfl ?_
      refine o_pickT (b := true) (AV.lit (.bool true)) Gd.none rfl rfl rfl ?_
      refine o_move (AV.lit (.bool true)) Gd.none rfl ?_
      refine o_skip (b := true) rfl rfl rfl ?_
      refine o_skip (b := true) rfl rfl rfl ?_
      refine o_pickT (b := true) (AV.lit (.bool true)) Gd.none rfl rfl rfl ?_
      refine aops_end ?_
      refine hK2 _ ?_
      refine awp_condB (b := true) rfl (fun _ => ?_) (fun hh => absurd (hh.symm.trans rfl) (by decide))
      refine awp_seq fun K4 hK4 => ?_
      refine awp_region rfl ?_
      refine o_build [(nm .i64 (0)), (AV.lit (.slice none 0 0)), (AV.lit (.slice none 0 0))] [] Gd.none Wj_tP24 Wj_tO24 rfl rfl rfl ?_
      refine o_store [(2, (AO.var 24 [(nm .i64 (0)), (AV.lit (.slice none 0 0)), (AV.lit (.slice none 0 0))]))] Gd.none Wj_tZ24 rfl rfl rfl rfl rfl rfl ?_
      refine o_assign (nm .i64 (2)) Gd.none rfl ?_
      refine aops_end ?_
      refine hK4 _ ?_
      refine awp_ret ?_
      refine post_ret ⟨[(mapV noM), (nm .i64 (2))], And.intro ⟨2, (AO.var 24 [(nm .i64 (0)), (AV.lit (.slice none 0 0)), (AV.lit (.slice none 0 0))]), rfl, rfl, rfl, Or.inl ⟨Wj_tA24, AV.le_agg (LeL.cons (AV.le_refl _) (LeL.cons (AV.le_nil' (by decide) (by first | rfl | simp [digs_zero, ns, is])) (LeL.cons (AV.le_nil' (by decide) (by first | rfl | simp [digs_zero, ns, is])) (LeL.nil))))⟩⟩ (And.intro (AV.le_refl _) (trivial)), rfl, ?_⟩
      have hk : ¬ kinOk q c := by unfold kinOk; first | omega | (intro hh; simp_all)
      exact tup_eq2 (congrArg mapV (if_neg hk)) (congrArg (nm .i64) (if_neg hk))
    · refine o_move (AV.lit (.int .i64 (q))) (Gd.yes rfl rfl (decide_eq_false h2)) rfl ?_
      refine o_lss (a := (q)) (c := (((1 : Nat) : Int))) (Gd.yes rfl rfl (decide_eq_false h2)) rfl rfl ?_
      refine o_pickF (b := decide ((Int.tmod (c) (((2 : Nat) : Int))) = (((0 : Nat) : Int)))) (bp ((q) < (((1 : Nat) : Int)))) Gd.none rfl (decide_eq_false h2) rfl ?_
      refine o_move (bp ((q) < (((1 : Nat) : Int)))) Gd.none rfl ?_
      refine o_splitP (q := (q) < (((1 : Nat) : Int))) 18 rfl (fun h3 => ?_) (fun h3 => ?_)
      · refine o_skip (b := decide ((q) < (((1 : Nat) : Int)))) rfl rfl (decide_eq_true h3) ?_
        refine o_skip (b := decide ((q) < (((1 : Nat) : Int)))) rfl rfl (decide_eq_true h3) ?_
        refine o_pickT (b := decide ((q) < (((1 : Nat) : Int)))) (AV.lit (.bool true)) Gd.none rfl (decide_eq_true h3) rfl ?_
        refine o_move (AV.lit (.bool true)) Gd.none rfl ?_
        refine o_skip (b := true) rfl rfl rfl ?_
        refine o_skip (b := true) rfl rfl rfl ?_
        refine o_pickT (b := true) (AV.lit (.bool true)) Gd.none rfl rfl rfl ?_
        refine o_move (AV.lit (.bool true)) Gd.none rfl ?_
        refine o_skip (b := true) rfl rfl rfl ?_
        refine o_skip (b := true) rfl rfl rfl ?_
        refine o_pickT (b := true) (AV.lit (.bool true)) Gd.none rfl rfl rfl ?_
        refine aops_end ?_
        refine hK2 _ ?_
        refine awp_condB (b := true) rfl (fun _ => ?_) (fun hh => absurd (hh.symm.trans rfl) (by decide))
        refine awp_seq fun K5 hK5 => ?_
        refine awp_region rfl ?_
        refine o_build [(nm .i64 (0)), (AV.lit (.slice none 0 0)), (AV.lit (.slice none 0 0))] [] Gd.none Wj_tP24 Wj_tO24 rfl rfl rfl ?_
        refine o_store [(2, (AO.var 24 [(nm .i64 (0)), (AV.lit (.slice none 0 0)), (AV.lit (.slice none 0 0))]))] Gd.none Wj_tZ24 rfl rfl rfl rfl rfl rfl ?_
        refine o_assign (nm .i64 (2)) Gd.none rfl ?_
        refine aops_end ?_
        refine hK5 _ ?_
        refine awp_ret ?_
        refine post_ret ⟨[(mapV noM), (nm .i64 (2))], And.intro ⟨2, (AO.var 24 [(nm .i64 (0)), (AV.lit (.slice none 0 0)), (AV.lit (.slice none 0 0))]), rfl, rfl, rfl, Or.inl ⟨Wj_tA24, AV.le_agg (LeL.cons (AV.le_refl _) (LeL.cons (AV.le_nil' (by decide) (by first | rfl | simp [digs_zero, ns, is])) (LeL.cons (AV.le_nil' (by decide) (by first | rfl | simp [digs_zero, ns, is])) (LeL.nil))))⟩⟩ (And.intro (AV.le_refl _) (trivial)), rfl, ?_⟩
        have hk : ¬ kinOk q c := by unfold kinOk; first | omega | (intro hh; simp_all)
        exact tup_eq2 (congrArg mapV (if_neg hk)) (congrArg (nm .i64) (if_neg hk))
      · refine o_move (AV.lit (.int .i64 (q))) (Gd.yes rfl rfl (decide_eq_false h3)) rfl ?_
        refine o_gtr (a := (q)) (c := (((999 : Nat) : Int))) (Gd.yes rfl rfl (decide_eq_false h3)) rfl rfl ?_
        refine o_pickF (b := decide ((q) < (((1 : Nat) : Int)))) (bp ((((999 : Nat) : Int)) < (q))) Gd.none rfl (decide_eq_false h3) rfl ?_
        refine o_move (bp ((((999 : Nat) : Int)) < (q))) Gd.none rfl ?_
        refine o_splitP (q := (((999 : Nat) : Int)) < (q)) 22 rfl (fun h4 => ?_) (fun h4 => ?_)
        · refine o_skip (b := decide ((((999 : Nat) : Int)) < (q))) rfl rfl (decide_eq_true h4) ?_
          refine o_skip (b := decide ((((999 : Nat) : Int)) < (q))) rfl rfl (decide_eq_true h4) ?_
          refine o_pickT (b := decide ((((999 : Nat) : Int)) < (q))) (AV.lit (.bool true)) Gd.none rfl (decide_eq_true h4) rfl ?_
          refine o_move (AV.lit (.bool true)) Gd.none rfl ?_
          refine o_skip (b := true) rfl rfl rfl ?_
          refine o_skip (b := true) rfl rfl rfl ?_
          refine o_pickT (b := true) (AV.lit (.bool true)) Gd.none rfl rfl rfl ?_
          refine aops_end ?_
          refine hK2 _ ?_
          refine awp_condB (b := true) rfl (fun _ => ?_) (fun hh => absurd (hh.symm.trans rfl) (by decide))
          refine awp_seq fun K6 hK6 => ?_
          refine awp_region rfl ?_
          refine o_build [(nm .i64 (0)), (AV.lit (.slice none 0 0)), (AV.lit (.slice none 0 0))] [] Gd.none Wj_tP24 Wj_tO24 rfl rfl rfl ?_
          refine o_store [(2, (AO.var 24 [(nm .i64 (0)), (AV.lit (.slice none 0 0)), (AV.lit (.slice none 0 0))]))] Gd.none Wj_tZ24 rfl rfl rfl rfl rfl rfl ?_
          refine o_assign (nm .i64 (2)) Gd.none rfl ?_
          refine aops_end ?_
          refine hK6 _ ?_
          refine awp_ret ?_
          refine post_ret ⟨[(mapV noM), (nm .i64 (2))], And.intro ⟨2, (AO.var 24 [(nm .i64 (0)), (AV.lit (.slice none 0 0)), (AV.lit (.slice none 0 0))]), rfl, rfl, rfl, Or.inl ⟨Wj_tA24, AV.le_agg (LeL.cons (AV.le_refl _) (LeL.cons (AV.le_nil' (by decide) (by first | rfl | simp [digs_zero, ns, is])) (LeL.cons (AV.le_nil' (by decide) (by first | rfl | simp [digs_zero, ns, is])) (LeL.nil))))⟩⟩ (And.intro (AV.le_refl _) (trivial)), rfl, ?_⟩
          have hk : ¬ kinOk q c := by unfold kinOk; first | omega | (intro hh; simp_all)
          exact tup_eq2 (congrArg mapV (if_neg hk)) (congrArg (nm .i64) (if_neg hk))
        · refine o_move (AV.lit (.int .i64 (c))) (Gd.yes rfl rfl (decide_eq_false h4)) rfl ?_
          refine o_lss (a := (c)) (c := ((-999999))) (Gd.yes rfl rfl (decide_eq_false h4)) rfl rfl ?_
          refine o_pickF (b := decide ((((999 : Nat) : Int)) < (q))) (bp ((c) < ((-999999)))) Gd.none rfl (decide_eq_false h4) rfl ?_
          refine o_move (bp ((c) < ((-999999)))) Gd.none rfl ?_
          refine o_splitP (q := (c) < ((-999999))) 26 rfl (fun h5 => ?_) (fun h5 => ?_)
          · refine o_skip (b := decide ((c) < ((-999999)))) rfl rfl (decide_eq_true h5) ?_
            refine o_skip (b := decide ((c) < ((-999999)))) rfl rfl (decide_eq_true h5) ?_
            refine o_pickT (b := decide ((c) < ((-999999)))) (AV.lit (.bool true)) Gd.none rfl (decide_eq_true h5) rfl ?_
            refine aops_end ?_
            refine hK2 _ ?_
            refine awp_condB (b := true) rfl (fun _ => ?_) (fun hh => absurd (hh.symm.trans rfl) (by decide))
            refine awp_seq fun K7 hK7 => ?_
            refine awp_region rfl ?_
            refine o_build [(nm .i64 (0)), (AV.lit (.slice none 0 0)), (AV.lit (.slice none 0 0))] [] Gd.none Wj_tP24 Wj_tO24 rfl rfl rfl ?_
            refine o_store [(2, (AO.var 24 [(nm .i64 (0)), (AV.lit (.slice none 0 0)), (AV.lit (.slice none 0 0))]))] Gd.none Wj_tZ24 rfl rfl rfl rfl rfl rfl ?_
            refine o_assign (nm .i64 (2)) Gd.none rfl ?_
            refine aops_end ?_
            refine hK7 _ ?_
            refine awp_ret ?_
            refine post_ret ⟨[(mapV noM), (nm .i64 (2))], And.intro ⟨2, (AO.var 24 [(nm .i64 (0)), (AV.lit (.slice none 0 0)), (AV.lit (.slice none 0 0))]), rfl, rfl, rfl, Or.inl ⟨Wj_tA24, AV.le_agg (LeL.cons (AV.le_refl _) (LeL.cons (AV.le_nil' (by decide) (by first | rfl | simp [digs_zero, ns, is])) (LeL.cons (AV.le_nil' (by decide) (by first | rfl | simp [digs_zero, ns, is])) (LeL.nil))))⟩⟩ (And.intro (AV.le_refl _) (trivial)), rfl, ?_⟩
            have hk : ¬ kinOk q c := by unfold kinOk; first | omega | (intro hh; simp_all)
            exact tup_eq2 (congrArg mapV (if_neg hk)) (congrArg (nm .i64) (if_neg hk))
          · refine o_move (AV.lit (.int .i64 (c))) (Gd.yes rfl rfl (decide_eq_false h5)) rfl ?_
            refine o_gtr (a := (c)) (c := (((999999 : Nat) : Int))) (Gd.yes rfl rfl (decide_eq_false h5)) rfl rfl ?_
            refine o_pickF (b := decide ((c) < ((-999999)))) (bp ((((999999 : Nat) : Int)) < (c))) Gd.none rfl (decide_eq_false h5) rfl ?_
            refine aops_end ?_
            refine hK2 _ ?_
            refine awp_condQ (q := (((999999 : Nat) : Int)) < (c)) rfl (fun h6 => ?_) (fun h6 => ?_)
            · refine awp_seq fun K8 hK8 => ?_
              refine awp_region rfl ?_
              refine o_build [(nm .i64 (0)), (AV.lit (.slice none 0 0)), (AV.lit (.slice none 0 0))] [] Gd.none Wj_tP24 Wj_tO24 rfl rfl rfl ?_
              refine o_store [(2, (AO.var 24 [(nm .i64 (0)), (AV.lit (.slice none 0 0)), (AV.lit (.slice none 0 0))]))] Gd.none Wj_tZ24 rfl rfl rfl rfl rfl rfl ?_
              refine o_assign (nm .i64 (2)) Gd.none rfl ?_
              refine aops_end ?_
              refine hK8 _ ?_
              refine awp_ret ?_
              refine post_ret ⟨[(mapV noM), (nm .i64 (2))], And.intro ⟨2, (AO.var 24 [(nm .i64 (0)), (AV.lit (.slice none 0 0)), (AV.lit (.slice none 0 0))]), rfl, rfl, rfl, Or.inl ⟨Wj_tA24, AV.le_agg (LeL.cons (AV.le_refl _) (LeL.cons (AV.le_nil' (by decide) (by first | rfl | simp [digs_zero, ns, is])) (LeL.cons (AV.le_nil' (by decide) (by first | rfl | simp [digs_zero, ns, is])) (LeL.nil))))⟩⟩ (And.intro (AV.le_refl _) (trivial)), rfl, ?_⟩
              have hk : ¬ kinOk q c := by unfold kinOk; first | omega | (intro hh; simp_all)
              exact tup_eq2 (congrArg mapV (if_neg hk)) (congrArg (nm .i64) (if_neg hk))
            · refine awp_skip ?_
              refine hK1 _ ?_
              refine awp_seq fun K9 hK9 => ?_
              refine awp_region rfl ?_
              refine o_move (AV.lit (.int .i64 (q))) Gd.none rfl ?_
              refine o_move (AV.lit (.int .i64 (c))) Gd.none rfl ?_
              refine o_call [(AV.lit (.int .i64 (q))), (AV.lit (.int .i64 (c)))] (mapV (kinM (q) (c))) Gd.none Wj_tC83 rfl (c_skin (q) (c)) ?_
              refine o_store [(2, (AO.var 24 [(AV.lit (.int .i64 ((kinM (q) (c)).mod))), (AV.sl 1 (is .i64 ((kinM (q) (c)).mul))), (AV.sl 1 (is .i64 ((kinM (q) (c)).add)))]))] Gd.none Wj_tZ24 rfl rfl rfl rfl rfl rfl ?_
              refine o_assign (nm .i64 (0)) Gd.none rfl ?_
              refine aops_end ?_
              refine hK9 _ ?_
              refine awp_ret ?_
              refine post_ret ⟨[(AV.agg [(AV.lit (.int .i64 ((kinM (q) (c)).mod))), (AV.sl 1 (is .i64 ((kinM (q) (c)).mul))), (AV.sl 1 (is .i64 ((kinM (q) (c)).add)))]), (nm .i64 (0))], And.intro ⟨2, (AO.var 24 [(AV.lit (.int .i64 ((kinM (q) (c)).mod))), (AV.sl 1 (is .i64 ((kinM (q) (c)).mul))), (AV.sl 1 (is .i64 ((kinM (q) (c)).add)))]), rfl, rfl, rfl, Or.inl ⟨Wj_tA24, AV.le_refl _⟩⟩ (And.intro (AV.le_refl _) (trivial)), rfl, ?_⟩
              have hk : kinOk q c := by unfold kinOk; first | omega | (refine ⟨?_, ?_, ?_, ?_, ?_, ?_⟩ <;> omega)
              exact tup_eq2 (congrArg mapV (if_pos hk)) (congrArg (nm .i64) (if_pos hk))

end Go.Proofs.YtkngglpnejdicaaDoor
