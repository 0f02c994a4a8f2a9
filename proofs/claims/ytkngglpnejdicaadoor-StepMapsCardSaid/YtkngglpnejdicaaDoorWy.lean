import Derived.Test.YtkngglpnejdicaaDoorWj
import Derived.Test.YtkngglpnejdicaaDoorAb17
set_option linter.unusedVariables false
set_option linter.unusedSimpArgs false
namespace Go.Proofs.YtkngglpnejdicaaDoor
open Go Go.Ab Go.Mth
theorem Wy_tO24 : tyZero cx.P 24 = some [(Go.Value.int IntKind.i64 0), (Go.Value.slice none 0 0), (Go.Value.slice none 0 0)] := by kernel_rfl
theorem Wy_tE22 : tyElem cx.P 22 = some (3, 1, 8) := by kernel_rfl
theorem Wy_tO3 : tyZero cx.P 3 = some [(Go.Value.int IntKind.i64 0)] := by kernel_rfl
theorem Wy_tP24 : tyPlaces cx.P 24 = some (fun i => (#[(0, 1), (1, 1), (2, 1)] : Array (Nat × Nat))[i]?) := by kernel_rfl
theorem Wy_tZ24 : tySize cx.P 24 = some 3 := by kernel_rfl
theorem Wy_tA24 : tyAgg cx.P 24 = some 3 := by kernel_rfl
theorem Wy_tC83 : callable cx.P 83 = true := by kernel_rfl
theorem c_skinM (q c : Int) : ECallsM cx 83 [(AV.lit (.int .i64 (q))), (AV.lit (.int .i64 (c)))] (.agg [.lit (.int .i64 (kinM q c).mod), .row 7001, .sl 1 (is .i64 (kinM q c).add)]) 7001 3 1 (is .i64 (kinM q c).mul) := by
  refine ecallsM_of_awp Tryd.func83 (c := _) rfl (Nat.le_of_ble_eq_true rfl) ?_
  show awp cx 10 _ (postM cx Tryd.f83 _ 7001 3 1 (is .i64 (kinM q c).mul)) ⟨[(0, (AV.lit (.int .i64 (q)))), (1, (AV.lit (.int .i64 (c))))], []⟩
  refine awp_seq fun K0 hK0 => ?_
  refine awp_region rfl ?_
  refine o_alloc 2 [(nm .i64 (0)), (AV.lit (.slice none 0 0)), (AV.lit (.slice none 0 0))] Gd.none Wy_tO24 rfl rfl rfl ?_
  refine aops_end ?_
  refine hK0 _ ?_
  refine awp_seq fun K1 hK1 => ?_
  refine awp_region rfl ?_
  refine o_move (AV.lit (.int .i64 (q))) Gd.none rfl ?_
  refine o_buildSlice 3 ([(nm .i64 (1)), (AV.lit (.int .i64 (q)))]) [(0, [(nm .i64 (1))]), (1, [(AV.lit (.int .i64 (q)))])] Gd.none Wy_tE22 rfl Wy_tO3 rfl rfl rfl rfl rfl rfl rfl ?_
  refine o_move (AV.lit (.int .i64 (c))) Gd.none rfl ?_
  refine o_buildSlice 4 ([(nm .i64 (0)), (AV.lit (.int .i64 (c)))]) [(0, [(nm .i64 (0))]), (1, [(AV.lit (.int .i64 (c)))])] Gd.none Wy_tE22 rfl Wy_tO3 rfl rfl rfl rfl rfl rfl rfl ?_
  refine o_build [(nm .i64 (2)), (AV.row 3), (AV.row 4)] [(0, [(nm .i64 (2))]), (1, [(AV.row 3)]), (2, [(AV.row 4)])] Gd.none Wy_tP24 Wy_tO24 rfl rfl rfl ?_
  refine o_store [(4, (AO.row 3 1 ([(nm .i64 (0)), (AV.lit (.int .i64 (c)))]))), (3, (AO.row 3 1 ([(nm .i64 (1)), (AV.lit (.int .i64 (q)))]))), (2, (AO.var 24 [(nm .i64 (2)), (AV.row 3), (AV.row 4)]))] Gd.none Wy_tZ24 rfl rfl rfl rfl rfl rfl ?_
  refine aops_end ?_
  refine hK1 _ ?_
  refine awp_wk (σ' := ⟨[(4, (AV.ref 2 (0)))], [(2, (AO.var 24 [(nm .i64 (2)), (AV.row 3), (AV.row 4)])), (3, (AO.row 3 1 ([(nm .i64 (1)), (AV.lit (.int .i64 (q)))]))), (4, (AO.row 3 1 ([(nm .i64 (0)), (AV.lit (.int .i64 (c)))])))]⟩) (Wk.sub (And.intro rfl (trivial)) (And.intro rfl (And.intro rfl (And.intro rfl (trivial))))) ?_
  refine awp_wk (σ' := ⟨[(4, (AV.ref 2 (0)))], [(2, (AO.var 24 [(nm .i64 (2)), (AV.row 3), (AV.sl 1 ([(nm .i64 (0)), (AV.lit (.int .i64 (c)))]))])), (3, (AO.row 3 1 ([(nm .i64 (1)), (AV.lit (.int .i64 (q)))])))]⟩) (Wk.freeze (id := 4) (e := 3) (sz := 1) (cs := ([(nm .i64 (0)), (AV.lit (.int .i64 (c)))])) rfl) ?_
  refine awp_wk (σ' := ⟨[(4, (AV.ref 2 (0)))], [(2, (AO.var 24 [(nm .i64 (2)), (AV.row 7001), (AV.sl 1 ([(nm .i64 (0)), (AV.lit (.int .i64 (c)))]))])), (7001, (AO.row 3 1 ([(nm .i64 (1)), (AV.lit (.int .i64 (q)))])))]⟩) (Wk.ren (id := 3) (id' := 7001) rfl) ?_
  refine awp_ret ?_
  refine postM_ret ⟨[(AV.agg [(nm .i64 (2)), (AV.row 7001), (AV.sl 1 ([(nm .i64 (0)), (AV.lit (.int .i64 (c)))]))])], And.intro ⟨2, (AO.var 24 [(nm .i64 (2)), (AV.row 7001), (AV.sl 1 ([(nm .i64 (0)), (AV.lit (.int .i64 (c)))]))]), rfl, rfl, rfl, Or.inl ⟨Wy_tA24, AV.le_refl _⟩⟩ (trivial), rfl, rfl, ?_⟩
  rfl

theorem c_sCollatzM  : ECallsM cx 43 [] (.agg [.lit (.int .i64 (kinM 3 1).mod), .row 7001, .sl 1 (is .i64 (kinM 3 1).add)]) 7001 3 1 (is .i64 (kinM 3 1).mul) := by
  refine ecallsM_of_awp Tryd.func43 (c := _) rfl (Nat.le_of_ble_eq_true rfl) ?_
  show awp cx 2 _ (postM cx Tryd.f43 _ 7001 3 1 (is .i64 (kinM 3 1).mul)) ⟨[], []⟩
  refine awp_seq fun K0 hK0 => ?_
  refine awp_region rfl ?_
  refine o_alloc 2 [(nm .i64 (0)), (AV.lit (.slice none 0 0)), (AV.lit (.slice none 0 0))] Gd.none Wy_tO24 rfl rfl rfl ?_
  refine aops_end ?_
  refine hK0 _ ?_
  refine awp_seq fun K1 hK1 => ?_
  refine awp_region rfl ?_
  refine o_callM 7001 [(nm .i64 (3)), (nm .i64 (1))] Gd.none Wy_tC83 rfl (c_skinM ((3 : Int)) ((1 : Int))) rfl ?_
  refine o_store [(7001, (AO.row 3 1 (is .i64 ((kinM ((3 : Int)) ((1 : Int))).mul)))), (2, (AO.var 24 [(AV.lit (.int .i64 ((kinM ((3 : Int)) ((1 : Int))).mod))), (AV.row 7001), (AV.sl 1 (is .i64 ((kinM ((3 : Int)) ((1 : Int))).add)))]))] Gd.none Wy_tZ24 rfl rfl rfl rfl rfl rfl ?_
  refine aops_end ?_
  refine hK1 _ ?_
  refine awp_wk (σ' := ⟨[(0, (AV.ref 2 (0)))], [(2, (AO.var 24 [(AV.lit (.int .i64 ((kinM ((3 : Int)) ((1 : Int))).mod))), (AV.row 7001), (AV.sl 1 (is .i64 ((kinM ((3 : Int)) ((1 : Int))).add)))])), (7001, (AO.row 3 1 (is .i64 ((kinM ((3 : Int)) ((1 : Int))).mul))))]⟩) (Wk.sub (And.intro rfl (trivial)) (And.intro rfl (And.intro rfl (trivial)))) ?_
  refine awp_ret ?_
  refine postM_ret ⟨[(AV.agg [(AV.lit (.int .i64 ((kinM ((3 : Int)) ((1 : Int))).mod))), (AV.row 7001), (AV.sl 1 (is .i64 ((kinM ((3 : Int)) ((1 : Int))).add)))])], And.intro ⟨2, (AO.var 24 [(AV.lit (.int .i64 ((kinM ((3 : Int)) ((1 : Int))).mod))), (AV.row 7001), (AV.sl 1 (is .i64 ((kinM ((3 : Int)) ((1 : Int))).add)))]), rfl, rfl, rfl, Or.inl ⟨Wy_tA24, AV.le_refl _⟩⟩ (trivial), rfl, rfl, ?_⟩
  rfl

theorem c_sKinM (q c : Int) (hk : kinOk q c) : ECallsM cx 38 [(AV.lit (.int .i64 (q))), (AV.lit (.int .i64 (c)))] (.tup [(.agg [.lit (.int .i64 (kinM q c).mod), .row 7001, .sl 1 (is .i64 (kinM q c).add)]), nm .i64 0]) 7001 3 1 (is .i64 (kinM q c).mul) := by
  refine ecallsM_of_awp Tryd.func38 (c := _) rfl (Nat.le_of_ble_eq_true rfl) ?_
  show awp cx 34 _ (postM cx Tryd.f38 _ 7001 3 1 (is .i64 (kinM q c).mul)) ⟨[(0, (AV.lit (.int .i64 (q)))), (1, (AV.lit (.int .i64 (c))))], []⟩
  obtain ⟨k1, k2, k3, k4, k5, k6⟩ := hk
  refine awp_seq fun K0 hK0 => ?_
  refine awp_region rfl ?_
  refine o_alloc 2 [(nm .i64 (0)), (AV.lit (.slice none 0 0)), (AV.lit (.slice none 0 0))] Gd.none Wy_tO24 rfl rfl rfl ?_
  refine o_assign (nm .i64 (0)) Gd.none rfl ?_
  refine aops_end ?_
  refine hK0 _ ?_
  refine awp_seq fun K1 hK1 => ?_
  refine awp_seq fun K2 hK2 => ?_
  refine awp_region rfl ?_
  refine o_move (AV.lit (.int .i64 (q))) Gd.none rfl ?_
  refine o_remT (a := (q)) (c := (((2 : Nat) : Int))) Gd.none rfl rfl (by omega) ?_
  refine o_eql (a := (Int.tmod (q) (((2 : Nat) : Int)))) (c := (((0 : Nat) : Int))) Gd.none rfl rfl ?_
  refine o_move (bp ((Int.tmod (q) (((2 : Nat) : Int))) = (((0 : Nat) : Int)))) Gd.none rfl ?_
  refine o_splitP (q := (Int.tmod (q) (((2 : Nat) : Int))) = (((0 : Nat) : Int))) 9 rfl (fun h1 => ?_) (fun h1 => ?_)
  · exact absurd h1 k5
  · refine o_move (AV.lit (.int .i64 (c))) (Gd.yes rfl rfl (decide_eq_false h1)) rfl ?_
    refine o_remT (a := (c)) (c := (((2 : Nat) : Int))) (Gd.yes rfl rfl (decide_eq_false h1)) rfl rfl (by omega) ?_
    refine o_eql (a := (Int.tmod (c) (((2 : Nat) : Int)))) (c := (((0 : Nat) : Int))) (Gd.yes rfl rfl (decide_eq_false h1)) rfl rfl ?_
    refine o_pickF (b := decide ((Int.tmod (q) (((2 : Nat) : Int))) = (((0 : Nat) : Int)))) (bp ((Int.tmod (c) (((2 : Nat) : Int))) = (((0 : Nat) : Int)))) Gd.none rfl (decide_eq_false h1) rfl ?_
    refine o_move (bp ((Int.tmod (c) (((2 : Nat) : Int))) = (((0 : Nat) : Int)))) Gd.none rfl ?_
    refine o_splitP (q := (Int.tmod (c) (((2 : Nat) : Int))) = (((0 : Nat) : Int))) 14 rfl (fun h2 => ?_) (fun h2 => ?_)
    · exact absurd h2 k6
    · refine o_move (AV.lit (.int .i64 (q))) (Gd.yes rfl rfl (decide_eq_false h2)) rfl ?_
      refine o_lss (a := (q)) (c := (((1 : Nat) : Int))) (Gd.yes rfl rfl (decide_eq_false h2)) rfl rfl ?_
      refine o_pickF (b := decide ((Int.tmod (c) (((2 : Nat) : Int))) = (((0 : Nat) : Int)))) (bp ((q) < (((1 : Nat) : Int)))) Gd.none rfl (decide_eq_false h2) rfl ?_
      refine o_move (bp ((q) < (((1 : Nat) : Int)))) Gd.none rfl ?_
      refine o_splitP (q := (q) < (((1 : Nat) : Int))) 18 rfl (fun h3 => ?_) (fun h3 => ?_)
      · exact absurd h3 (by omega)
      · refine o_move (AV.lit (.int .i64 (q))) (Gd.yes rfl rfl (decide_eq_false h3)) rfl ?_
        refine o_gtr (a := (q)) (c := (((999 : Nat) : Int))) (Gd.yes rfl rfl (decide_eq_false h3)) rfl rfl ?_
        refine o_pickF (b := decide ((q) < (((1 : Nat) : Int)))) (bp ((((999 : Nat) : Int)) < (q))) Gd.none rfl (decide_eq_false h3) rfl ?_
        refine o_move (bp ((((999 : Nat) : Int)) < (q))) Gd.none rfl ?_
        refine o_splitP (q := (((999 : Nat) : Int)) < (q)) 22 rfl (fun h4 => ?_) (fun h4 => ?_)
        · exact absurd h4 (by omega)
        · refine o_move (AV.lit (.int .i64 (c))) (Gd.yes rfl rfl (decide_eq_false h4)) rfl ?_
          refine o_lss (a := (c)) (c := ((-999999))) (Gd.yes rfl rfl (decide_eq_false h4)) rfl rfl ?_
          refine o_pickF (b := decide ((((999 : Nat) : Int)) < (q))) (bp ((c) < ((-999999)))) Gd.none rfl (decide_eq_false h4) rfl ?_
          refine o_move (bp ((c) < ((-999999)))) Gd.none rfl ?_
          refine o_splitP (q := (c) < ((-999999))) 26 rfl (fun h5 => ?_) (fun h5 => ?_)
          · exact absurd h5 (by omega)
          · refine o_move (AV.lit (.int .i64 (c))) (Gd.yes rfl rfl (decide_eq_false h5)) rfl ?_
            refine o_gtr (a := (c)) (c := (((999999 : Nat) : Int))) (Gd.yes rfl rfl (decide_eq_false h5)) rfl rfl ?_
            refine o_pickF (b := decide ((c) < ((-999999)))) (bp ((((999999 : Nat) : Int)) < (c))) Gd.none rfl (decide_eq_false h5) rfl ?_
            refine aops_end ?_
            refine hK2 _ ?_
            refine awp_condQ (q := (((999999 : Nat) : Int)) < (c)) rfl (fun h6 => ?_) (fun h6 => ?_)
            · exact absurd h6 (by omega)
            · refine awp_skip ?_
              refine hK1 _ ?_
              refine awp_seq fun K3 hK3 => ?_
              refine awp_region rfl ?_
              refine o_move (AV.lit (.int .i64 (q))) Gd.none rfl ?_
              refine o_move (AV.lit (.int .i64 (c))) Gd.none rfl ?_
              refine o_callM 7001 [(AV.lit (.int .i64 (q))), (AV.lit (.int .i64 (c)))] Gd.none Wy_tC83 rfl (c_skinM (q) (c)) rfl ?_
              refine o_store [(7001, (AO.row 3 1 (is .i64 ((kinM (q) (c)).mul)))), (2, (AO.var 24 [(AV.lit (.int .i64 ((kinM (q) (c)).mod))), (AV.row 7001), (AV.sl 1 (is .i64 ((kinM (q) (c)).add)))]))] Gd.none Wy_tZ24 rfl rfl rfl rfl rfl rfl ?_
              refine o_assign (nm .i64 (0)) Gd.none rfl ?_
              refine aops_end ?_
              refine hK3 _ ?_
              refine awp_wk (σ' := ⟨[(4, (AV.ref 2 (0))), (5, (nm .i64 (0)))], [(2, (AO.var 24 [(AV.lit (.int .i64 ((kinM (q) (c)).mod))), (AV.row 7001), (AV.sl 1 (is .i64 ((kinM (q) (c)).add)))])), (7001, (AO.row 3 1 (is .i64 ((kinM (q) (c)).mul))))]⟩) (Wk.sub (And.intro rfl (And.intro rfl (trivial))) (And.intro rfl (And.intro rfl (trivial)))) ?_
              refine awp_ret ?_
              refine postM_ret ⟨[(AV.agg [(AV.lit (.int .i64 ((kinM (q) (c)).mod))), (AV.row 7001), (AV.sl 1 (is .i64 ((kinM (q) (c)).add)))]), (nm .i64 (0))], And.intro ⟨2, (AO.var 24 [(AV.lit (.int .i64 ((kinM (q) (c)).mod))), (AV.row 7001), (AV.sl 1 (is .i64 ((kinM (q) (c)).add)))]), rfl, rfl, rfl, Or.inl ⟨Wy_tA24, AV.le_refl _⟩⟩ (And.intro (AV.le_refl _) (trivial)), rfl, rfl, ?_⟩
              rfl

end Go.Proofs.YtkngglpnejdicaaDoor
