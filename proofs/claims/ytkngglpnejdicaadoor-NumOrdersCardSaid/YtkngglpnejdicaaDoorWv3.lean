import Derived.Test.YtkngglpnejdicaaDoorWu
import Derived.Test.YtkngglpnejdicaaDoorLp
set_option linter.unusedVariables false
set_option linter.unusedSimpArgs false
namespace Go.Proofs.YtkngglpnejdicaaDoor
open Go Go.Ab Go.Mth
theorem Wv3_tC29 : callable cx.P 29 = true := by kernel_rfl
theorem Wv3_tC49 : callable cx.P 49 = true := by kernel_rfl
theorem Wv3_tC64 : callable cx.P 64 = true := by kernel_rfl
theorem Wv3_tB4 : cx.P.underlying 4 = some .bool := by kernel_rfl
theorem Wv3_tC56 : callable cx.P 56 = true := by kernel_rfl
theorem Wv3_tC52 : callable cx.P 52 = true := by kernel_rfl
theorem c_NumOrders (a b c : ByteArray) (hsz : a.size ≤ 9223372036854775807) (hsb : b.size ≤ 9223372036854775807) (hsc : c.size ≤ 9223372036854775807) : ECalls cx 14 [(AV.lit (.string (a))), (AV.lit (.string (b))), (AV.lit (.string (c)))] (.lit (.bool true)) := by
  refine ecalls_of_awp Tryd.func14 (c := _) rfl (Nat.le_of_ble_eq_true rfl) ?_
  show awp cx 114 _ (postF cx Tryd.f14 _) ⟨[(0, (AV.lit (.string (a)))), (1, (AV.lit (.string (b)))), (2, (AV.lit (.string (c))))], []⟩
  refine awp_seq fun K0 hK0 => ?_
  refine awp_region rfl ?_
  refine o_assign (AV.lit (.bool false)) Gd.none rfl ?_
  refine aops_end ?_
  refine hK0 _ ?_
  refine awp_seq fun K1 hK1 => ?_
  refine awp_seq fun K2 hK2 => ?_
  refine awp_region rfl ?_
  refine o_move (AV.lit (.string (a))) Gd.none rfl ?_
  refine o_call [(AV.lit (.string (a)))] (AV.lit (.bool (okS (a)))) Gd.none Wv3_tC29 rfl (c_rValid (a) (by first | assumption | decide | omega)) ?_
  refine o_not (b := okS (a)) Gd.none rfl ?_
  refine o_move (AV.lit (.bool (!(okS (a))))) Gd.none rfl ?_
  refine o_split (b := !(okS (a))) 22 rfl (fun h1 => ?_) (fun h1 => ?_)
  · refine o_skip (b := !(okS (a))) rfl rfl h1 ?_
    refine o_skip (b := !(okS (a))) rfl rfl h1 ?_
    refine o_skip (b := !(okS (a))) rfl rfl h1 ?_
    refine o_pickT (b := !(okS (a))) (AV.lit (.bool true)) Gd.none rfl h1 rfl ?_
    refine o_move (AV.lit (.bool true)) Gd.none rfl ?_
    refine o_skip (b := true) rfl rfl rfl ?_
    refine o_skip (b := true) rfl rfl rfl ?_
    refine o_skip (b := true) rfl rfl rfl ?_
    refine o_pickT (b := true) (AV.lit (.bool true)) Gd.none rfl rfl rfl ?_
    refine aops_end ?_
    refine hK2 _ ?_
    refine awp_condB (b := true) rfl (fun _ => ?_) (fun hh => absurd (hh.symm.trans rfl) (by decide))
    refine awp_seq fun K3 hK3 => ?_
    refine awp_region rfl ?_
    refine o_call [] (AV.lit (.bool true)) Gd.none Wv3_tC49 rfl c_l1Awake ?_
    refine o_assign (AV.lit (.bool true)) Gd.none rfl ?_
    refine aops_end ?_
    refine hK3 _ ?_
    refine awp_ret ?_
    refine post_ret ⟨[(AV.lit (.bool true))], And.intro (AV.le_refl _) (trivial), rfl, ?_⟩
    first | rfl | simp [bp]
  · have ha' : okS a = true := by simpa using h1
    refine o_move (AV.lit (.string (b))) (Gd.yes rfl rfl h1) rfl ?_
    refine o_call [(AV.lit (.string (b)))] (AV.lit (.bool (okS (b)))) (Gd.yes rfl rfl h1) Wv3_tC29 rfl (c_rValid (b) (by first | assumption | decide | omega)) ?_
    refine o_not (b := okS (b)) (Gd.yes rfl rfl h1) rfl ?_
    refine o_pickF (b := !(okS (a))) (AV.lit (.bool (!(okS (b))))) Gd.none rfl h1 rfl ?_
    refine o_move (AV.lit (.bool (!(okS (b))))) Gd.none rfl ?_
    refine o_split (b := !(okS (b))) 27 rfl (fun h2 => ?_) (fun h2 => ?_)
    · refine o_skip (b := !(okS (b))) rfl rfl h2 ?_
      refine o_skip (b := !(okS (b))) rfl rfl h2 ?_
      refine o_skip (b := !(okS (b))) rfl rfl h2 ?_
      refine o_pickT (b := !(okS (b))) (AV.lit (.bool true)) Gd.none rfl h2 rfl ?_
      refine aops_end ?_
      refine hK2 _ ?_
      refine awp_condB (b := true) rfl (fun _ => ?_) (fun hh => absurd (hh.symm.trans rfl) (by decide))
      refine awp_seq fun K4 hK4 => ?_
      refine awp_region rfl ?_
      refine o_call [] (AV.lit (.bool true)) Gd.none Wv3_tC49 rfl c_l1Awake ?_
      refine o_assign (AV.lit (.bool true)) Gd.none rfl ?_
      refine aops_end ?_
      refine hK4 _ ?_
      refine awp_ret ?_
      refine post_ret ⟨[(AV.lit (.bool true))], And.intro (AV.le_refl _) (trivial), rfl, ?_⟩
      first | rfl | simp [bp]
    · have hb' : okS b = true := by simpa using h2
      refine o_move (AV.lit (.string (c))) (Gd.yes rfl rfl h2) rfl ?_
      refine o_call [(AV.lit (.string (c)))] (AV.lit (.bool (okS (c)))) (Gd.yes rfl rfl h2) Wv3_tC29 rfl (c_rValid (c) (by first | assumption | decide | omega)) ?_
      refine o_not (b := okS (c)) (Gd.yes rfl rfl h2) rfl ?_
      refine o_pickF (b := !(okS (b))) (AV.lit (.bool (!(okS (c))))) Gd.none rfl h2 rfl ?_
      refine aops_end ?_
      refine hK2 _ ?_
      refine awp_condB (b := !(okS (c))) rfl (fun h3 => ?_) (fun h3 => ?_)
      · refine awp_seq fun K5 hK5 => ?_
        refine awp_region rfl ?_
        refine o_call [] (AV.lit (.bool true)) Gd.none Wv3_tC49 rfl c_l1Awake ?_
        refine o_assign (AV.lit (.bool true)) Gd.none rfl ?_
        refine aops_end ?_
        refine hK5 _ ?_
        refine awp_ret ?_
        refine post_ret ⟨[(AV.lit (.bool true))], And.intro (AV.le_refl _) (trivial), rfl, ?_⟩
        first | rfl | simp [bp]
      · have hc' : okS c = true := by simpa using h3
        have hst : (if okS a && okS b then toldS (numS a - numS b) else ({ data := #[] } : ByteArray)).size ≤ 9223372036854775807 := by split; exact told_sz _; decide
        have hs1 := sum_sz a c
        have hs2 := sum_sz b c
        have hcb := cmpZ_bd (numS b) (numS a)
        refine awp_skip ?_
        refine hK1 _ ?_
        refine awp_seq fun K6 hK6 => ?_
        refine awp_region rfl ?_
        refine o_move (AV.lit (.string (a))) Gd.none rfl ?_
        refine o_move (AV.lit (.string (b))) Gd.none rfl ?_
        refine o_call [(AV.lit (.string (a))), (AV.lit (.string (b)))] (AV.tup [(AV.lit (.int .i64 ((if okS (a) && okS (b) then (cmpZ (numS (a)) (numS (b))) else (0))))), (nm .i64 ((if okS (a) && okS (b) then (0) else (1))))]) Gd.none Wv3_tC64 rfl (c_nCompare (a) (b) (by first | assumption | decide | omega) (by first | assumption | decide | omega)) ?_
        refine o_move (AV.tup [(AV.lit (.int .i64 ((if okS (a) && okS (b) then (cmpZ (numS (a)) (numS (b))) else (0))))), (nm .i64 ((if okS (a) && okS (b) then (0) else (1))))]) Gd.none rfl ?_
        refine o_extract (AV.lit (.int .i64 ((if okS (a) && okS (b) then (cmpZ (numS (a)) (numS (b))) else (0))))) Gd.none rfl rfl ?_
        refine o_extract (nm .i64 ((if okS (a) && okS (b) then (0) else (1)))) Gd.none rfl rfl ?_
        refine o_assign (AV.lit (.int .i64 ((if okS (a) && okS (b) then (cmpZ (numS (a)) (numS (b))) else (0))))) Gd.none rfl ?_
        refine o_assign (nm .i64 ((if okS (a) && okS (b) then (0) else (1)))) Gd.none rfl ?_
        refine aops_end ?_
        refine hK6 _ ?_
        refine awp_seq fun K7 hK7 => ?_
        refine awp_region rfl ?_
        refine o_move (AV.lit (.string (b))) Gd.none rfl ?_
        refine o_move (AV.lit (.string (a))) Gd.none rfl ?_
        refine o_call [(AV.lit (.string (b))), (AV.lit (.string (a)))] (AV.tup [(AV.lit (.int .i64 ((if okS (b) && okS (a) then (cmpZ (numS (b)) (numS (a))) else (0))))), (nm .i64 ((if okS (b) && okS (a) then (0) else (1))))]) Gd.none Wv3_tC64 rfl (c_nCompare (b) (a) (by first | assumption | decide | omega) (by first | assumption | decide | omega)) ?_
        refine o_move (AV.tup [(AV.lit (.int .i64 ((if okS (b) && okS (a) then (cmpZ (numS (b)) (numS (a))) else (0))))), (nm .i64 ((if okS (b) && okS (a) then (0) else (1))))]) Gd.none rfl ?_
        refine o_extract (AV.lit (.int .i64 ((if okS (b) && okS (a) then (cmpZ (numS (b)) (numS (a))) else (0))))) Gd.none rfl rfl ?_
        refine o_extract (nm .i64 ((if okS (b) && okS (a) then (0) else (1)))) Gd.none rfl rfl ?_
        refine o_assign (AV.lit (.int .i64 ((if okS (b) && okS (a) then (cmpZ (numS (b)) (numS (a))) else (0))))) Gd.none rfl ?_
        refine o_assign (nm .i64 ((if okS (b) && okS (a) then (0) else (1)))) Gd.none rfl ?_
        refine aops_end ?_
        refine hK7 _ ?_
        refine awp_seq fun K8 hK8 => ?_
        refine awp_seq fun K9 hK9 => ?_
        refine awp_region rfl ?_
        refine o_move (nm .i64 ((if okS (a) && okS (b) then (0) else (1)))) Gd.none rfl ?_
        refine n_neq ((if okS (a) && okS (b) then (0) else (1))) (0) Gd.none rfl rfl ?_
        refine o_move (bp (((if okS (a) && okS (b) then (0) else (1))) ≠ (0))) Gd.none rfl ?_
        refine o_splitP (q := ((if okS (a) && okS (b) then (0) else (1))) ≠ (0)) 47 rfl (fun h4 => ?_) (fun h4 => ?_)
        · refine o_skip (b := decide (((if okS (a) && okS (b) then (0) else (1))) ≠ (0))) rfl rfl (decide_eq_true h4) ?_
          refine o_skip (b := decide (((if okS (a) && okS (b) then (0) else (1))) ≠ (0))) rfl rfl (decide_eq_true h4) ?_
          refine o_pickT (b := decide (((if okS (a) && okS (b) then (0) else (1))) ≠ (0))) (AV.lit (.bool true)) Gd.none rfl (decide_eq_true h4) rfl ?_
          refine o_move (AV.lit (.bool true)) Gd.none rfl ?_
          refine o_skip (b := true) rfl rfl rfl ?_
          refine o_skip (b := true) rfl rfl rfl ?_
          refine o_skip (b := true) rfl rfl rfl ?_
          refine o_skip (b := true) rfl rfl rfl ?_
          refine o_pickT (b := true) (AV.lit (.bool true)) Gd.none rfl rfl rfl ?_
          refine o_move (AV.lit (.bool true)) Gd.none rfl ?_
          refine o_skip (b := true) rfl rfl rfl ?_
          refine o_skip (b := true) rfl rfl rfl ?_
          refine o_skip (b := true) rfl rfl rfl ?_
          refine o_skip (b := true) rfl rfl rfl ?_
          refine o_skip (b := true) rfl rfl rfl ?_
          refine o_skip (b := true) rfl rfl rfl ?_
          refine o_pickT (b := true) (AV.lit (.bool true)) Gd.none rfl rfl rfl ?_
          refine aops_end ?_
          refine hK9 _ ?_
          refine awp_condB (b := true) rfl (fun _ => ?_) (fun hh => absurd (hh.symm.trans rfl) (by decide))
          refine awp_seq fun K10 hK10 => ?_
          refine awp_region rfl ?_
          refine o_assign (AV.lit (.bool false)) Gd.none rfl ?_
          refine aops_end ?_
          refine hK10 _ ?_
          refine awp_ret ?_
          refine post_ret ⟨[(AV.lit (.bool false))], And.intro (AV.le_refl _) (trivial), rfl, ?_⟩
          exact absurd (by rw [ha', hb']; rfl) h4
        · refine o_move (nm .i64 ((if okS (b) && okS (a) then (0) else (1)))) (Gd.yes rfl rfl (decide_eq_false h4)) rfl ?_
          refine n_neq ((if okS (b) && okS (a) then (0) else (1))) (0) (Gd.yes rfl rfl (decide_eq_false h4)) rfl rfl ?_
          refine o_pickF (b := decide (((if okS (a) && okS (b) then (0) else (1))) ≠ (0))) (bp (((if okS (b) && okS (a) then (0) else (1))) ≠ (0))) Gd.none rfl (decide_eq_false h4) rfl ?_
          refine o_move (bp (((if okS (b) && okS (a) then (0) else (1))) ≠ (0))) Gd.none rfl ?_
          refine o_splitP (q := ((if okS (b) && okS (a) then (0) else (1))) ≠ (0)) 51 rfl (fun h5 => ?_) (fun h5 => ?_)
          · refine o_skip (b := decide (((if okS (b) && okS (a) then (0) else (1))) ≠ (0))) rfl rfl (decide_eq_true h5) ?_
            refine o_skip (b := decide (((if okS (b) && okS (a) then (0) else (1))) ≠ (0))) rfl rfl (decide_eq_true h5) ?_
            refine o_skip (b := decide (((if okS (b) && okS (a) then (0) else (1))) ≠ (0))) rfl rfl (decide_eq_true h5) ?_
            refine o_skip (b := decide (((if okS (b) && okS (a) then (0) else (1))) ≠ (0))) rfl rfl (decide_eq_true h5) ?_
            refine o_pickT (b := decide (((if okS (b) && okS (a) then (0) else (1))) ≠ (0))) (AV.lit (.bool true)) Gd.none rfl (decide_eq_true h5) rfl ?_
            refine o_move (AV.lit (.bool true)) Gd.none rfl ?_
            refine o_skip (b := true) rfl rfl rfl ?_
            refine o_skip (b := true) rfl rfl rfl ?_
            refine o_skip (b := true) rfl rfl rfl ?_
            refine o_skip (b := true) rfl rfl rfl ?_
            refine o_skip (b := true) rfl rfl rfl ?_
            refine o_skip (b := true) rfl rfl rfl ?_
            refine o_pickT (b := true) (AV.lit (.bool true)) Gd.none rfl rfl rfl ?_
            refine aops_end ?_
            refine hK9 _ ?_
            refine awp_condB (b := true) rfl (fun _ => ?_) (fun hh => absurd (hh.symm.trans rfl) (by decide))
            refine awp_seq fun K11 hK11 => ?_
            refine awp_region rfl ?_
            refine o_assign (AV.lit (.bool false)) Gd.none rfl ?_
            refine aops_end ?_
            refine hK11 _ ?_
            refine awp_ret ?_
            refine post_ret ⟨[(AV.lit (.bool false))], And.intro (AV.le_refl _) (trivial), rfl, ?_⟩
            exact absurd (by rw [ha', hb']; rfl) h5
          · refine o_move (AV.lit (.int .i64 ((if okS (a) && okS (b) then (cmpZ (numS (a)) (numS (b))) else (0))))) (Gd.yes rfl rfl (decide_eq_false h5)) rfl ?_
            refine o_move (AV.lit (.int .i64 ((if okS (b) && okS (a) then (cmpZ (numS (b)) (numS (a))) else (0))))) (Gd.yes rfl rfl (decide_eq_false h5)) rfl ?_
            refine o_neg (a := (if okS (b) && okS (a) then (cmpZ (numS (b)) (numS (a))) else (0))) (Gd.yes rfl rfl (decide_eq_false h5)) rfl (by exact wrap64 (by omega) (by omega)) ?_
            refine o_neq (a := ((if okS (a) && okS (b) then (cmpZ (numS (a)) (numS (b))) else (0)))) (c := (-((if okS (b) && okS (a) then (cmpZ (numS (b)) (numS (a))) else (0))))) (Gd.yes rfl rfl (decide_eq_false h5)) rfl rfl ?_
            refine o_pickF (b := decide (((if okS (b) && okS (a) then (0) else (1))) ≠ (0))) (bp (((if okS (a) && okS (b) then (cmpZ (numS (a)) (numS (b))) else (0))) ≠ (-((if okS (b) && okS (a) then (cmpZ (numS (b)) (numS (a))) else (0)))))) Gd.none rfl (decide_eq_false h5) rfl ?_
            refine o_move (bp (((if okS (a) && okS (b) then (cmpZ (numS (a)) (numS (b))) else (0))) ≠ (-((if okS (b) && okS (a) then (cmpZ (numS (b)) (numS (a))) else (0)))))) Gd.none rfl ?_
            refine o_splitP (q := ((if okS (a) && okS (b) then (cmpZ (numS (a)) (numS (b))) else (0))) ≠ (-((if okS (b) && okS (a) then (cmpZ (numS (b)) (numS (a))) else (0))))) 57 rfl (fun h6 => ?_) (fun h6 => ?_)
            · refine o_skip (b := decide (((if okS (a) && okS (b) then (cmpZ (numS (a)) (numS (b))) else (0))) ≠ (-((if okS (b) && okS (a) then (cmpZ (numS (b)) (numS (a))) else (0)))))) rfl rfl (decide_eq_true h6) ?_
              refine o_skip (b := decide (((if okS (a) && okS (b) then (cmpZ (numS (a)) (numS (b))) else (0))) ≠ (-((if okS (b) && okS (a) then (cmpZ (numS (b)) (numS (a))) else (0)))))) rfl rfl (decide_eq_true h6) ?_
              refine o_skip (b := decide (((if okS (a) && okS (b) then (cmpZ (numS (a)) (numS (b))) else (0))) ≠ (-((if okS (b) && okS (a) then (cmpZ (numS (b)) (numS (a))) else (0)))))) rfl rfl (decide_eq_true h6) ?_
              refine o_skip (b := decide (((if okS (a) && okS (b) then (cmpZ (numS (a)) (numS (b))) else (0))) ≠ (-((if okS (b) && okS (a) then (cmpZ (numS (b)) (numS (a))) else (0)))))) rfl rfl (decide_eq_true h6) ?_
              refine o_skip (b := decide (((if okS (a) && okS (b) then (cmpZ (numS (a)) (numS (b))) else (0))) ≠ (-((if okS (b) && okS (a) then (cmpZ (numS (b)) (numS (a))) else (0)))))) rfl rfl (decide_eq_true h6) ?_
              refine o_skip (b := decide (((if okS (a) && okS (b) then (cmpZ (numS (a)) (numS (b))) else (0))) ≠ (-((if okS (b) && okS (a) then (cmpZ (numS (b)) (numS (a))) else (0)))))) rfl rfl (decide_eq_true h6) ?_
              refine o_pickT (b := decide (((if okS (a) && okS (b) then (cmpZ (numS (a)) (numS (b))) else (0))) ≠ (-((if okS (b) && okS (a) then (cmpZ (numS (b)) (numS (a))) else (0)))))) (AV.lit (.bool true)) Gd.none rfl (decide_eq_true h6) rfl ?_
              refine aops_end ?_
              refine hK9 _ ?_
              refine awp_condB (b := true) rfl (fun _ => ?_) (fun hh => absurd (hh.symm.trans rfl) (by decide))
              refine awp_seq fun K12 hK12 => ?_
              refine awp_region rfl ?_
              refine o_assign (AV.lit (.bool false)) Gd.none rfl ?_
              refine aops_end ?_
              refine hK12 _ ?_
              refine awp_ret ?_
              refine post_ret ⟨[(AV.lit (.bool false))], And.intro (AV.le_refl _) (trivial), rfl, ?_⟩
              exact absurd (order1 ha' hb') h6
            · refine o_move (AV.lit (.int .i64 ((if okS (a) && okS (b) then (cmpZ (numS (a)) (numS (b))) else (0))))) (Gd.yes rfl rfl (decide_eq_false h6)) rfl ?_
              refine o_eql (a := ((if okS (a) && okS (b) then (cmpZ (numS (a)) (numS (b))) else (0)))) (c := (((0 : Nat) : Int))) (Gd.yes rfl rfl (decide_eq_false h6)) rfl rfl ?_
              refine o_move (AV.lit (.string (a))) (Gd.yes rfl rfl (decide_eq_false h6)) rfl ?_
              refine o_move (AV.lit (.string (b))) (Gd.yes rfl rfl (decide_eq_false h6)) rfl ?_
              refine o_eqlS (a := (a)) (c := (b)) (Gd.yes rfl rfl (decide_eq_false h6)) rfl rfl ?_
              refine o_neqB (a := (decide (((if okS (a) && okS (b) then (cmpZ (numS (a)) (numS (b))) else (0))) = (((0 : Nat) : Int))))) (c := (decide ((a).toList = (b).toList))) (Gd.yes rfl rfl (decide_eq_false h6)) rfl rfl Wv3_tB4 ?_
              refine o_pickF (b := decide (((if okS (a) && okS (b) then (cmpZ (numS (a)) (numS (b))) else (0))) ≠ (-((if okS (b) && okS (a) then (cmpZ (numS (b)) (numS (a))) else (0)))))) (bp ((decide (((if okS (a) && okS (b) then (cmpZ (numS (a)) (numS (b))) else (0))) = (((0 : Nat) : Int)))) ≠ (decide ((a).toList = (b).toList)))) Gd.none rfl (decide_eq_false h6) rfl ?_
              refine aops_end ?_
              refine hK9 _ ?_
              refine awp_condQ (q := (decide (((if okS (a) && okS (b) then (cmpZ (numS (a)) (numS (b))) else (0))) = (((0 : Nat) : Int)))) ≠ (decide ((a).toList = (b).toList))) rfl (fun h7 => ?_) (fun h7 => ?_)
              · refine awp_seq fun K13 hK13 => ?_
                refine awp_region rfl ?_
                refine o_assign (AV.lit (.bool false)) Gd.none rfl ?_
                refine aops_end ?_
                refine hK13 _ ?_
                refine awp_ret ?_
                refine post_ret ⟨[(AV.lit (.bool false))], And.intro (AV.le_refl _) (trivial), rfl, ?_⟩
                exact absurd (order2 ha' hb') h7
              · refine awp_skip ?_
                refine hK8 _ ?_
                refine awp_seq fun K14 hK14 => ?_
                refine awp_region rfl ?_
                refine o_move (AV.lit (.string (a))) Gd.none rfl ?_
                refine o_move (AV.lit (.string (b))) Gd.none rfl ?_
                refine o_call [(AV.lit (.string (a))), (AV.lit (.string (b)))] (AV.tup [(AV.lit (.string ((if okS (a) && okS (b) then (toldS (numS (a) - numS (b))) else (({ data := #[] } : ByteArray)))))), (nm .i64 ((if okS (a) && okS (b) then (toldE (numS (a) - numS (b))) else (1))))]) Gd.none Wv3_tC56 rfl (c_nSub (a) (b) (by first | assumption | decide | omega) (by first | assumption | decide | omega)) ?_
                refine o_move (AV.tup [(AV.lit (.string ((if okS (a) && okS (b) then (toldS (numS (a) - numS (b))) else (({ data := #[] } : ByteArray)))))), (nm .i64 ((if okS (a) && okS (b) then (toldE (numS (a) - numS (b))) else (1))))]) Gd.none rfl ?_
                refine o_extract (AV.lit (.string ((if okS (a) && okS (b) then (toldS (numS (a) - numS (b))) else (({ data := #[] } : ByteArray)))))) Gd.none rfl rfl ?_
                refine o_extract (nm .i64 ((if okS (a) && okS (b) then (toldE (numS (a) - numS (b))) else (1)))) Gd.none rfl rfl ?_
                refine o_assign (AV.lit (.string ((if okS (a) && okS (b) then (toldS (numS (a) - numS (b))) else (({ data := #[] } : ByteArray)))))) Gd.none rfl ?_
                refine o_assign (nm .i64 ((if okS (a) && okS (b) then (toldE (numS (a) - numS (b))) else (1)))) Gd.none rfl ?_
                refine aops_end ?_
                refine hK14 _ ?_
                refine awp_seq fun K15 hK15 => ?_
                refine awp_seq fun K16 hK16 => ?_
                refine awp_region rfl ?_
                refine o_move (nm .i64 ((if okS (a) && okS (b) then (toldE (numS (a) - numS (b))) else (1)))) Gd.none rfl ?_
                refine n_eql ((if okS (a) && okS (b) then (toldE (numS (a) - numS (b))) else (1))) (0) Gd.none rfl rfl ?_
                refine aops_end ?_
                refine hK16 _ ?_
                refine awp_condQ (q := ((if okS (a) && okS (b) then (toldE (numS (a) - numS (b))) else (1))) = (0)) rfl (fun h8 => ?_) (fun h8 => ?_)
                · refine awp_seq fun K17 hK17 => ?_
                  refine awp_region rfl ?_
                  refine o_move (AV.lit (.string ((if okS (a) && okS (b) then (toldS (numS (a) - numS (b))) else (({ data := #[] } : ByteArray)))))) Gd.none rfl ?_
                  refine o_call [(AV.lit (.string ((if okS (a) && okS (b) then (toldS (numS (a) - numS (b))) else (({ data := #[] } : ByteArray)))))), (AV.lit (.string (({data := #[48]} : ByteArray))))] (AV.tup [(AV.lit (.int .i64 ((if okS ((if okS (a) && okS (b) then (toldS (numS (a) - numS (b))) else (({ data := #[] } : ByteArray)))) && okS (({data := #[48]} : ByteArray)) then (cmpZ (numS ((if okS (a) && okS (b) then (toldS (numS (a) - numS (b))) else (({ data := #[] } : ByteArray))))) (numS (({data := #[48]} : ByteArray)))) else (0))))), (nm .i64 ((if okS ((if okS (a) && okS (b) then (toldS (numS (a) - numS (b))) else (({ data := #[] } : ByteArray)))) && okS (({data := #[48]} : ByteArray)) then (0) else (1))))]) Gd.none Wv3_tC64 rfl (c_nCompare ((if okS (a) && okS (b) then (toldS (numS (a) - numS (b))) else (({ data := #[] } : ByteArray)))) (({data := #[48]} : ByteArray)) (by first | assumption | decide | omega) (by first | assumption | decide | omega)) ?_
                  refine o_move (AV.tup [(AV.lit (.int .i64 ((if okS ((if okS (a) && okS (b) then (toldS (numS (a) - numS (b))) else (({ data := #[] } : ByteArray)))) && okS (({data := #[48]} : ByteArray)) then (cmpZ (numS ((if okS (a) && okS (b) then (toldS (numS (a) - numS (b))) else (({ data := #[] } : ByteArray))))) (numS (({data := #[48]} : ByteArray)))) else (0))))), (nm .i64 ((if okS ((if okS (a) && okS (b) then (toldS (numS (a) - numS (b))) else (({ data := #[] } : ByteArray)))) && okS (({data := #[48]} : ByteArray)) then (0) else (1))))]) Gd.none rfl ?_
                  refine o_extract (AV.lit (.int .i64 ((if okS ((if okS (a) && okS (b) then (toldS (numS (a) - numS (b))) else (({ data := #[] } : ByteArray)))) && okS (({data := #[48]} : ByteArray)) then (cmpZ (numS ((if okS (a) && okS (b) then (toldS (numS (a) - numS (b))) else (({ data := #[] } : ByteArray))))) (numS (({data := #[48]} : ByteArray)))) else (0))))) Gd.none rfl rfl ?_
                  refine o_extract (nm .i64 ((if okS ((if okS (a) && okS (b) then (toldS (numS (a) - numS (b))) else (({ data := #[] } : ByteArray)))) && okS (({data := #[48]} : ByteArray)) then (0) else (1)))) Gd.none rfl rfl ?_
                  refine o_assign (AV.lit (.int .i64 ((if okS ((if okS (a) && okS (b) then (toldS (numS (a) - numS (b))) else (({ data := #[] } : ByteArray)))) && okS (({data := #[48]} : ByteArray)) then (cmpZ (numS ((if okS (a) && okS (b) then (toldS (numS (a) - numS (b))) else (({ data := #[] } : ByteArray))))) (numS (({data := #[48]} : ByteArray)))) else (0))))) Gd.none rfl ?_
                  refine o_assign (nm .i64 ((if okS ((if okS (a) && okS (b) then (toldS (numS (a) - numS (b))) else (({ data := #[] } : ByteArray)))) && okS (({data := #[48]} : ByteArray)) then (0) else (1)))) Gd.none rfl ?_
                  refine aops_end ?_
                  refine hK17 _ ?_
                  refine awp_seq fun K18 hK18 => ?_
                  refine awp_region rfl ?_
                  refine o_move (nm .i64 ((if okS ((if okS (a) && okS (b) then (toldS (numS (a) - numS (b))) else (({ data := #[] } : ByteArray)))) && okS (({data := #[48]} : ByteArray)) then (0) else (1)))) Gd.none rfl ?_
                  refine n_neq ((if okS ((if okS (a) && okS (b) then (toldS (numS (a) - numS (b))) else (({ data := #[] } : ByteArray)))) && okS (({data := #[48]} : ByteArray)) then (0) else (1))) (0) Gd.none rfl rfl ?_
                  refine o_move (bp (((if okS ((if okS (a) && okS (b) then (toldS (numS (a) - numS (b))) else (({ data := #[] } : ByteArray)))) && okS (({data := #[48]} : ByteArray)) then (0) else (1))) ≠ (0))) Gd.none rfl ?_
                  refine o_splitP (q := ((if okS ((if okS (a) && okS (b) then (toldS (numS (a) - numS (b))) else (({ data := #[] } : ByteArray)))) && okS (({data := #[48]} : ByteArray)) then (0) else (1))) ≠ (0)) 80 rfl (fun h9 => ?_) (fun h9 => ?_)
                  · refine o_skip (b := decide (((if okS ((if okS (a) && okS (b) then (toldS (numS (a) - numS (b))) else (({ data := #[] } : ByteArray)))) && okS (({data := #[48]} : ByteArray)) then (0) else (1))) ≠ (0))) rfl rfl (decide_eq_true h9) ?_
                    refine o_skip (b := decide (((if okS ((if okS (a) && okS (b) then (toldS (numS (a) - numS (b))) else (({ data := #[] } : ByteArray)))) && okS (({data := #[48]} : ByteArray)) then (0) else (1))) ≠ (0))) rfl rfl (decide_eq_true h9) ?_
                    refine o_skip (b := decide (((if okS ((if okS (a) && okS (b) then (toldS (numS (a) - numS (b))) else (({ data := #[] } : ByteArray)))) && okS (({data := #[48]} : ByteArray)) then (0) else (1))) ≠ (0))) rfl rfl (decide_eq_true h9) ?_
                    refine o_pickT (b := decide (((if okS ((if okS (a) && okS (b) then (toldS (numS (a) - numS (b))) else (({ data := #[] } : ByteArray)))) && okS (({data := #[48]} : ByteArray)) then (0) else (1))) ≠ (0))) (AV.lit (.bool true)) Gd.none rfl (decide_eq_true h9) rfl ?_
                    refine aops_end ?_
                    refine hK18 _ ?_
                    refine awp_condB (b := true) rfl (fun _ => ?_) (fun hh => absurd (hh.symm.trans rfl) (by decide))
                    refine awp_seq fun K19 hK19 => ?_
                    refine awp_region rfl ?_
                    refine o_assign (AV.lit (.bool false)) Gd.none rfl ?_
                    refine aops_end ?_
                    refine hK19 _ ?_
                    refine awp_ret ?_
                    refine post_ret ⟨[(AV.lit (.bool false))], And.intro (AV.le_refl _) (trivial), rfl, ?_⟩
                    exact absurd (order3 ha' hb' h8).1 h9
                  · refine o_move (AV.lit (.int .i64 ((if okS ((if okS (a) && okS (b) then (toldS (numS (a) - numS (b))) else (({ data := #[] } : ByteArray)))) && okS (({data := #[48]} : ByteArray)) then (cmpZ (numS ((if okS (a) && okS (b) then (toldS (numS (a) - numS (b))) else (({ data := #[] } : ByteArray))))) (numS (({data := #[48]} : ByteArray)))) else (0))))) (Gd.yes rfl rfl (decide_eq_false h9)) rfl ?_
                    refine o_move (AV.lit (.int .i64 ((if okS (a) && okS (b) then (cmpZ (numS (a)) (numS (b))) else (0))))) (Gd.yes rfl rfl (decide_eq_false h9)) rfl ?_
                    refine o_neq (a := ((if okS ((if okS (a) && okS (b) then (toldS (numS (a) - numS (b))) else (({ data := #[] } : ByteArray)))) && okS (({data := #[48]} : ByteArray)) then (cmpZ (numS ((if okS (a) && okS (b) then (toldS (numS (a) - numS (b))) else (({ data := #[] } : ByteArray))))) (numS (({data := #[48]} : ByteArray)))) else (0)))) (c := ((if okS (a) && okS (b) then (cmpZ (numS (a)) (numS (b))) else (0)))) (Gd.yes rfl rfl (decide_eq_false h9)) rfl rfl ?_
                    refine o_pickF (b := decide (((if okS ((if okS (a) && okS (b) then (toldS (numS (a) - numS (b))) else (({ data := #[] } : ByteArray)))) && okS (({data := #[48]} : ByteArray)) then (0) else (1))) ≠ (0))) (bp (((if okS ((if okS (a) && okS (b) then (toldS (numS (a) - numS (b))) else (({ data := #[] } : ByteArray)))) && okS (({data := #[48]} : ByteArray)) then (cmpZ (numS ((if okS (a) && okS (b) then (toldS (numS (a) - numS (b))) else (({ data := #[] } : ByteArray))))) (numS (({data := #[48]} : ByteArray)))) else (0))) ≠ ((if okS (a) && okS (b) then (cmpZ (numS (a)) (numS (b))) else (0))))) Gd.none rfl (decide_eq_false h9) rfl ?_
                    refine aops_end ?_
                    refine hK18 _ ?_
                    refine awp_condQ (q := ((if okS ((if okS (a) && okS (b) then (toldS (numS (a) - numS (b))) else (({ data := #[] } : ByteArray)))) && okS (({data := #[48]} : ByteArray)) then (cmpZ (numS ((if okS (a) && okS (b) then (toldS (numS (a) - numS (b))) else (({ data := #[] } : ByteArray))))) (numS (({data := #[48]} : ByteArray)))) else (0))) ≠ ((if okS (a) && okS (b) then (cmpZ (numS (a)) (numS (b))) else (0)))) rfl (fun h10 => ?_) (fun h10 => ?_)
                    · refine awp_seq fun K20 hK20 => ?_
                      refine awp_region rfl ?_
                      refine o_assign (AV.lit (.bool false)) Gd.none rfl ?_
                      refine aops_end ?_
                      refine hK20 _ ?_
                      refine awp_ret ?_
                      refine post_ret ⟨[(AV.lit (.bool false))], And.intro (AV.le_refl _) (trivial), rfl, ?_⟩
                      exact absurd (order3 ha' hb' h8).2 h10
                    · refine awp_skip ?_
                      refine hK15 _ ?_
                      refine awp_seq fun K21 hK21 => ?_
                      refine awp_region rfl ?_
                      refine o_move (AV.lit (.string (a))) Gd.none rfl ?_
                      refine o_move (AV.lit (.string (c))) Gd.none rfl ?_
                      refine o_call [(AV.lit (.string (a))), (AV.lit (.string (c)))] (AV.lit (.string (sumS (a) (c)))) Gd.none Wv3_tC52 rfl (c_l1Sum (a) (c) (by first | assumption | decide | omega | exact sum_sz _ _ | exact pro_sz _ _) (by first | assumption | decide | omega | exact sum_sz _ _ | exact pro_sz _ _)) ?_
                      refine o_move (AV.lit (.string (b))) Gd.none rfl ?_
                      refine o_move (AV.lit (.string (c))) Gd.none rfl ?_
                      refine o_call [(AV.lit (.string (b))), (AV.lit (.string (c)))] (AV.lit (.string (sumS (b) (c)))) Gd.none Wv3_tC52 rfl (c_l1Sum (b) (c) (by first | assumption | decide | omega | exact sum_sz _ _ | exact pro_sz _ _) (by first | assumption | decide | omega | exact sum_sz _ _ | exact pro_sz _ _)) ?_
                      refine o_assign (AV.lit (.string (sumS (a) (c)))) Gd.none rfl ?_
                      refine o_assign (AV.lit (.string (sumS (b) (c)))) Gd.none rfl ?_
                      refine aops_end ?_
                      refine hK21 _ ?_
                      refine awp_seq fun K22 hK22 => ?_
                      refine awp_seq fun K23 hK23 => ?_
                      refine awp_region rfl ?_
                      refine o_move (AV.lit (.string (sumS (a) (c)))) Gd.none rfl ?_
                      refine o_eqlS (a := (sumS (a) (c))) (c := (({data := #[]} : ByteArray))) Gd.none rfl rfl ?_
                      refine o_move (bp ((sumS (a) (c)).toList = (({data := #[]} : ByteArray)).toList)) Gd.none rfl ?_
                      refine o_splitP (q := (sumS (a) (c)).toList = (({data := #[]} : ByteArray)).toList) 93 rfl (fun h11 => ?_) (fun h11 => ?_)
                      · refine o_skip (b := decide ((sumS (a) (c)).toList = (({data := #[]} : ByteArray)).toList)) rfl rfl (decide_eq_true h11) ?_
                        refine o_skip (b := decide ((sumS (a) (c)).toList = (({data := #[]} : ByteArray)).toList)) rfl rfl (decide_eq_true h11) ?_
                        refine o_pickT (b := decide ((sumS (a) (c)).toList = (({data := #[]} : ByteArray)).toList)) (AV.lit (.bool true)) Gd.none rfl (decide_eq_true h11) rfl ?_
                        refine aops_end ?_
                        refine hK23 _ ?_
                        refine awp_condB (b := true) rfl (fun _ => ?_) (fun hh => absurd (hh.symm.trans rfl) (by decide))
                        refine awp_seq fun K24 hK24 => ?_
                        refine awp_region rfl ?_
                        refine o_call [] (AV.lit (.bool true)) Gd.none Wv3_tC49 rfl c_l1Awake ?_
                        refine o_assign (AV.lit (.bool true)) Gd.none rfl ?_
                        refine aops_end ?_
                        refine hK24 _ ?_
                        refine awp_ret ?_
                        refine post_ret ⟨[(AV.lit (.bool true))], And.intro (AV.le_refl _) (trivial), rfl, ?_⟩
                        first | rfl | simp [bp]
                      · refine o_move (AV.lit (.string (sumS (b) (c)))) (Gd.yes rfl rfl (decide_eq_false h11)) rfl ?_
                        refine o_eqlS (a := (sumS (b) (c))) (c := (({data := #[]} : ByteArray))) (Gd.yes rfl rfl (decide_eq_false h11)) rfl rfl ?_
                        refine o_pickF (b := decide ((sumS (a) (c)).toList = (({data := #[]} : ByteArray)).toList)) (bp ((sumS (b) (c)).toList = (({data := #[]} : ByteArray)).toList)) Gd.none rfl (decide_eq_false h11) rfl ?_
                        refine aops_end ?_
                        refine hK23 _ ?_
                        refine awp_condQ (q := (sumS (b) (c)).toList = (({data := #[]} : ByteArray)).toList) rfl (fun h12 => ?_) (fun h12 => ?_)
                        · refine awp_seq fun K25 hK25 => ?_
                          refine awp_region rfl ?_
                          refine o_call [] (AV.lit (.bool true)) Gd.none Wv3_tC49 rfl c_l1Awake ?_
                          refine o_assign (AV.lit (.bool true)) Gd.none rfl ?_
                          refine aops_end ?_
                          refine hK25 _ ?_
                          refine awp_ret ?_
                          refine post_ret ⟨[(AV.lit (.bool true))], And.intro (AV.le_refl _) (trivial), rfl, ?_⟩
                          first | rfl | simp [bp]
                        · refine awp_skip ?_
                          refine hK22 _ ?_
                          refine awp_seq fun K26 hK26 => ?_
                          refine awp_region rfl ?_
                          refine o_move (AV.lit (.string (sumS (a) (c)))) Gd.none rfl ?_
                          refine o_move (AV.lit (.string (sumS (b) (c)))) Gd.none rfl ?_
                          refine o_call [(AV.lit (.string (sumS (a) (c)))), (AV.lit (.string (sumS (b) (c))))] (AV.tup [(AV.lit (.int .i64 ((if okS (sumS (a) (c)) && okS (sumS (b) (c)) then (cmpZ (numS (sumS (a) (c))) (numS (sumS (b) (c)))) else (0))))), (nm .i64 ((if okS (sumS (a) (c)) && okS (sumS (b) (c)) then (0) else (1))))]) Gd.none Wv3_tC64 rfl (c_nCompare (sumS (a) (c)) (sumS (b) (c)) (by first | assumption | decide | omega) (by first | assumption | decide | omega)) ?_
                          refine o_move (AV.tup [(AV.lit (.int .i64 ((if okS (sumS (a) (c)) && okS (sumS (b) (c)) then (cmpZ (numS (sumS (a) (c))) (numS (sumS (b) (c)))) else (0))))), (nm .i64 ((if okS (sumS (a) (c)) && okS (sumS (b) (c)) then (0) else (1))))]) Gd.none rfl ?_
                          refine o_extract (AV.lit (.int .i64 ((if okS (sumS (a) (c)) && okS (sumS (b) (c)) then (cmpZ (numS (sumS (a) (c))) (numS (sumS (b) (c)))) else (0))))) Gd.none rfl rfl ?_
                          refine o_extract (nm .i64 ((if okS (sumS (a) (c)) && okS (sumS (b) (c)) then (0) else (1)))) Gd.none rfl rfl ?_
                          refine o_assign (AV.lit (.int .i64 ((if okS (sumS (a) (c)) && okS (sumS (b) (c)) then (cmpZ (numS (sumS (a) (c))) (numS (sumS (b) (c)))) else (0))))) Gd.none rfl ?_
                          refine o_assign (nm .i64 ((if okS (sumS (a) (c)) && okS (sumS (b) (c)) then (0) else (1)))) Gd.none rfl ?_
                          refine aops_end ?_
                          refine hK26 _ ?_
                          refine awp_seq fun K27 hK27 => ?_
                          refine awp_region rfl ?_
                          refine o_move (nm .i64 ((if okS (sumS (a) (c)) && okS (sumS (b) (c)) then (0) else (1)))) Gd.none rfl ?_
                          refine n_eql ((if okS (sumS (a) (c)) && okS (sumS (b) (c)) then (0) else (1))) (0) Gd.none rfl rfl ?_
                          refine o_move (bp (((if okS (sumS (a) (c)) && okS (sumS (b) (c)) then (0) else (1))) = (0))) Gd.none rfl ?_
                          refine o_splitP (q := ((if okS (sumS (a) (c)) && okS (sumS (b) (c)) then (0) else (1))) = (0)) 106 rfl (fun h13 => ?_) (fun h13 => ?_)
                          · refine o_move (AV.lit (.int .i64 ((if okS (sumS (a) (c)) && okS (sumS (b) (c)) then (cmpZ (numS (sumS (a) (c))) (numS (sumS (b) (c)))) else (0))))) (Gd.yes rfl rfl (decide_eq_true h13)) rfl ?_
                            refine o_move (AV.lit (.int .i64 ((if okS (a) && okS (b) then (cmpZ (numS (a)) (numS (b))) else (0))))) (Gd.yes rfl rfl (decide_eq_true h13)) rfl ?_
                            refine o_eql (a := ((if okS (sumS (a) (c)) && okS (sumS (b) (c)) then (cmpZ (numS (sumS (a) (c))) (numS (sumS (b) (c)))) else (0)))) (c := ((if okS (a) && okS (b) then (cmpZ (numS (a)) (numS (b))) else (0)))) (Gd.yes rfl rfl (decide_eq_true h13)) rfl rfl ?_
                            refine o_pickT (b := decide (((if okS (sumS (a) (c)) && okS (sumS (b) (c)) then (0) else (1))) = (0))) (bp (((if okS (sumS (a) (c)) && okS (sumS (b) (c)) then (cmpZ (numS (sumS (a) (c))) (numS (sumS (b) (c)))) else (0))) = ((if okS (a) && okS (b) then (cmpZ (numS (a)) (numS (b))) else (0))))) Gd.none rfl (decide_eq_true h13) rfl ?_
                            refine o_move (bp (((if okS (sumS (a) (c)) && okS (sumS (b) (c)) then (cmpZ (numS (sumS (a) (c))) (numS (sumS (b) (c)))) else (0))) = ((if okS (a) && okS (b) then (cmpZ (numS (a)) (numS (b))) else (0))))) Gd.none rfl ?_
                            refine o_splitP (q := ((if okS (sumS (a) (c)) && okS (sumS (b) (c)) then (cmpZ (numS (sumS (a) (c))) (numS (sumS (b) (c)))) else (0))) = ((if okS (a) && okS (b) then (cmpZ (numS (a)) (numS (b))) else (0)))) 111 rfl (fun h14 => ?_) (fun h14 => ?_)
                            · refine o_call [] (AV.lit (.bool true)) (Gd.yes rfl rfl (decide_eq_true h14)) Wv3_tC49 rfl c_l1Awake ?_
                              refine o_pickT (b := decide (((if okS (sumS (a) (c)) && okS (sumS (b) (c)) then (cmpZ (numS (sumS (a) (c))) (numS (sumS (b) (c)))) else (0))) = ((if okS (a) && okS (b) then (cmpZ (numS (a)) (numS (b))) else (0))))) (AV.lit (.bool true)) Gd.none rfl (decide_eq_true h14) rfl ?_
                              refine o_assign (AV.lit (.bool true)) Gd.none rfl ?_
                              refine aops_end ?_
                              refine hK27 _ ?_
                              refine awp_ret ?_
                              refine post_ret ⟨[(AV.lit (.bool true))], And.intro (AV.le_refl _) (trivial), rfl, ?_⟩
                              first | rfl | simp [bp]
                            · refine o_skip (b := decide (((if okS (sumS (a) (c)) && okS (sumS (b) (c)) then (cmpZ (numS (sumS (a) (c))) (numS (sumS (b) (c)))) else (0))) = ((if okS (a) && okS (b) then (cmpZ (numS (a)) (numS (b))) else (0))))) rfl rfl (decide_eq_false h14) ?_
                              refine o_pickF (b := decide (((if okS (sumS (a) (c)) && okS (sumS (b) (c)) then (cmpZ (numS (sumS (a) (c))) (numS (sumS (b) (c)))) else (0))) = ((if okS (a) && okS (b) then (cmpZ (numS (a)) (numS (b))) else (0))))) (AV.lit (.bool false)) Gd.none rfl (decide_eq_false h14) rfl ?_
                              refine o_assign (AV.lit (.bool false)) Gd.none rfl ?_
                              refine aops_end ?_
                              refine hK27 _ ?_
                              refine awp_ret ?_
                              refine post_ret ⟨[(AV.lit (.bool false))], And.intro (AV.le_refl _) (trivial), rfl, ?_⟩
                              exact absurd (order4 ha' hb' hc' (fun e => h11 (str_eq.2 e)) (fun e => h12 (str_eq.2 e))).2 h14
                          · refine o_skip (b := decide (((if okS (sumS (a) (c)) && okS (sumS (b) (c)) then (0) else (1))) = (0))) rfl rfl (decide_eq_false h13) ?_
                            refine o_skip (b := decide (((if okS (sumS (a) (c)) && okS (sumS (b) (c)) then (0) else (1))) = (0))) rfl rfl (decide_eq_false h13) ?_
                            refine o_skip (b := decide (((if okS (sumS (a) (c)) && okS (sumS (b) (c)) then (0) else (1))) = (0))) rfl rfl (decide_eq_false h13) ?_
                            refine o_pickF (b := decide (((if okS (sumS (a) (c)) && okS (sumS (b) (c)) then (0) else (1))) = (0))) (AV.lit (.bool false)) Gd.none rfl (decide_eq_false h13) rfl ?_
                            refine o_move (AV.lit (.bool false)) Gd.none rfl ?_
                            refine o_skip (b := false) rfl rfl rfl ?_
                            refine o_pickF (b := false) (AV.lit (.bool false)) Gd.none rfl rfl rfl ?_
                            refine o_assign (AV.lit (.bool false)) Gd.none rfl ?_
                            refine aops_end ?_
                            refine hK27 _ ?_
                            refine awp_ret ?_
                            refine post_ret ⟨[(AV.lit (.bool false))], And.intro (AV.le_refl _) (trivial), rfl, ?_⟩
                            exact absurd (order4 ha' hb' hc' (fun e => h11 (str_eq.2 e)) (fun e => h12 (str_eq.2 e))).1 h13
                · refine awp_skip ?_
                  refine hK15 _ ?_
                  refine awp_seq fun K28 hK28 => ?_
                  refine awp_region rfl ?_
                  refine o_move (AV.lit (.string (a))) Gd.none rfl ?_
                  refine o_move (AV.lit (.string (c))) Gd.none rfl ?_
                  refine o_call [(AV.lit (.string (a))), (AV.lit (.string (c)))] (AV.lit (.string (sumS (a) (c)))) Gd.none Wv3_tC52 rfl (c_l1Sum (a) (c) (by first | assumption | decide | omega | exact sum_sz _ _ | exact pro_sz _ _) (by first | assumption | decide | omega | exact sum_sz _ _ | exact pro_sz _ _)) ?_
                  refine o_move (AV.lit (.string (b))) Gd.none rfl ?_
                  refine o_move (AV.lit (.string (c))) Gd.none rfl ?_
                  refine o_call [(AV.lit (.string (b))), (AV.lit (.string (c)))] (AV.lit (.string (sumS (b) (c)))) Gd.none Wv3_tC52 rfl (c_l1Sum (b) (c) (by first | assumption | decide | omega | exact sum_sz _ _ | exact pro_sz _ _) (by first | assumption | decide | omega | exact sum_sz _ _ | exact pro_sz _ _)) ?_
                  refine o_assign (AV.lit (.string (sumS (a) (c)))) Gd.none rfl ?_
                  refine o_assign (AV.lit (.string (sumS (b) (c)))) Gd.none rfl ?_
                  refine aops_end ?_
                  refine hK28 _ ?_
                  refine awp_seq fun K29 hK29 => ?_
                  refine awp_seq fun K30 hK30 => ?_
                  refine awp_region rfl ?_
                  refine o_move (AV.lit (.string (sumS (a) (c)))) Gd.none rfl ?_
                  refine o_eqlS (a := (sumS (a) (c))) (c := (({data := #[]} : ByteArray))) Gd.none rfl rfl ?_
                  refine o_move (bp ((sumS (a) (c)).toList = (({data := #[]} : ByteArray)).toList)) Gd.none rfl ?_
                  refine o_splitP (q := (sumS (a) (c)).toList = (({data := #[]} : ByteArray)).toList) 93 rfl (fun h15 => ?_) (fun h15 => ?_)
                  · refine o_skip (b := decide ((sumS (a) (c)).toList = (({data := #[]} : ByteArray)).toList)) rfl rfl (decide_eq_true h15) ?_
                    refine o_skip (b := decide ((sumS (a) (c)).toList = (({data := #[]} : ByteArray)).toList)) rfl rfl (decide_eq_true h15) ?_
                    refine o_pickT (b := decide ((sumS (a) (c)).toList = (({data := #[]} : ByteArray)).toList)) (AV.lit (.bool true)) Gd.none rfl (decide_eq_true h15) rfl ?_
                    refine aops_end ?_
                    refine hK30 _ ?_
                    refine awp_condB (b := true) rfl (fun _ => ?_) (fun hh => absurd (hh.symm.trans rfl) (by decide))
                    refine awp_seq fun K31 hK31 => ?_
                    refine awp_region rfl ?_
                    refine o_call [] (AV.lit (.bool true)) Gd.none Wv3_tC49 rfl c_l1Awake ?_
                    refine o_assign (AV.lit (.bool true)) Gd.none rfl ?_
                    refine aops_end ?_
                    refine hK31 _ ?_
                    refine awp_ret ?_
                    refine post_ret ⟨[(AV.lit (.bool true))], And.intro (AV.le_refl _) (trivial), rfl, ?_⟩
                    first | rfl | simp [bp]
                  · refine o_move (AV.lit (.string (sumS (b) (c)))) (Gd.yes rfl rfl (decide_eq_false h15)) rfl ?_
                    refine o_eqlS (a := (sumS (b) (c))) (c := (({data := #[]} : ByteArray))) (Gd.yes rfl rfl (decide_eq_false h15)) rfl rfl ?_
                    refine o_pickF (b := decide ((sumS (a) (c)).toList = (({data := #[]} : ByteArray)).toList)) (bp ((sumS (b) (c)).toList = (({data := #[]} : ByteArray)).toList)) Gd.none rfl (decide_eq_false h15) rfl ?_
                    refine aops_end ?_
                    refine hK30 _ ?_
                    refine awp_condQ (q := (sumS (b) (c)).toList = (({data := #[]} : ByteArray)).toList) rfl (fun h16 => ?_) (fun h16 => ?_)
                    · refine awp_seq fun K32 hK32 => ?_
                      refine awp_region rfl ?_
                      refine o_call [] (AV.lit (.bool true)) Gd.none Wv3_tC49 rfl c_l1Awake ?_
                      refine o_assign (AV.lit (.bool true)) Gd.none rfl ?_
                      refine aops_end ?_
                      refine hK32 _ ?_
                      refine awp_ret ?_
                      refine post_ret ⟨[(AV.lit (.bool true))], And.intro (AV.le_refl _) (trivial), rfl, ?_⟩
                      first | rfl | simp [bp]
                    · refine awp_skip ?_
                      refine hK29 _ ?_
                      refine awp_seq fun K33 hK33 => ?_
                      refine awp_region rfl ?_
                      refine o_move (AV.lit (.string (sumS (a) (c)))) Gd.none rfl ?_
                      refine o_move (AV.lit (.string (sumS (b) (c)))) Gd.none rfl ?_
                      refine o_call [(AV.lit (.string (sumS (a) (c)))), (AV.lit (.string (sumS (b) (c))))] (AV.tup [(AV.lit (.int .i64 ((if okS (sumS (a) (c)) && okS (sumS (b) (c)) then (cmpZ (numS (sumS (a) (c))) (numS (sumS (b) (c)))) else (0))))), (nm .i64 ((if okS (sumS (a) (c)) && okS (sumS (b) (c)) then (0) else (1))))]) Gd.none Wv3_tC64 rfl (c_nCompare (sumS (a) (c)) (sumS (b) (c)) (by first | assumption | decide | omega) (by first | assumption | decide | omega)) ?_
                      refine o_move (AV.tup [(AV.lit (.int .i64 ((if okS (sumS (a) (c)) && okS (sumS (b) (c)) then (cmpZ (numS (sumS (a) (c))) (numS (sumS (b) (c)))) else (0))))), (nm .i64 ((if okS (sumS (a) (c)) && okS (sumS (b) (c)) then (0) else (1))))]) Gd.none rfl ?_
                      refine o_extract (AV.lit (.int .i64 ((if okS (sumS (a) (c)) && okS (sumS (b) (c)) then (cmpZ (numS (sumS (a) (c))) (numS (sumS (b) (c)))) else (0))))) Gd.none rfl rfl ?_
                      refine o_extract (nm .i64 ((if okS (sumS (a) (c)) && okS (sumS (b) (c)) then (0) else (1)))) Gd.none rfl rfl ?_
                      refine o_assign (AV.lit (.int .i64 ((if okS (sumS (a) (c)) && okS (sumS (b) (c)) then (cmpZ (numS (sumS (a) (c))) (numS (sumS (b) (c)))) else (0))))) Gd.none rfl ?_
                      refine o_assign (nm .i64 ((if okS (sumS (a) (c)) && okS (sumS (b) (c)) then (0) else (1)))) Gd.none rfl ?_
                      refine aops_end ?_
                      refine hK33 _ ?_
                      refine awp_seq fun K34 hK34 => ?_
                      refine awp_region rfl ?_
                      refine o_move (nm .i64 ((if okS (sumS (a) (c)) && okS (sumS (b) (c)) then (0) else (1)))) Gd.none rfl ?_
                      refine n_eql ((if okS (sumS (a) (c)) && okS (sumS (b) (c)) then (0) else (1))) (0) Gd.none rfl rfl ?_
                      refine o_move (bp (((if okS (sumS (a) (c)) && okS (sumS (b) (c)) then (0) else (1))) = (0))) Gd.none rfl ?_
                      refine o_splitP (q := ((if okS (sumS (a) (c)) && okS (sumS (b) (c)) then (0) else (1))) = (0)) 106 rfl (fun h17 => ?_) (fun h17 => ?_)
                      · refine o_move (AV.lit (.int .i64 ((if okS (sumS (a) (c)) && okS (sumS (b) (c)) then (cmpZ (numS (sumS (a) (c))) (numS (sumS (b) (c)))) else (0))))) (Gd.yes rfl rfl (decide_eq_true h17)) rfl ?_
                        refine o_move (AV.lit (.int .i64 ((if okS (a) && okS (b) then (cmpZ (numS (a)) (numS (b))) else (0))))) (Gd.yes rfl rfl (decide_eq_true h17)) rfl ?_
                        refine o_eql (a := ((if okS (sumS (a) (c)) && okS (sumS (b) (c)) then (cmpZ (numS (sumS (a) (c))) (numS (sumS (b) (c)))) else (0)))) (c := ((if okS (a) && okS (b) then (cmpZ (numS (a)) (numS (b))) else (0)))) (Gd.yes rfl rfl (decide_eq_true h17)) rfl rfl ?_
                        refine o_pickT (b := decide (((if okS (sumS (a) (c)) && okS (sumS (b) (c)) then (0) else (1))) = (0))) (bp (((if okS (sumS (a) (c)) && okS (sumS (b) (c)) then (cmpZ (numS (sumS (a) (c))) (numS (sumS (b) (c)))) else (0))) = ((if okS (a) && okS (b) then (cmpZ (numS (a)) (numS (b))) else (0))))) Gd.none rfl (decide_eq_true h17) rfl ?_
                        refine o_move (bp (((if okS (sumS (a) (c)) && okS (sumS (b) (c)) then (cmpZ (numS (sumS (a) (c))) (numS (sumS (b) (c)))) else (0))) = ((if okS (a) && okS (b) then (cmpZ (numS (a)) (numS (b))) else (0))))) Gd.none rfl ?_
                        refine o_splitP (q := ((if okS (sumS (a) (c)) && okS (sumS (b) (c)) then (cmpZ (numS (sumS (a) (c))) (numS (sumS (b) (c)))) else (0))) = ((if okS (a) && okS (b) then (cmpZ (numS (a)) (numS (b))) else (0)))) 111 rfl (fun h18 => ?_) (fun h18 => ?_)
                        · refine o_call [] (AV.lit (.bool true)) (Gd.yes rfl rfl (decide_eq_true h18)) Wv3_tC49 rfl c_l1Awake ?_
                          refine o_pickT (b := decide (((if okS (sumS (a) (c)) && okS (sumS (b) (c)) then (cmpZ (numS (sumS (a) (c))) (numS (sumS (b) (c)))) else (0))) = ((if okS (a) && okS (b) then (cmpZ (numS (a)) (numS (b))) else (0))))) (AV.lit (.bool true)) Gd.none rfl (decide_eq_true h18) rfl ?_
                          refine o_assign (AV.lit (.bool true)) Gd.none rfl ?_
                          refine aops_end ?_
                          refine hK34 _ ?_
                          refine awp_ret ?_
                          refine post_ret ⟨[(AV.lit (.bool true))], And.intro (AV.le_refl _) (trivial), rfl, ?_⟩
                          first | rfl | simp [bp]
                        · refine o_skip (b := decide (((if okS (sumS (a) (c)) && okS (sumS (b) (c)) then (cmpZ (numS (sumS (a) (c))) (numS (sumS (b) (c)))) else (0))) = ((if okS (a) && okS (b) then (cmpZ (numS (a)) (numS (b))) else (0))))) rfl rfl (decide_eq_false h18) ?_
                          refine o_pickF (b := decide (((if okS (sumS (a) (c)) && okS (sumS (b) (c)) then (cmpZ (numS (sumS (a) (c))) (numS (sumS (b) (c)))) else (0))) = ((if okS (a) && okS (b) then (cmpZ (numS (a)) (numS (b))) else (0))))) (AV.lit (.bool false)) Gd.none rfl (decide_eq_false h18) rfl ?_
                          refine o_assign (AV.lit (.bool false)) Gd.none rfl ?_
                          refine aops_end ?_
                          refine hK34 _ ?_
                          refine awp_ret ?_
                          refine post_ret ⟨[(AV.lit (.bool false))], And.intro (AV.le_refl _) (trivial), rfl, ?_⟩
                          exact absurd (order4 ha' hb' hc' (fun e => h15 (str_eq.2 e)) (fun e => h16 (str_eq.2 e))).2 h18
                      · refine o_skip (b := decide (((if okS (sumS (a) (c)) && okS (sumS (b) (c)) then (0) else (1))) = (0))) rfl rfl (decide_eq_false h17) ?_
                        refine o_skip (b := decide (((if okS (sumS (a) (c)) && okS (sumS (b) (c)) then (0) else (1))) = (0))) rfl rfl (decide_eq_false h17) ?_
                        refine o_skip (b := decide (((if okS (sumS (a) (c)) && okS (sumS (b) (c)) then (0) else (1))) = (0))) rfl rfl (decide_eq_false h17) ?_
                        refine o_pickF (b := decide (((if okS (sumS (a) (c)) && okS (sumS (b) (c)) then (0) else (1))) = (0))) (AV.lit (.bool false)) Gd.none rfl (decide_eq_false h17) rfl ?_
                        refine o_move (AV.lit (.bool false)) Gd.none rfl ?_
                        refine o_skip (b := false) rfl rfl rfl ?_
                        refine o_pickF (b := false) (AV.lit (.bool false)) Gd.none rfl rfl rfl ?_
                        refine o_assign (AV.lit (.bool false)) Gd.none rfl ?_
                        refine aops_end ?_
                        refine hK34 _ ?_
                        refine awp_ret ?_
                        refine post_ret ⟨[(AV.lit (.bool false))], And.intro (AV.le_refl _) (trivial), rfl, ?_⟩
                        exact absurd (order4 ha' hb' hc' (fun e => h15 (str_eq.2 e)) (fun e => h16 (str_eq.2 e))).1 h17

end Go.Proofs.YtkngglpnejdicaaDoor
