import Derived.Test.YtkngglpnejdicaaDoorWu
import Derived.Test.YtkngglpnejdicaaDoorLp
set_option linter.unusedVariables false
set_option linter.unusedSimpArgs false
namespace Go.Proofs.YtkngglpnejdicaaDoor
open Go Go.Ab Go.Mth
theorem Wv5_tC55 : callable cx.P 55 = true := by kernel_rfl
theorem Wv5_tC56 : callable cx.P 56 = true := by kernel_rfl
theorem Wv5_tC51 : callable cx.P 51 = true := by kernel_rfl
theorem Wv5_tC64 : callable cx.P 64 = true := by kernel_rfl
theorem Wv5_tC65 : callable cx.P 65 = true := by kernel_rfl
theorem Wv5_tC29 : callable cx.P 29 = true := by kernel_rfl
theorem Wv5_tB4 : cx.P.underlying 4 = some .bool := by kernel_rfl
theorem Wv5_tC49 : callable cx.P 49 = true := by kernel_rfl
theorem Wv5_tC24 : callable cx.P 24 = true := by kernel_rfl
theorem Wv5_tO36 : tyZero cx.P 36 = some [(Go.Value.bool false), (Go.Value.slice none 0 0)] := by kernel_rfl
theorem Wv5_tZ36 : tySize cx.P 36 = some 2 := by kernel_rfl
theorem Wv5_tA36 : tyAgg cx.P 36 = some 2 := by kernel_rfl
theorem Wv5_tC32 : callable cx.P 32 = true := by kernel_rfl
theorem Wv5_tC59 : callable cx.P 59 = true := by kernel_rfl
theorem Wv5_tC35 : callable cx.P 35 = true := by kernel_rfl
theorem Wv5_tC30 : callable cx.P 30 = true := by kernel_rfl
theorem Wv5_tC34 : callable cx.P 34 = true := by kernel_rfl
theorem c_NumSums (a b : ByteArray) (hsz : a.size ≤ 9223372036854775807) (hsb : b.size ≤ 9223372036854775807) : ECalls cx 15 [(AV.lit (.string (a))), (AV.lit (.string (b)))] (.lit (.bool true)) := by
  refine ecalls_of_awp Tryd.func15 (c := _) rfl (Nat.le_of_ble_eq_true rfl) ?_
  show awp cx 128 _ (postF cx Tryd.f15 _) ⟨[(0, (AV.lit (.string (a)))), (1, (AV.lit (.string (b))))], []⟩
  refine awp_seq fun K0 hK0 => ?_
  refine awp_region rfl ?_
  refine o_assign (AV.lit (.bool false)) Gd.none rfl ?_
  refine aops_end ?_
  refine hK0 _ ?_
  refine awp_seq fun K1 hK1 => ?_
  refine awp_region rfl ?_
  refine o_move (AV.lit (.string (a))) Gd.none rfl ?_
  refine o_move (AV.lit (.string (b))) Gd.none rfl ?_
  refine o_call [(AV.lit (.string (a))), (AV.lit (.string (b)))] (AV.tup [(AV.lit (.string ((if okS (a) && okS (b) then (toldS (numS (a) + numS (b))) else (({ data := #[] } : ByteArray)))))), (nm .i64 ((if okS (a) && okS (b) then (toldE (numS (a) + numS (b))) else (1))))]) Gd.none Wv5_tC55 rfl (c_nAdd (a) (b) (by first | assumption | decide | omega) (by first | assumption | decide | omega)) ?_
  refine o_move (AV.tup [(AV.lit (.string ((if okS (a) && okS (b) then (toldS (numS (a) + numS (b))) else (({ data := #[] } : ByteArray)))))), (nm .i64 ((if okS (a) && okS (b) then (toldE (numS (a) + numS (b))) else (1))))]) Gd.none rfl ?_
  refine o_extract (AV.lit (.string ((if okS (a) && okS (b) then (toldS (numS (a) + numS (b))) else (({ data := #[] } : ByteArray)))))) Gd.none rfl rfl ?_
  refine o_extract (nm .i64 ((if okS (a) && okS (b) then (toldE (numS (a) + numS (b))) else (1)))) Gd.none rfl rfl ?_
  refine o_assign (AV.lit (.string ((if okS (a) && okS (b) then (toldS (numS (a) + numS (b))) else (({ data := #[] } : ByteArray)))))) Gd.none rfl ?_
  refine o_assign (nm .i64 ((if okS (a) && okS (b) then (toldE (numS (a) + numS (b))) else (1)))) Gd.none rfl ?_
  refine aops_end ?_
  refine hK1 _ ?_
  refine awp_seq fun K2 hK2 => ?_
  refine awp_region rfl ?_
  refine o_move (AV.lit (.string (a))) Gd.none rfl ?_
  refine o_move (AV.lit (.string (b))) Gd.none rfl ?_
  refine o_call [(AV.lit (.string (a))), (AV.lit (.string (b)))] (AV.tup [(AV.lit (.string ((if okS (a) && okS (b) then (toldS (numS (a) - numS (b))) else (({ data := #[] } : ByteArray)))))), (nm .i64 ((if okS (a) && okS (b) then (toldE (numS (a) - numS (b))) else (1))))]) Gd.none Wv5_tC56 rfl (c_nSub (a) (b) (by first | assumption | decide | omega) (by first | assumption | decide | omega)) ?_
  refine o_move (AV.tup [(AV.lit (.string ((if okS (a) && okS (b) then (toldS (numS (a) - numS (b))) else (({ data := #[] } : ByteArray)))))), (nm .i64 ((if okS (a) && okS (b) then (toldE (numS (a) - numS (b))) else (1))))]) Gd.none rfl ?_
  refine o_extract (AV.lit (.string ((if okS (a) && okS (b) then (toldS (numS (a) - numS (b))) else (({ data := #[] } : ByteArray)))))) Gd.none rfl rfl ?_
  refine o_extract (nm .i64 ((if okS (a) && okS (b) then (toldE (numS (a) - numS (b))) else (1)))) Gd.none rfl rfl ?_
  refine o_assign (AV.lit (.string ((if okS (a) && okS (b) then (toldS (numS (a) - numS (b))) else (({ data := #[] } : ByteArray)))))) Gd.none rfl ?_
  refine o_assign (nm .i64 ((if okS (a) && okS (b) then (toldE (numS (a) - numS (b))) else (1)))) Gd.none rfl ?_
  refine aops_end ?_
  refine hK2 _ ?_
  refine awp_seq fun K3 hK3 => ?_
  refine awp_region rfl ?_
  refine o_move (AV.lit (.string (a))) Gd.none rfl ?_
  refine o_move (AV.lit (.string (b))) Gd.none rfl ?_
  refine o_call [(AV.lit (.string (a))), (AV.lit (.string (b)))] (AV.tup [(AV.lit (.string ((if okS (a) && okS (b) then (toldS (numS (a) * numS (b))) else (({ data := #[] } : ByteArray)))))), (nm .i64 ((if okS (a) && okS (b) then (toldE (numS (a) * numS (b))) else (1))))]) Gd.none Wv5_tC51 rfl (c_nMul (a) (b) (by first | assumption | decide | omega) (by first | assumption | decide | omega)) ?_
  refine o_move (AV.tup [(AV.lit (.string ((if okS (a) && okS (b) then (toldS (numS (a) * numS (b))) else (({ data := #[] } : ByteArray)))))), (nm .i64 ((if okS (a) && okS (b) then (toldE (numS (a) * numS (b))) else (1))))]) Gd.none rfl ?_
  refine o_extract (AV.lit (.string ((if okS (a) && okS (b) then (toldS (numS (a) * numS (b))) else (({ data := #[] } : ByteArray)))))) Gd.none rfl rfl ?_
  refine o_extract (nm .i64 ((if okS (a) && okS (b) then (toldE (numS (a) * numS (b))) else (1)))) Gd.none rfl rfl ?_
  refine o_assign (AV.lit (.string ((if okS (a) && okS (b) then (toldS (numS (a) * numS (b))) else (({ data := #[] } : ByteArray)))))) Gd.none rfl ?_
  refine o_assign (nm .i64 ((if okS (a) && okS (b) then (toldE (numS (a) * numS (b))) else (1)))) Gd.none rfl ?_
  refine aops_end ?_
  refine hK3 _ ?_
  refine awp_seq fun K4 hK4 => ?_
  refine awp_region rfl ?_
  refine o_move (AV.lit (.string (a))) Gd.none rfl ?_
  refine o_move (AV.lit (.string (b))) Gd.none rfl ?_
  refine o_call [(AV.lit (.string (a))), (AV.lit (.string (b)))] (AV.tup [(AV.lit (.int .i64 ((if okS (a) && okS (b) then (cmpZ (numS (a)) (numS (b))) else (0))))), (nm .i64 ((if okS (a) && okS (b) then (0) else (1))))]) Gd.none Wv5_tC64 rfl (c_nCompare (a) (b) (by first | assumption | decide | omega) (by first | assumption | decide | omega)) ?_
  refine o_move (AV.tup [(AV.lit (.int .i64 ((if okS (a) && okS (b) then (cmpZ (numS (a)) (numS (b))) else (0))))), (nm .i64 ((if okS (a) && okS (b) then (0) else (1))))]) Gd.none rfl ?_
  refine o_extract (AV.lit (.int .i64 ((if okS (a) && okS (b) then (cmpZ (numS (a)) (numS (b))) else (0))))) Gd.none rfl rfl ?_
  refine o_extract (nm .i64 ((if okS (a) && okS (b) then (0) else (1)))) Gd.none rfl rfl ?_
  refine o_assign (AV.lit (.int .i64 ((if okS (a) && okS (b) then (cmpZ (numS (a)) (numS (b))) else (0))))) Gd.none rfl ?_
  refine o_assign (nm .i64 ((if okS (a) && okS (b) then (0) else (1)))) Gd.none rfl ?_
  refine aops_end ?_
  refine hK4 _ ?_
  refine awp_seq fun K5 hK5 => ?_
  refine awp_seq fun K6 hK6 => ?_
  refine awp_region rfl ?_
  refine o_move (AV.lit (.string (a))) Gd.none rfl ?_
  refine o_call [(AV.lit (.string (a)))] (AV.lit (.bool (okS (a)))) Gd.none Wv5_tC65 rfl (c_nValid (a) (by first | assumption | decide | omega)) ?_
  refine o_move (AV.lit (.string (a))) Gd.none rfl ?_
  refine o_call [(AV.lit (.string (a)))] (AV.lit (.bool (okS (a)))) Gd.none Wv5_tC29 rfl (c_rValid (a) (by first | assumption | decide | omega)) ?_
  refine o_neqB (a := (okS (a))) (c := (okS (a))) Gd.none rfl rfl Wv5_tB4 ?_
  refine o_move (bp ((okS (a)) ≠ (okS (a)))) Gd.none rfl ?_
  refine o_move (AV.lit (.string (b))) (Gd.yes rfl rfl (decide_eq_false (fun h => h rfl))) rfl ?_
  refine o_call [(AV.lit (.string (b)))] (AV.lit (.bool (okS (b)))) (Gd.yes rfl rfl (decide_eq_false (fun h => h rfl))) Wv5_tC65 rfl (c_nValid (b) (by first | assumption | decide | omega)) ?_
  refine o_move (AV.lit (.string (b))) (Gd.yes rfl rfl (decide_eq_false (fun h => h rfl))) rfl ?_
  refine o_call [(AV.lit (.string (b)))] (AV.lit (.bool (okS (b)))) (Gd.yes rfl rfl (decide_eq_false (fun h => h rfl))) Wv5_tC29 rfl (c_rValid (b) (by first | assumption | decide | omega)) ?_
  refine o_neqB (a := (okS (b))) (c := (okS (b))) (Gd.yes rfl rfl (decide_eq_false (fun h => h rfl))) rfl rfl Wv5_tB4 ?_
  refine o_pickF (b := decide ((okS (a)) ≠ (okS (a)))) (bp ((okS (b)) ≠ (okS (b)))) Gd.none rfl (decide_eq_false (fun h => h rfl)) rfl ?_
  refine aops_end ?_
  refine hK6 _ ?_
  refine awp_condB (b := decide ((okS (b)) ≠ (okS (b)))) rfl (fun hh => absurd (hh.symm.trans (decide_eq_false (fun h => h rfl))) (by decide)) (fun _ => ?_)
  refine awp_skip ?_
  refine hK5 _ ?_
  refine awp_seq fun K7 hK7 => ?_
  refine awp_seq fun K8 hK8 => ?_
  refine awp_region rfl ?_
  refine o_move (AV.lit (.string (a))) Gd.none rfl ?_
  refine o_call [(AV.lit (.string (a)))] (AV.lit (.bool (okS (a)))) Gd.none Wv5_tC29 rfl (c_rValid (a) (by first | assumption | decide | omega)) ?_
  refine o_not (b := okS (a)) Gd.none rfl ?_
  refine o_move (AV.lit (.bool (!(okS (a))))) Gd.none rfl ?_
  refine o_split (b := !(okS (a))) 54 rfl (fun h1 => ?_) (fun h1 => ?_)
  · have ha' : okS a = false := by simpa using h1
    have q0 : (if okS (a) && okS (b) then (toldS (numS (a) + numS (b))) else (({ data := #[] } : ByteArray))).size = 0 := by rw [ha']; first | rfl | (cases okS a <;> rfl)
    have q1 : (if okS (a) && okS (b) then (toldS (numS (a) - numS (b))) else (({ data := #[] } : ByteArray))).size = 0 := by rw [ha']; first | rfl | (cases okS a <;> rfl)
    have q2 : (if okS (a) && okS (b) then (toldS (numS (a) * numS (b))) else (({ data := #[] } : ByteArray))).size = 0 := by rw [ha']; first | rfl | (cases okS a <;> rfl)
    have q4 : ((if okS (a) && okS (b) then (toldS (numS (a) + numS (b))) else (({ data := #[] } : ByteArray))) ++ (if okS (a) && okS (b) then (toldS (numS (a) - numS (b))) else (({ data := #[] } : ByteArray)))).size = 0 := by rw [ByteArray.size_append]; omega
    refine o_skip (b := !(okS (a))) rfl rfl h1 ?_
    refine o_skip (b := !(okS (a))) rfl rfl h1 ?_
    refine o_skip (b := !(okS (a))) rfl rfl h1 ?_
    refine o_pickT (b := !(okS (a))) (AV.lit (.bool true)) Gd.none rfl h1 rfl ?_
    refine aops_end ?_
    refine hK8 _ ?_
    refine awp_condB (b := true) rfl (fun _ => ?_) (fun hh => absurd (hh.symm.trans rfl) (by decide))
    refine awp_seq fun K9 hK9 => ?_
    refine awp_region rfl ?_
    refine o_move (AV.lit (.string ((if okS (a) && okS (b) then (toldS (numS (a) + numS (b))) else (({ data := #[] } : ByteArray)))))) Gd.none rfl ?_
    refine o_move (AV.lit (.string ((if okS (a) && okS (b) then (toldS (numS (a) - numS (b))) else (({ data := #[] } : ByteArray)))))) Gd.none rfl ?_
    refine o_addS (a := ((if okS (a) && okS (b) then (toldS (numS (a) + numS (b))) else (({ data := #[] } : ByteArray))))) (c := ((if okS (a) && okS (b) then (toldS (numS (a) - numS (b))) else (({ data := #[] } : ByteArray))))) Gd.none rfl rfl (by omega) ?_
    refine o_move (AV.lit (.string ((if okS (a) && okS (b) then (toldS (numS (a) * numS (b))) else (({ data := #[] } : ByteArray)))))) Gd.none rfl ?_
    refine o_addS (a := (((if okS (a) && okS (b) then (toldS (numS (a) + numS (b))) else (({ data := #[] } : ByteArray)))) ++ ((if okS (a) && okS (b) then (toldS (numS (a) - numS (b))) else (({ data := #[] } : ByteArray)))))) (c := ((if okS (a) && okS (b) then (toldS (numS (a) * numS (b))) else (({ data := #[] } : ByteArray))))) Gd.none rfl rfl (by omega) ?_
    refine o_eqlS (a := ((((if okS (a) && okS (b) then (toldS (numS (a) + numS (b))) else (({ data := #[] } : ByteArray)))) ++ ((if okS (a) && okS (b) then (toldS (numS (a) - numS (b))) else (({ data := #[] } : ByteArray))))) ++ ((if okS (a) && okS (b) then (toldS (numS (a) * numS (b))) else (({ data := #[] } : ByteArray)))))) (c := (({data := #[]} : ByteArray))) Gd.none rfl rfl ?_
    refine o_move (bp (((((if okS (a) && okS (b) then (toldS (numS (a) + numS (b))) else (({ data := #[] } : ByteArray)))) ++ ((if okS (a) && okS (b) then (toldS (numS (a) - numS (b))) else (({ data := #[] } : ByteArray))))) ++ ((if okS (a) && okS (b) then (toldS (numS (a) * numS (b))) else (({ data := #[] } : ByteArray))))).toList = (({data := #[]} : ByteArray)).toList)) Gd.none rfl ?_
    refine o_splitP (q := ((((if okS (a) && okS (b) then (toldS (numS (a) + numS (b))) else (({ data := #[] } : ByteArray)))) ++ ((if okS (a) && okS (b) then (toldS (numS (a) - numS (b))) else (({ data := #[] } : ByteArray))))) ++ ((if okS (a) && okS (b) then (toldS (numS (a) * numS (b))) else (({ data := #[] } : ByteArray))))).toList = (({data := #[]} : ByteArray)).toList) 65 rfl (fun h2 => ?_) (fun h2 => ?_)
    · refine o_move (AV.lit (.int .i64 ((if okS (a) && okS (b) then (cmpZ (numS (a)) (numS (b))) else (0))))) (Gd.yes rfl rfl (decide_eq_true h2)) rfl ?_
      refine o_eql (a := ((if okS (a) && okS (b) then (cmpZ (numS (a)) (numS (b))) else (0)))) (c := (((0 : Nat) : Int))) (Gd.yes rfl rfl (decide_eq_true h2)) rfl rfl ?_
      refine o_pickT (b := decide (((((if okS (a) && okS (b) then (toldS (numS (a) + numS (b))) else (({ data := #[] } : ByteArray)))) ++ ((if okS (a) && okS (b) then (toldS (numS (a) - numS (b))) else (({ data := #[] } : ByteArray))))) ++ ((if okS (a) && okS (b) then (toldS (numS (a) * numS (b))) else (({ data := #[] } : ByteArray))))).toList = (({data := #[]} : ByteArray)).toList)) (bp (((if okS (a) && okS (b) then (cmpZ (numS (a)) (numS (b))) else (0))) = (((0 : Nat) : Int)))) Gd.none rfl (decide_eq_true h2) rfl ?_
      refine o_move (bp (((if okS (a) && okS (b) then (cmpZ (numS (a)) (numS (b))) else (0))) = (((0 : Nat) : Int)))) Gd.none rfl ?_
      refine o_splitP (q := ((if okS (a) && okS (b) then (cmpZ (numS (a)) (numS (b))) else (0))) = (((0 : Nat) : Int))) 69 rfl (fun h3 => ?_) (fun h3 => ?_)
      · refine o_move (nm .i64 ((if okS (a) && okS (b) then (toldE (numS (a) + numS (b))) else (1)))) (Gd.yes rfl rfl (decide_eq_true h3)) rfl ?_
        refine n_eql ((if okS (a) && okS (b) then (toldE (numS (a) + numS (b))) else (1))) (1) (Gd.yes rfl rfl (decide_eq_true h3)) rfl rfl ?_
        refine o_pickT (b := decide (((if okS (a) && okS (b) then (cmpZ (numS (a)) (numS (b))) else (0))) = (((0 : Nat) : Int)))) (bp (((if okS (a) && okS (b) then (toldE (numS (a) + numS (b))) else (1))) = (1))) Gd.none rfl (decide_eq_true h3) rfl ?_
        refine o_move (bp (((if okS (a) && okS (b) then (toldE (numS (a) + numS (b))) else (1))) = (1))) Gd.none rfl ?_
        refine o_splitP (q := ((if okS (a) && okS (b) then (toldE (numS (a) + numS (b))) else (1))) = (1)) 73 rfl (fun h4 => ?_) (fun h4 => ?_)
        · refine o_move (nm .i64 ((if okS (a) && okS (b) then (toldE (numS (a) - numS (b))) else (1)))) (Gd.yes rfl rfl (decide_eq_true h4)) rfl ?_
          refine n_eql ((if okS (a) && okS (b) then (toldE (numS (a) - numS (b))) else (1))) (1) (Gd.yes rfl rfl (decide_eq_true h4)) rfl rfl ?_
          refine o_pickT (b := decide (((if okS (a) && okS (b) then (toldE (numS (a) + numS (b))) else (1))) = (1))) (bp (((if okS (a) && okS (b) then (toldE (numS (a) - numS (b))) else (1))) = (1))) Gd.none rfl (decide_eq_true h4) rfl ?_
          refine o_move (bp (((if okS (a) && okS (b) then (toldE (numS (a) - numS (b))) else (1))) = (1))) Gd.none rfl ?_
          refine o_splitP (q := ((if okS (a) && okS (b) then (toldE (numS (a) - numS (b))) else (1))) = (1)) 77 rfl (fun h5 => ?_) (fun h5 => ?_)
          · refine o_move (nm .i64 ((if okS (a) && okS (b) then (toldE (numS (a) * numS (b))) else (1)))) (Gd.yes rfl rfl (decide_eq_true h5)) rfl ?_
            refine n_eql ((if okS (a) && okS (b) then (toldE (numS (a) * numS (b))) else (1))) (1) (Gd.yes rfl rfl (decide_eq_true h5)) rfl rfl ?_
            refine o_pickT (b := decide (((if okS (a) && okS (b) then (toldE (numS (a) - numS (b))) else (1))) = (1))) (bp (((if okS (a) && okS (b) then (toldE (numS (a) * numS (b))) else (1))) = (1))) Gd.none rfl (decide_eq_true h5) rfl ?_
            refine o_move (bp (((if okS (a) && okS (b) then (toldE (numS (a) * numS (b))) else (1))) = (1))) Gd.none rfl ?_
            refine o_splitP (q := ((if okS (a) && okS (b) then (toldE (numS (a) * numS (b))) else (1))) = (1)) 81 rfl (fun h6 => ?_) (fun h6 => ?_)
            · refine o_move (nm .i64 ((if okS (a) && okS (b) then (0) else (1)))) (Gd.yes rfl rfl (decide_eq_true h6)) rfl ?_
              refine n_eql ((if okS (a) && okS (b) then (0) else (1))) (1) (Gd.yes rfl rfl (decide_eq_true h6)) rfl rfl ?_
              refine o_pickT (b := decide (((if okS (a) && okS (b) then (toldE (numS (a) * numS (b))) else (1))) = (1))) (bp (((if okS (a) && okS (b) then (0) else (1))) = (1))) Gd.none rfl (decide_eq_true h6) rfl ?_
              refine o_move (bp (((if okS (a) && okS (b) then (0) else (1))) = (1))) Gd.none rfl ?_
              refine o_splitP (q := ((if okS (a) && okS (b) then (0) else (1))) = (1)) 85 rfl (fun h7 => ?_) (fun h7 => ?_)
              · refine o_call [] (AV.lit (.bool true)) (Gd.yes rfl rfl (decide_eq_true h7)) Wv5_tC49 rfl c_l1Awake ?_
                refine o_pickT (b := decide (((if okS (a) && okS (b) then (0) else (1))) = (1))) (AV.lit (.bool true)) Gd.none rfl (decide_eq_true h7) rfl ?_
                refine o_assign (AV.lit (.bool true)) Gd.none rfl ?_
                refine aops_end ?_
                refine hK9 _ ?_
                refine awp_ret ?_
                refine post_ret ⟨[(AV.lit (.bool true))], And.intro (AV.le_refl _) (trivial), rfl, ?_⟩
                first | rfl | simp [bp]
              · refine o_skip (b := decide (((if okS (a) && okS (b) then (0) else (1))) = (1))) rfl rfl (decide_eq_false h7) ?_
                refine o_pickF (b := decide (((if okS (a) && okS (b) then (0) else (1))) = (1))) (AV.lit (.bool false)) Gd.none rfl (decide_eq_false h7) rfl ?_
                refine o_assign (AV.lit (.bool false)) Gd.none rfl ?_
                refine aops_end ?_
                refine hK9 _ ?_
                refine awp_ret ?_
                refine post_ret ⟨[(AV.lit (.bool false))], And.intro (AV.le_refl _) (trivial), rfl, ?_⟩
                exact absurd (by first | (simp [ha']; done) | (rw [ha']; rfl) | (rw [ha']; cases okS a <;> rfl)) h7
            · refine o_skip (b := decide (((if okS (a) && okS (b) then (toldE (numS (a) * numS (b))) else (1))) = (1))) rfl rfl (decide_eq_false h6) ?_
              refine o_skip (b := decide (((if okS (a) && okS (b) then (toldE (numS (a) * numS (b))) else (1))) = (1))) rfl rfl (decide_eq_false h6) ?_
              refine o_pickF (b := decide (((if okS (a) && okS (b) then (toldE (numS (a) * numS (b))) else (1))) = (1))) (AV.lit (.bool false)) Gd.none rfl (decide_eq_false h6) rfl ?_
              refine o_move (AV.lit (.bool false)) Gd.none rfl ?_
              refine o_skip (b := false) rfl rfl rfl ?_
              refine o_pickF (b := false) (AV.lit (.bool false)) Gd.none rfl rfl rfl ?_
              refine o_assign (AV.lit (.bool false)) Gd.none rfl ?_
              refine aops_end ?_
              refine hK9 _ ?_
              refine awp_ret ?_
              refine post_ret ⟨[(AV.lit (.bool false))], And.intro (AV.le_refl _) (trivial), rfl, ?_⟩
              exact absurd (by first | (simp [ha']; done) | (rw [ha']; rfl) | (rw [ha']; cases okS a <;> rfl)) h6
          · refine o_skip (b := decide (((if okS (a) && okS (b) then (toldE (numS (a) - numS (b))) else (1))) = (1))) rfl rfl (decide_eq_false h5) ?_
            refine o_skip (b := decide (((if okS (a) && okS (b) then (toldE (numS (a) - numS (b))) else (1))) = (1))) rfl rfl (decide_eq_false h5) ?_
            refine o_pickF (b := decide (((if okS (a) && okS (b) then (toldE (numS (a) - numS (b))) else (1))) = (1))) (AV.lit (.bool false)) Gd.none rfl (decide_eq_false h5) rfl ?_
            refine o_move (AV.lit (.bool false)) Gd.none rfl ?_
            refine o_skip (b := false) rfl rfl rfl ?_
            refine o_skip (b := false) rfl rfl rfl ?_
            refine o_pickF (b := false) (AV.lit (.bool false)) Gd.none rfl rfl rfl ?_
            refine o_move (AV.lit (.bool false)) Gd.none rfl ?_
            refine o_skip (b := false) rfl rfl rfl ?_
            refine o_pickF (b := false) (AV.lit (.bool false)) Gd.none rfl rfl rfl ?_
            refine o_assign (AV.lit (.bool false)) Gd.none rfl ?_
            refine aops_end ?_
            refine hK9 _ ?_
            refine awp_ret ?_
            refine post_ret ⟨[(AV.lit (.bool false))], And.intro (AV.le_refl _) (trivial), rfl, ?_⟩
            exact absurd (by first | (simp [ha']; done) | (rw [ha']; rfl) | (rw [ha']; cases okS a <;> rfl)) h5
        · refine o_skip (b := decide (((if okS (a) && okS (b) then (toldE (numS (a) + numS (b))) else (1))) = (1))) rfl rfl (decide_eq_false h4) ?_
          refine o_skip (b := decide (((if okS (a) && okS (b) then (toldE (numS (a) + numS (b))) else (1))) = (1))) rfl rfl (decide_eq_false h4) ?_
          refine o_pickF (b := decide (((if okS (a) && okS (b) then (toldE (numS (a) + numS (b))) else (1))) = (1))) (AV.lit (.bool false)) Gd.none rfl (decide_eq_false h4) rfl ?_
          refine o_move (AV.lit (.bool false)) Gd.none rfl ?_
          refine o_skip (b := false) rfl rfl rfl ?_
          refine o_skip (b := false) rfl rfl rfl ?_
          refine o_pickF (b := false) (AV.lit (.bool false)) Gd.none rfl rfl rfl ?_
          refine o_move (AV.lit (.bool false)) Gd.none rfl ?_
          refine o_skip (b := false) rfl rfl rfl ?_
          refine o_skip (b := false) rfl rfl rfl ?_
          refine o_pickF (b := false) (AV.lit (.bool false)) Gd.none rfl rfl rfl ?_
          refine o_move (AV.lit (.bool false)) Gd.none rfl ?_
          refine o_skip (b := false) rfl rfl rfl ?_
          refine o_pickF (b := false) (AV.lit (.bool false)) Gd.none rfl rfl rfl ?_
          refine o_assign (AV.lit (.bool false)) Gd.none rfl ?_
          refine aops_end ?_
          refine hK9 _ ?_
          refine awp_ret ?_
          refine post_ret ⟨[(AV.lit (.bool false))], And.intro (AV.le_refl _) (trivial), rfl, ?_⟩
          exact absurd (by first | (simp [ha']; done) | (rw [ha']; rfl) | (rw [ha']; cases okS a <;> rfl)) h4
      · refine o_skip (b := decide (((if okS (a) && okS (b) then (cmpZ (numS (a)) (numS (b))) else (0))) = (((0 : Nat) : Int)))) rfl rfl (decide_eq_false h3) ?_
        refine o_skip (b := decide (((if okS (a) && okS (b) then (cmpZ (numS (a)) (numS (b))) else (0))) = (((0 : Nat) : Int)))) rfl rfl (decide_eq_false h3) ?_
        refine o_pickF (b := decide (((if okS (a) && okS (b) then (cmpZ (numS (a)) (numS (b))) else (0))) = (((0 : Nat) : Int)))) (AV.lit (.bool false)) Gd.none rfl (decide_eq_false h3) rfl ?_
        refine o_move (AV.lit (.bool false)) Gd.none rfl ?_
        refine o_skip (b := false) rfl rfl rfl ?_
        refine o_skip (b := false) rfl rfl rfl ?_
        refine o_pickF (b := false) (AV.lit (.bool false)) Gd.none rfl rfl rfl ?_
        refine o_move (AV.lit (.bool false)) Gd.none rfl ?_
        refine o_skip (b := false) rfl rfl rfl ?_
        refine o_skip (b := false) rfl rfl rfl ?_
        refine o_pickF (b := false) (AV.lit (.bool false)) Gd.none rfl rfl rfl ?_
        refine o_move (AV.lit (.bool false)) Gd.none rfl ?_
        refine o_skip (b := false) rfl rfl rfl ?_
        refine o_skip (b := false) rfl rfl rfl ?_
        refine o_pickF (b := false) (AV.lit (.bool false)) Gd.none rfl rfl rfl ?_
        refine o_move (AV.lit (.bool false)) Gd.none rfl ?_
        refine o_skip (b := false) rfl rfl rfl ?_
        refine o_pickF (b := false) (AV.lit (.bool false)) Gd.none rfl rfl rfl ?_
        refine o_assign (AV.lit (.bool false)) Gd.none rfl ?_
        refine aops_end ?_
        refine hK9 _ ?_
        refine awp_ret ?_
        refine post_ret ⟨[(AV.lit (.bool false))], And.intro (AV.le_refl _) (trivial), rfl, ?_⟩
        exact absurd (by first | (simp [ha']; done) | (rw [ha']; rfl) | (rw [ha']; cases okS a <;> rfl)) h3
    · refine o_skip (b := decide (((((if okS (a) && okS (b) then (toldS (numS (a) + numS (b))) else (({ data := #[] } : ByteArray)))) ++ ((if okS (a) && okS (b) then (toldS (numS (a) - numS (b))) else (({ data := #[] } : ByteArray))))) ++ ((if okS (a) && okS (b) then (toldS (numS (a) * numS (b))) else (({ data := #[] } : ByteArray))))).toList = (({data := #[]} : ByteArray)).toList)) rfl rfl (decide_eq_false h2) ?_
      refine o_skip (b := decide (((((if okS (a) && okS (b) then (toldS (numS (a) + numS (b))) else (({ data := #[] } : ByteArray)))) ++ ((if okS (a) && okS (b) then (toldS (numS (a) - numS (b))) else (({ data := #[] } : ByteArray))))) ++ ((if okS (a) && okS (b) then (toldS (numS (a) * numS (b))) else (({ data := #[] } : ByteArray))))).toList = (({data := #[]} : ByteArray)).toList)) rfl rfl (decide_eq_false h2) ?_
      refine o_pickF (b := decide (((((if okS (a) && okS (b) then (toldS (numS (a) + numS (b))) else (({ data := #[] } : ByteArray)))) ++ ((if okS (a) && okS (b) then (toldS (numS (a) - numS (b))) else (({ data := #[] } : ByteArray))))) ++ ((if okS (a) && okS (b) then (toldS (numS (a) * numS (b))) else (({ data := #[] } : ByteArray))))).toList = (({data := #[]} : ByteArray)).toList)) (AV.lit (.bool false)) Gd.none rfl (decide_eq_false h2) rfl ?_
      refine o_move (AV.lit (.bool false)) Gd.none rfl ?_
      refine o_skip (b := false) rfl rfl rfl ?_
      refine o_skip (b := false) rfl rfl rfl ?_
      refine o_pickF (b := false) (AV.lit (.bool false)) Gd.none rfl rfl rfl ?_
      refine o_move (AV.lit (.bool false)) Gd.none rfl ?_
      refine o_skip (b := false) rfl rfl rfl ?_
      refine o_skip (b := false) rfl rfl rfl ?_
      refine o_pickF (b := false) (AV.lit (.bool false)) Gd.none rfl rfl rfl ?_
      refine o_move (AV.lit (.bool false)) Gd.none rfl ?_
      refine o_skip (b := false) rfl rfl rfl ?_
      refine o_skip (b := false) rfl rfl rfl ?_
      refine o_pickF (b := false) (AV.lit (.bool false)) Gd.none rfl rfl rfl ?_
      refine o_move (AV.lit (.bool false)) Gd.none rfl ?_
      refine o_skip (b := false) rfl rfl rfl ?_
      refine o_skip (b := false) rfl rfl rfl ?_
      refine o_pickF (b := false) (AV.lit (.bool false)) Gd.none rfl rfl rfl ?_
      refine o_move (AV.lit (.bool false)) Gd.none rfl ?_
      refine o_skip (b := false) rfl rfl rfl ?_
      refine o_pickF (b := false) (AV.lit (.bool false)) Gd.none rfl rfl rfl ?_
      refine o_assign (AV.lit (.bool false)) Gd.none rfl ?_
      refine aops_end ?_
      refine hK9 _ ?_
      refine awp_ret ?_
      refine post_ret ⟨[(AV.lit (.bool false))], And.intro (AV.le_refl _) (trivial), rfl, ?_⟩
      exact absurd (by first | (simp [ha']; done) | (rw [ha']; rfl) | (rw [ha']; cases okS a <;> rfl)) h2
  · have ha' : okS a = true := by simpa using h1
    refine o_move (AV.lit (.string (b))) (Gd.yes rfl rfl h1) rfl ?_
    refine o_call [(AV.lit (.string (b)))] (AV.lit (.bool (okS (b)))) (Gd.yes rfl rfl h1) Wv5_tC29 rfl (c_rValid (b) (by first | assumption | decide | omega)) ?_
    refine o_not (b := okS (b)) (Gd.yes rfl rfl h1) rfl ?_
    refine o_pickF (b := !(okS (a))) (AV.lit (.bool (!(okS (b))))) Gd.none rfl h1 rfl ?_
    refine aops_end ?_
    refine hK8 _ ?_
    refine awp_condB (b := !(okS (b))) rfl (fun h8 => ?_) (fun h8 => ?_)
    · have hb' : okS b = false := by simpa using h8
      have q0 : (if okS (a) && okS (b) then (toldS (numS (a) + numS (b))) else (({ data := #[] } : ByteArray))).size = 0 := by rw [hb']; first | rfl | (cases okS a <;> rfl)
      have q1 : (if okS (a) && okS (b) then (toldS (numS (a) - numS (b))) else (({ data := #[] } : ByteArray))).size = 0 := by rw [hb']; first | rfl | (cases okS a <;> rfl)
      have q2 : (if okS (a) && okS (b) then (toldS (numS (a) * numS (b))) else (({ data := #[] } : ByteArray))).size = 0 := by rw [hb']; first | rfl | (cases okS a <;> rfl)
      have q4 : ((if okS (a) && okS (b) then (toldS (numS (a) + numS (b))) else (({ data := #[] } : ByteArray))) ++ (if okS (a) && okS (b) then (toldS (numS (a) - numS (b))) else (({ data := #[] } : ByteArray)))).size = 0 := by rw [ByteArray.size_append]; omega
      refine awp_seq fun K10 hK10 => ?_
      refine awp_region rfl ?_
      refine o_move (AV.lit (.string ((if okS (a) && okS (b) then (toldS (numS (a) + numS (b))) else (({ data := #[] } : ByteArray)))))) Gd.none rfl ?_
      refine o_move (AV.lit (.string ((if okS (a) && okS (b) then (toldS (numS (a) - numS (b))) else (({ data := #[] } : ByteArray)))))) Gd.none rfl ?_
      refine o_addS (a := ((if okS (a) && okS (b) then (toldS (numS (a) + numS (b))) else (({ data := #[] } : ByteArray))))) (c := ((if okS (a) && okS (b) then (toldS (numS (a) - numS (b))) else (({ data := #[] } : ByteArray))))) Gd.none rfl rfl (by omega) ?_
      refine o_move (AV.lit (.string ((if okS (a) && okS (b) then (toldS (numS (a) * numS (b))) else (({ data := #[] } : ByteArray)))))) Gd.none rfl ?_
      refine o_addS (a := (((if okS (a) && okS (b) then (toldS (numS (a) + numS (b))) else (({ data := #[] } : ByteArray)))) ++ ((if okS (a) && okS (b) then (toldS (numS (a) - numS (b))) else (({ data := #[] } : ByteArray)))))) (c := ((if okS (a) && okS (b) then (toldS (numS (a) * numS (b))) else (({ data := #[] } : ByteArray))))) Gd.none rfl rfl (by omega) ?_
      refine o_eqlS (a := ((((if okS (a) && okS (b) then (toldS (numS (a) + numS (b))) else (({ data := #[] } : ByteArray)))) ++ ((if okS (a) && okS (b) then (toldS (numS (a) - numS (b))) else (({ data := #[] } : ByteArray))))) ++ ((if okS (a) && okS (b) then (toldS (numS (a) * numS (b))) else (({ data := #[] } : ByteArray)))))) (c := (({data := #[]} : ByteArray))) Gd.none rfl rfl ?_
      refine o_move (bp (((((if okS (a) && okS (b) then (toldS (numS (a) + numS (b))) else (({ data := #[] } : ByteArray)))) ++ ((if okS (a) && okS (b) then (toldS (numS (a) - numS (b))) else (({ data := #[] } : ByteArray))))) ++ ((if okS (a) && okS (b) then (toldS (numS (a) * numS (b))) else (({ data := #[] } : ByteArray))))).toList = (({data := #[]} : ByteArray)).toList)) Gd.none rfl ?_
      refine o_splitP (q := ((((if okS (a) && okS (b) then (toldS (numS (a) + numS (b))) else (({ data := #[] } : ByteArray)))) ++ ((if okS (a) && okS (b) then (toldS (numS (a) - numS (b))) else (({ data := #[] } : ByteArray))))) ++ ((if okS (a) && okS (b) then (toldS (numS (a) * numS (b))) else (({ data := #[] } : ByteArray))))).toList = (({data := #[]} : ByteArray)).toList) 65 rfl (fun h9 => ?_) (fun h9 => ?_)
      · refine o_move (AV.lit (.int .i64 ((if okS (a) && okS (b) then (cmpZ (numS (a)) (numS (b))) else (0))))) (Gd.yes rfl rfl (decide_eq_true h9)) rfl ?_
        refine o_eql (a := ((if okS (a) && okS (b) then (cmpZ (numS (a)) (numS (b))) else (0)))) (c := (((0 : Nat) : Int))) (Gd.yes rfl rfl (decide_eq_true h9)) rfl rfl ?_
        refine o_pickT (b := decide (((((if okS (a) && okS (b) then (toldS (numS (a) + numS (b))) else (({ data := #[] } : ByteArray)))) ++ ((if okS (a) && okS (b) then (toldS (numS (a) - numS (b))) else (({ data := #[] } : ByteArray))))) ++ ((if okS (a) && okS (b) then (toldS (numS (a) * numS (b))) else (({ data := #[] } : ByteArray))))).toList = (({data := #[]} : ByteArray)).toList)) (bp (((if okS (a) && okS (b) then (cmpZ (numS (a)) (numS (b))) else (0))) = (((0 : Nat) : Int)))) Gd.none rfl (decide_eq_true h9) rfl ?_
        refine o_move (bp (((if okS (a) && okS (b) then (cmpZ (numS (a)) (numS (b))) else (0))) = (((0 : Nat) : Int)))) Gd.none rfl ?_
        refine o_splitP (q := ((if okS (a) && okS (b) then (cmpZ (numS (a)) (numS (b))) else (0))) = (((0 : Nat) : Int))) 69 rfl (fun h10 => ?_) (fun h10 => ?_)
        · refine o_move (nm .i64 ((if okS (a) && okS (b) then (toldE (numS (a) + numS (b))) else (1)))) (Gd.yes rfl rfl (decide_eq_true h10)) rfl ?_
          refine n_eql ((if okS (a) && okS (b) then (toldE (numS (a) + numS (b))) else (1))) (1) (Gd.yes rfl rfl (decide_eq_true h10)) rfl rfl ?_
          refine o_pickT (b := decide (((if okS (a) && okS (b) then (cmpZ (numS (a)) (numS (b))) else (0))) = (((0 : Nat) : Int)))) (bp (((if okS (a) && okS (b) then (toldE (numS (a) + numS (b))) else (1))) = (1))) Gd.none rfl (decide_eq_true h10) rfl ?_
          refine o_move (bp (((if okS (a) && okS (b) then (toldE (numS (a) + numS (b))) else (1))) = (1))) Gd.none rfl ?_
          refine o_splitP (q := ((if okS (a) && okS (b) then (toldE (numS (a) + numS (b))) else (1))) = (1)) 73 rfl (fun h11 => ?_) (fun h11 => ?_)
          · refine o_move (nm .i64 ((if okS (a) && okS (b) then (toldE (numS (a) - numS (b))) else (1)))) (Gd.yes rfl rfl (decide_eq_true h11)) rfl ?_
            refine n_eql ((if okS (a) && okS (b) then (toldE (numS (a) - numS (b))) else (1))) (1) (Gd.yes rfl rfl (decide_eq_true h11)) rfl rfl ?_
            refine o_pickT (b := decide (((if okS (a) && okS (b) then (toldE (numS (a) + numS (b))) else (1))) = (1))) (bp (((if okS (a) && okS (b) then (toldE (numS (a) - numS (b))) else (1))) = (1))) Gd.none rfl (decide_eq_true h11) rfl ?_
            refine o_move (bp (((if okS (a) && okS (b) then (toldE (numS (a) - numS (b))) else (1))) = (1))) Gd.none rfl ?_
            refine o_splitP (q := ((if okS (a) && okS (b) then (toldE (numS (a) - numS (b))) else (1))) = (1)) 77 rfl (fun h12 => ?_) (fun h12 => ?_)
            · refine o_move (nm .i64 ((if okS (a) && okS (b) then (toldE (numS (a) * numS (b))) else (1)))) (Gd.yes rfl rfl (decide_eq_true h12)) rfl ?_
              refine n_eql ((if okS (a) && okS (b) then (toldE (numS (a) * numS (b))) else (1))) (1) (Gd.yes rfl rfl (decide_eq_true h12)) rfl rfl ?_
              refine o_pickT (b := decide (((if okS (a) && okS (b) then (toldE (numS (a) - numS (b))) else (1))) = (1))) (bp (((if okS (a) && okS (b) then (toldE (numS (a) * numS (b))) else (1))) = (1))) Gd.none rfl (decide_eq_true h12) rfl ?_
              refine o_move (bp (((if okS (a) && okS (b) then (toldE (numS (a) * numS (b))) else (1))) = (1))) Gd.none rfl ?_
              refine o_splitP (q := ((if okS (a) && okS (b) then (toldE (numS (a) * numS (b))) else (1))) = (1)) 81 rfl (fun h13 => ?_) (fun h13 => ?_)
              · refine o_move (nm .i64 ((if okS (a) && okS (b) then (0) else (1)))) (Gd.yes rfl rfl (decide_eq_true h13)) rfl ?_
                refine n_eql ((if okS (a) && okS (b) then (0) else (1))) (1) (Gd.yes rfl rfl (decide_eq_true h13)) rfl rfl ?_
                refine o_pickT (b := decide (((if okS (a) && okS (b) then (toldE (numS (a) * numS (b))) else (1))) = (1))) (bp (((if okS (a) && okS (b) then (0) else (1))) = (1))) Gd.none rfl (decide_eq_true h13) rfl ?_
                refine o_move (bp (((if okS (a) && okS (b) then (0) else (1))) = (1))) Gd.none rfl ?_
                refine o_splitP (q := ((if okS (a) && okS (b) then (0) else (1))) = (1)) 85 rfl (fun h14 => ?_) (fun h14 => ?_)
                · refine o_call [] (AV.lit (.bool true)) (Gd.yes rfl rfl (decide_eq_true h14)) Wv5_tC49 rfl c_l1Awake ?_
                  refine o_pickT (b := decide (((if okS (a) && okS (b) then (0) else (1))) = (1))) (AV.lit (.bool true)) Gd.none rfl (decide_eq_true h14) rfl ?_
                  refine o_assign (AV.lit (.bool true)) Gd.none rfl ?_
                  refine aops_end ?_
                  refine hK10 _ ?_
                  refine awp_ret ?_
                  refine post_ret ⟨[(AV.lit (.bool true))], And.intro (AV.le_refl _) (trivial), rfl, ?_⟩
                  first | rfl | simp [bp]
                · refine o_skip (b := decide (((if okS (a) && okS (b) then (0) else (1))) = (1))) rfl rfl (decide_eq_false h14) ?_
                  refine o_pickF (b := decide (((if okS (a) && okS (b) then (0) else (1))) = (1))) (AV.lit (.bool false)) Gd.none rfl (decide_eq_false h14) rfl ?_
                  refine o_assign (AV.lit (.bool false)) Gd.none rfl ?_
                  refine aops_end ?_
                  refine hK10 _ ?_
                  refine awp_ret ?_
                  refine post_ret ⟨[(AV.lit (.bool false))], And.intro (AV.le_refl _) (trivial), rfl, ?_⟩
                  exact absurd (by first | (simp [hb']; done) | (rw [hb']; rfl) | (rw [hb']; cases okS a <;> rfl)) h14
              · refine o_skip (b := decide (((if okS (a) && okS (b) then (toldE (numS (a) * numS (b))) else (1))) = (1))) rfl rfl (decide_eq_false h13) ?_
                refine o_skip (b := decide (((if okS (a) && okS (b) then (toldE (numS (a) * numS (b))) else (1))) = (1))) rfl rfl (decide_eq_false h13) ?_
                refine o_pickF (b := decide (((if okS (a) && okS (b) then (toldE (numS (a) * numS (b))) else (1))) = (1))) (AV.lit (.bool false)) Gd.none rfl (decide_eq_false h13) rfl ?_
                refine o_move (AV.lit (.bool false)) Gd.none rfl ?_
                refine o_skip (b := false) rfl rfl rfl ?_
                refine o_pickF (b := false) (AV.lit (.bool false)) Gd.none rfl rfl rfl ?_
                refine o_assign (AV.lit (.bool false)) Gd.none rfl ?_
                refine aops_end ?_
                refine hK10 _ ?_
                refine awp_ret ?_
                refine post_ret ⟨[(AV.lit (.bool false))], And.intro (AV.le_refl _) (trivial), rfl, ?_⟩
                exact absurd (by first | (simp [hb']; done) | (rw [hb']; rfl) | (rw [hb']; cases okS a <;> rfl)) h13
            · refine o_skip (b := decide (((if okS (a) && okS (b) then (toldE (numS (a) - numS (b))) else (1))) = (1))) rfl rfl (decide_eq_false h12) ?_
              refine o_skip (b := decide (((if okS (a) && okS (b) then (toldE (numS (a) - numS (b))) else (1))) = (1))) rfl rfl (decide_eq_false h12) ?_
              refine o_pickF (b := decide (((if okS (a) && okS (b) then (toldE (numS (a) - numS (b))) else (1))) = (1))) (AV.lit (.bool false)) Gd.none rfl (decide_eq_false h12) rfl ?_
              refine o_move (AV.lit (.bool false)) Gd.none rfl ?_
              refine o_skip (b := false) rfl rfl rfl ?_
              refine o_skip (b := false) rfl rfl rfl ?_
              refine o_pickF (b := false) (AV.lit (.bool false)) Gd.none rfl rfl rfl ?_
              refine o_move (AV.lit (.bool false)) Gd.none rfl ?_
              refine o_skip (b := false) rfl rfl rfl ?_
              refine o_pickF (b := false) (AV.lit (.bool false)) Gd.none rfl rfl rfl ?_
              refine o_assign (AV.lit (.bool false)) Gd.none rfl ?_
              refine aops_end ?_
              refine hK10 _ ?_
              refine awp_ret ?_
              refine post_ret ⟨[(AV.lit (.bool false))], And.intro (AV.le_refl _) (trivial), rfl, ?_⟩
              exact absurd (by first | (simp [hb']; done) | (rw [hb']; rfl) | (rw [hb']; cases okS a <;> rfl)) h12
          · refine o_skip (b := decide (((if okS (a) && okS (b) then (toldE (numS (a) + numS (b))) else (1))) = (1))) rfl rfl (decide_eq_false h11) ?_
            refine o_skip (b := decide (((if okS (a) && okS (b) then (toldE (numS (a) + numS (b))) else (1))) = (1))) rfl rfl (decide_eq_false h11) ?_
            refine o_pickF (b := decide (((if okS (a) && okS (b) then (toldE (numS (a) + numS (b))) else (1))) = (1))) (AV.lit (.bool false)) Gd.none rfl (decide_eq_false h11) rfl ?_
            refine o_move (AV.lit (.bool false)) Gd.none rfl ?_
            refine o_skip (b := false) rfl rfl rfl ?_
            refine o_skip (b := false) rfl rfl rfl ?_
            refine o_pickF (b := false) (AV.lit (.bool false)) Gd.none rfl rfl rfl ?_
            refine o_move (AV.lit (.bool false)) Gd.none rfl ?_
            refine o_skip (b := false) rfl rfl rfl ?_
            refine o_skip (b := false) rfl rfl rfl ?_
            refine o_pickF (b := false) (AV.lit (.bool false)) Gd.none rfl rfl rfl ?_
            refine o_move (AV.lit (.bool false)) Gd.none rfl ?_
            refine o_skip (b := false) rfl rfl rfl ?_
            refine o_pickF (b := false) (AV.lit (.bool false)) Gd.none rfl rfl rfl ?_
            refine o_assign (AV.lit (.bool false)) Gd.none rfl ?_
            refine aops_end ?_
            refine hK10 _ ?_
            refine awp_ret ?_
            refine post_ret ⟨[(AV.lit (.bool false))], And.intro (AV.le_refl _) (trivial), rfl, ?_⟩
            exact absurd (by first | (simp [hb']; done) | (rw [hb']; rfl) | (rw [hb']; cases okS a <;> rfl)) h11
        · refine o_skip (b := decide (((if okS (a) && okS (b) then (cmpZ (numS (a)) (numS (b))) else (0))) = (((0 : Nat) : Int)))) rfl rfl (decide_eq_false h10) ?_
          refine o_skip (b := decide (((if okS (a) && okS (b) then (cmpZ (numS (a)) (numS (b))) else (0))) = (((0 : Nat) : Int)))) rfl rfl (decide_eq_false h10) ?_
          refine o_pickF (b := decide (((if okS (a) && okS (b) then (cmpZ (numS (a)) (numS (b))) else (0))) = (((0 : Nat) : Int)))) (AV.lit (.bool false)) Gd.none rfl (decide_eq_false h10) rfl ?_
          refine o_move (AV.lit (.bool false)) Gd.none rfl ?_
          refine o_skip (b := false) rfl rfl rfl ?_
          refine o_skip (b := false) rfl rfl rfl ?_
          refine o_pickF (b := false) (AV.lit (.bool false)) Gd.none rfl rfl rfl ?_
          refine o_move (AV.lit (.bool false)) Gd.none rfl ?_
          refine o_skip (b := false) rfl rfl rfl ?_
          refine o_skip (b := false) rfl rfl rfl ?_
          refine o_pickF (b := false) (AV.lit (.bool false)) Gd.none rfl rfl rfl ?_
          refine o_move (AV.lit (.bool false)) Gd.none rfl ?_
          refine o_skip (b := false) rfl rfl rfl ?_
          refine o_skip (b := false) rfl rfl rfl ?_
          refine o_pickF (b := false) (AV.lit (.bool false)) Gd.none rfl rfl rfl ?_
          refine o_move (AV.lit (.bool false)) Gd.none rfl ?_
          refine o_skip (b := false) rfl rfl rfl ?_
          refine o_pickF (b := false) (AV.lit (.bool false)) Gd.none rfl rfl rfl ?_
          refine o_assign (AV.lit (.bool false)) Gd.none rfl ?_
          refine aops_end ?_
          refine hK10 _ ?_
          refine awp_ret ?_
          refine post_ret ⟨[(AV.lit (.bool false))], And.intro (AV.le_refl _) (trivial), rfl, ?_⟩
          exact absurd (by first | (simp [hb']; done) | (rw [hb']; rfl) | (rw [hb']; cases okS a <;> rfl)) h10
      · refine o_skip (b := decide (((((if okS (a) && okS (b) then (toldS (numS (a) + numS (b))) else (({ data := #[] } : ByteArray)))) ++ ((if okS (a) && okS (b) then (toldS (numS (a) - numS (b))) else (({ data := #[] } : ByteArray))))) ++ ((if okS (a) && okS (b) then (toldS (numS (a) * numS (b))) else (({ data := #[] } : ByteArray))))).toList = (({data := #[]} : ByteArray)).toList)) rfl rfl (decide_eq_false h9) ?_
        refine o_skip (b := decide (((((if okS (a) && okS (b) then (toldS (numS (a) + numS (b))) else (({ data := #[] } : ByteArray)))) ++ ((if okS (a) && okS (b) then (toldS (numS (a) - numS (b))) else (({ data := #[] } : ByteArray))))) ++ ((if okS (a) && okS (b) then (toldS (numS (a) * numS (b))) else (({ data := #[] } : ByteArray))))).toList = (({data := #[]} : ByteArray)).toList)) rfl rfl (decide_eq_false h9) ?_
        refine o_pickF (b := decide (((((if okS (a) && okS (b) then (toldS (numS (a) + numS (b))) else (({ data := #[] } : ByteArray)))) ++ ((if okS (a) && okS (b) then (toldS (numS (a) - numS (b))) else (({ data := #[] } : ByteArray))))) ++ ((if okS (a) && okS (b) then (toldS (numS (a) * numS (b))) else (({ data := #[] } : ByteArray))))).toList = (({data := #[]} : ByteArray)).toList)) (AV.lit (.bool false)) Gd.none rfl (decide_eq_false h9) rfl ?_
        refine o_move (AV.lit (.bool false)) Gd.none rfl ?_
        refine o_skip (b := false) rfl rfl rfl ?_
        refine o_skip (b := false) rfl rfl rfl ?_
        refine o_pickF (b := false) (AV.lit (.bool false)) Gd.none rfl rfl rfl ?_
        refine o_move (AV.lit (.bool false)) Gd.none rfl ?_
        refine o_skip (b := false) rfl rfl rfl ?_
        refine o_skip (b := false) rfl rfl rfl ?_
        refine o_pickF (b := false) (AV.lit (.bool false)) Gd.none rfl rfl rfl ?_
        refine o_move (AV.lit (.bool false)) Gd.none rfl ?_
        refine o_skip (b := false) rfl rfl rfl ?_
        refine o_skip (b := false) rfl rfl rfl ?_
        refine o_pickF (b := false) (AV.lit (.bool false)) Gd.none rfl rfl rfl ?_
        refine o_move (AV.lit (.bool false)) Gd.none rfl ?_
        refine o_skip (b := false) rfl rfl rfl ?_
        refine o_skip (b := false) rfl rfl rfl ?_
        refine o_pickF (b := false) (AV.lit (.bool false)) Gd.none rfl rfl rfl ?_
        refine o_move (AV.lit (.bool false)) Gd.none rfl ?_
        refine o_skip (b := false) rfl rfl rfl ?_
        refine o_pickF (b := false) (AV.lit (.bool false)) Gd.none rfl rfl rfl ?_
        refine o_assign (AV.lit (.bool false)) Gd.none rfl ?_
        refine aops_end ?_
        refine hK10 _ ?_
        refine awp_ret ?_
        refine post_ret ⟨[(AV.lit (.bool false))], And.intro (AV.le_refl _) (trivial), rfl, ?_⟩
        exact absurd (by first | (simp [hb']; done) | (rw [hb']; rfl) | (rw [hb']; cases okS a <;> rfl)) h9
    · have hb' : okS b = true := by simpa using h8
      have hla := len_numS (okS_iff.1 ha')
      have hlb := len_numS (okS_iff.1 hb')
      have hl1 := len_addZ (numS a) (numS b)
      have hl2 := len_addZ (numS a) (-numS b)
      rw [Int.natAbs_neg, ← Int.sub_eq_add_neg] at hl2
      have hl3 := len_mulZ (numS a) (numS b)
      refine awp_skip ?_
      refine hK7 _ ?_
      refine awp_seq fun K11 hK11 => ?_
      refine awp_region rfl ?_
      refine o_move (AV.lit (.string (a))) Gd.none rfl ?_
      refine o_call [(AV.lit (.string (a)))] (intR ((numS (a)))) Gd.none Wv5_tC24 rfl (c_rParse (a) (by first | assumption | exact okS_iff.1 (by assumption))) ?_
      refine o_move (AV.lit (.string (b))) Gd.none rfl ?_
      refine o_call [(AV.lit (.string (b)))] (intR ((numS (b)))) Gd.none Wv5_tC24 rfl (c_rParse (b) (by first | assumption | exact okS_iff.1 (by assumption))) ?_
      refine o_alloc 2 [(AV.lit (.bool false)), (AV.lit (.slice none 0 0))] Gd.none Wv5_tO36 rfl rfl rfl ?_
      refine o_alloc 3 [(AV.lit (.bool false)), (AV.lit (.slice none 0 0))] Gd.none Wv5_tO36 rfl rfl rfl ?_
      refine o_store [(3, (AO.var 36 [(AV.lit (.bool false)), (AV.lit (.slice none 0 0))])), (2, (AO.var 36 [(bp ((numS (a)) < 0)), (AV.sl 1 (ns .i64 (digs ((numS (a))).natAbs)))]))] Gd.none Wv5_tZ36 rfl rfl rfl rfl rfl rfl ?_
      refine o_store [(3, (AO.var 36 [(bp ((numS (b)) < 0)), (AV.sl 1 (ns .i64 (digs ((numS (b))).natAbs)))])), (2, (AO.var 36 [(bp ((numS (a)) < 0)), (AV.sl 1 (ns .i64 (digs ((numS (a))).natAbs)))]))] Gd.none Wv5_tZ36 rfl rfl rfl rfl rfl rfl ?_
      refine aops_end ?_
      refine hK11 _ ?_
      refine awp_seq fun K12 hK12 => ?_
      refine awp_region rfl ?_
      refine o_move (AV.lit (.string ((if okS (a) && okS (b) then (toldS (numS (a) + numS (b))) else (({ data := #[] } : ByteArray)))))) Gd.none rfl ?_
      refine o_move (nm .i64 ((if okS (a) && okS (b) then (toldE (numS (a) + numS (b))) else (1)))) Gd.none rfl ?_
      refine o_loadA [(bp ((numS (a)) < 0)), (AV.sl 1 (ns .i64 (digs ((numS (a))).natAbs)))] Gd.none Wv5_tA36 rfl rfl rfl rfl rfl ?_
      refine o_loadA [(bp ((numS (b)) < 0)), (AV.sl 1 (ns .i64 (digs ((numS (b))).natAbs)))] Gd.none Wv5_tA36 rfl rfl rfl rfl rfl ?_
      refine o_call [(AV.agg [(bp ((numS (a)) < 0)), (AV.sl 1 (ns .i64 (digs ((numS (a))).natAbs)))]), (AV.agg [(bp ((numS (b)) < 0)), (AV.sl 1 (ns .i64 (digs ((numS (b))).natAbs)))])] (intR (((numS (a)) + (numS (b))))) Gd.none Wv5_tC32 rfl (c_rAdd ((numS (a))) ((numS (b))) (by first | assumption | omega | (simp only [Int.natAbs_neg]; omega)) (by first | assumption | omega | (simp only [Int.natAbs_neg]; omega))) ?_
      refine o_call [(AV.lit (.string ((if okS (a) && okS (b) then (toldS (numS (a) + numS (b))) else (({ data := #[] } : ByteArray)))))), (nm .i64 ((if okS (a) && okS (b) then (toldE (numS (a) + numS (b))) else (1)))), (intR (((numS (a)) + (numS (b)))))] (bp ((if okS (a) && okS (b) then (toldS (numS (a) + numS (b))) else (({ data := #[] } : ByteArray))) = toldS ((numS (a)) + (numS (b))) ∧ (if okS (a) && okS (b) then (toldE (numS (a) + numS (b))) else (1)) = toldE ((numS (a)) + (numS (b))))) Gd.none Wv5_tC59 rfl (c_l1Told ((if okS (a) && okS (b) then (toldS (numS (a) + numS (b))) else (({ data := #[] } : ByteArray)))) ((if okS (a) && okS (b) then (toldE (numS (a) + numS (b))) else (1))) (((numS (a)) + (numS (b)))) (by first | assumption | omega | (simp only [Int.natAbs_neg]; omega))) ?_
      refine o_move (bp ((if okS (a) && okS (b) then (toldS (numS (a) + numS (b))) else (({ data := #[] } : ByteArray))) = toldS ((numS (a)) + (numS (b))) ∧ (if okS (a) && okS (b) then (toldE (numS (a) + numS (b))) else (1)) = toldE ((numS (a)) + (numS (b))))) Gd.none rfl ?_
      refine o_splitP (q := (if okS (a) && okS (b) then (toldS (numS (a) + numS (b))) else (({ data := #[] } : ByteArray))) = toldS ((numS (a)) + (numS (b))) ∧ (if okS (a) && okS (b) then (toldE (numS (a) + numS (b))) else (1)) = toldE ((numS (a)) + (numS (b)))) 98 rfl (fun h15 => ?_) (fun h15 => ?_)
      · refine o_move (AV.lit (.string ((if okS (a) && okS (b) then (toldS (numS (a) - numS (b))) else (({ data := #[] } : ByteArray)))))) (Gd.yes rfl rfl (decide_eq_true h15)) rfl ?_
        refine o_move (nm .i64 ((if okS (a) && okS (b) then (toldE (numS (a) - numS (b))) else (1)))) (Gd.yes rfl rfl (decide_eq_true h15)) rfl ?_
        refine o_loadA [(bp ((numS (a)) < 0)), (AV.sl 1 (ns .i64 (digs ((numS (a))).natAbs)))] (Gd.yes rfl rfl (decide_eq_true h15)) Wv5_tA36 rfl rfl rfl rfl rfl ?_
        refine o_loadA [(bp ((numS (b)) < 0)), (AV.sl 1 (ns .i64 (digs ((numS (b))).natAbs)))] (Gd.yes rfl rfl (decide_eq_true h15)) Wv5_tA36 rfl rfl rfl rfl rfl ?_
        refine o_call [(AV.agg [(bp ((numS (a)) < 0)), (AV.sl 1 (ns .i64 (digs ((numS (a))).natAbs)))]), (AV.agg [(bp ((numS (b)) < 0)), (AV.sl 1 (ns .i64 (digs ((numS (b))).natAbs)))])] (intR (((numS (a)) - (numS (b))))) (Gd.yes rfl rfl (decide_eq_true h15)) Wv5_tC35 rfl (c_rSub ((numS (a))) ((numS (b))) (by first | assumption | omega | (simp only [Int.natAbs_neg]; omega)) (by first | assumption | omega | (simp only [Int.natAbs_neg]; omega))) ?_
        refine o_call [(AV.lit (.string ((if okS (a) && okS (b) then (toldS (numS (a) - numS (b))) else (({ data := #[] } : ByteArray)))))), (nm .i64 ((if okS (a) && okS (b) then (toldE (numS (a) - numS (b))) else (1)))), (intR (((numS (a)) - (numS (b)))))] (bp ((if okS (a) && okS (b) then (toldS (numS (a) - numS (b))) else (({ data := #[] } : ByteArray))) = toldS ((numS (a)) - (numS (b))) ∧ (if okS (a) && okS (b) then (toldE (numS (a) - numS (b))) else (1)) = toldE ((numS (a)) - (numS (b))))) (Gd.yes rfl rfl (decide_eq_true h15)) Wv5_tC59 rfl (c_l1Told ((if okS (a) && okS (b) then (toldS (numS (a) - numS (b))) else (({ data := #[] } : ByteArray)))) ((if okS (a) && okS (b) then (toldE (numS (a) - numS (b))) else (1))) (((numS (a)) - (numS (b)))) (by first | assumption | omega | (simp only [Int.natAbs_neg]; omega))) ?_
        refine o_pickT (b := decide ((if okS (a) && okS (b) then (toldS (numS (a) + numS (b))) else (({ data := #[] } : ByteArray))) = toldS ((numS (a)) + (numS (b))) ∧ (if okS (a) && okS (b) then (toldE (numS (a) + numS (b))) else (1)) = toldE ((numS (a)) + (numS (b))))) (bp ((if okS (a) && okS (b) then (toldS (numS (a) - numS (b))) else (({ data := #[] } : ByteArray))) = toldS ((numS (a)) - (numS (b))) ∧ (if okS (a) && okS (b) then (toldE (numS (a) - numS (b))) else (1)) = toldE ((numS (a)) - (numS (b))))) Gd.none rfl (decide_eq_true h15) rfl ?_
        refine o_move (bp ((if okS (a) && okS (b) then (toldS (numS (a) - numS (b))) else (({ data := #[] } : ByteArray))) = toldS ((numS (a)) - (numS (b))) ∧ (if okS (a) && okS (b) then (toldE (numS (a) - numS (b))) else (1)) = toldE ((numS (a)) - (numS (b))))) Gd.none rfl ?_
        refine o_splitP (q := (if okS (a) && okS (b) then (toldS (numS (a) - numS (b))) else (({ data := #[] } : ByteArray))) = toldS ((numS (a)) - (numS (b))) ∧ (if okS (a) && okS (b) then (toldE (numS (a) - numS (b))) else (1)) = toldE ((numS (a)) - (numS (b)))) 106 rfl (fun h16 => ?_) (fun h16 => ?_)
        · refine o_move (AV.lit (.string ((if okS (a) && okS (b) then (toldS (numS (a) * numS (b))) else (({ data := #[] } : ByteArray)))))) (Gd.yes rfl rfl (decide_eq_true h16)) rfl ?_
          refine o_move (nm .i64 ((if okS (a) && okS (b) then (toldE (numS (a) * numS (b))) else (1)))) (Gd.yes rfl rfl (decide_eq_true h16)) rfl ?_
          refine o_loadA [(bp ((numS (a)) < 0)), (AV.sl 1 (ns .i64 (digs ((numS (a))).natAbs)))] (Gd.yes rfl rfl (decide_eq_true h16)) Wv5_tA36 rfl rfl rfl rfl rfl ?_
          refine o_loadA [(bp ((numS (b)) < 0)), (AV.sl 1 (ns .i64 (digs ((numS (b))).natAbs)))] (Gd.yes rfl rfl (decide_eq_true h16)) Wv5_tA36 rfl rfl rfl rfl rfl ?_
          refine o_call [(AV.agg [(bp ((numS (a)) < 0)), (AV.sl 1 (ns .i64 (digs ((numS (a))).natAbs)))]), (AV.agg [(bp ((numS (b)) < 0)), (AV.sl 1 (ns .i64 (digs ((numS (b))).natAbs)))])] (intR (((numS (a)) * (numS (b))))) (Gd.yes rfl rfl (decide_eq_true h16)) Wv5_tC30 rfl (c_rMul ((numS (a))) ((numS (b))) (by first | assumption | omega | (simp only [Int.natAbs_neg]; omega)) (by first | assumption | omega | (simp only [Int.natAbs_neg]; omega))) ?_
          refine o_call [(AV.lit (.string ((if okS (a) && okS (b) then (toldS (numS (a) * numS (b))) else (({ data := #[] } : ByteArray)))))), (nm .i64 ((if okS (a) && okS (b) then (toldE (numS (a) * numS (b))) else (1)))), (intR (((numS (a)) * (numS (b)))))] (bp ((if okS (a) && okS (b) then (toldS (numS (a) * numS (b))) else (({ data := #[] } : ByteArray))) = toldS ((numS (a)) * (numS (b))) ∧ (if okS (a) && okS (b) then (toldE (numS (a) * numS (b))) else (1)) = toldE ((numS (a)) * (numS (b))))) (Gd.yes rfl rfl (decide_eq_true h16)) Wv5_tC59 rfl (c_l1Told ((if okS (a) && okS (b) then (toldS (numS (a) * numS (b))) else (({ data := #[] } : ByteArray)))) ((if okS (a) && okS (b) then (toldE (numS (a) * numS (b))) else (1))) (((numS (a)) * (numS (b)))) (by first | assumption | omega | (simp only [Int.natAbs_neg]; omega))) ?_
          refine o_pickT (b := decide ((if okS (a) && okS (b) then (toldS (numS (a) - numS (b))) else (({ data := #[] } : ByteArray))) = toldS ((numS (a)) - (numS (b))) ∧ (if okS (a) && okS (b) then (toldE (numS (a) - numS (b))) else (1)) = toldE ((numS (a)) - (numS (b))))) (bp ((if okS (a) && okS (b) then (toldS (numS (a) * numS (b))) else (({ data := #[] } : ByteArray))) = toldS ((numS (a)) * (numS (b))) ∧ (if okS (a) && okS (b) then (toldE (numS (a) * numS (b))) else (1)) = toldE ((numS (a)) * (numS (b))))) Gd.none rfl (decide_eq_true h16) rfl ?_
          refine o_move (bp ((if okS (a) && okS (b) then (toldS (numS (a) * numS (b))) else (({ data := #[] } : ByteArray))) = toldS ((numS (a)) * (numS (b))) ∧ (if okS (a) && okS (b) then (toldE (numS (a) * numS (b))) else (1)) = toldE ((numS (a)) * (numS (b))))) Gd.none rfl ?_
          refine o_splitP (q := (if okS (a) && okS (b) then (toldS (numS (a) * numS (b))) else (({ data := #[] } : ByteArray))) = toldS ((numS (a)) * (numS (b))) ∧ (if okS (a) && okS (b) then (toldE (numS (a) * numS (b))) else (1)) = toldE ((numS (a)) * (numS (b)))) 114 rfl (fun h17 => ?_) (fun h17 => ?_)
          · refine o_move (AV.lit (.int .i64 ((if okS (a) && okS (b) then (cmpZ (numS (a)) (numS (b))) else (0))))) (Gd.yes rfl rfl (decide_eq_true h17)) rfl ?_
            refine o_loadA [(bp ((numS (a)) < 0)), (AV.sl 1 (ns .i64 (digs ((numS (a))).natAbs)))] (Gd.yes rfl rfl (decide_eq_true h17)) Wv5_tA36 rfl rfl rfl rfl rfl ?_
            refine o_loadA [(bp ((numS (b)) < 0)), (AV.sl 1 (ns .i64 (digs ((numS (b))).natAbs)))] (Gd.yes rfl rfl (decide_eq_true h17)) Wv5_tA36 rfl rfl rfl rfl rfl ?_
            refine o_call [(AV.agg [(bp ((numS (a)) < 0)), (AV.sl 1 (ns .i64 (digs ((numS (a))).natAbs)))]), (AV.agg [(bp ((numS (b)) < 0)), (AV.sl 1 (ns .i64 (digs ((numS (b))).natAbs)))])] (AV.lit (.int .i64 (cmpZ ((numS (a))) ((numS (b)))))) (Gd.yes rfl rfl (decide_eq_true h17)) Wv5_tC34 rfl (c_rCmp ((numS (a))) ((numS (b)))) ?_
            refine o_eql (a := ((if okS (a) && okS (b) then (cmpZ (numS (a)) (numS (b))) else (0)))) (c := (cmpZ ((numS (a))) ((numS (b))))) (Gd.yes rfl rfl (decide_eq_true h17)) rfl rfl ?_
            refine o_pickT (b := decide ((if okS (a) && okS (b) then (toldS (numS (a) * numS (b))) else (({ data := #[] } : ByteArray))) = toldS ((numS (a)) * (numS (b))) ∧ (if okS (a) && okS (b) then (toldE (numS (a) * numS (b))) else (1)) = toldE ((numS (a)) * (numS (b))))) (bp (((if okS (a) && okS (b) then (cmpZ (numS (a)) (numS (b))) else (0))) = (cmpZ ((numS (a))) ((numS (b)))))) Gd.none rfl (decide_eq_true h17) rfl ?_
            refine o_move (bp (((if okS (a) && okS (b) then (cmpZ (numS (a)) (numS (b))) else (0))) = (cmpZ ((numS (a))) ((numS (b)))))) Gd.none rfl ?_
            refine o_splitP (q := ((if okS (a) && okS (b) then (cmpZ (numS (a)) (numS (b))) else (0))) = (cmpZ ((numS (a))) ((numS (b))))) 121 rfl (fun h18 => ?_) (fun h18 => ?_)
            · refine o_move (nm .i64 ((if okS (a) && okS (b) then (0) else (1)))) (Gd.yes rfl rfl (decide_eq_true h18)) rfl ?_
              refine n_eql ((if okS (a) && okS (b) then (0) else (1))) (0) (Gd.yes rfl rfl (decide_eq_true h18)) rfl rfl ?_
              refine o_pickT (b := decide (((if okS (a) && okS (b) then (cmpZ (numS (a)) (numS (b))) else (0))) = (cmpZ ((numS (a))) ((numS (b)))))) (bp (((if okS (a) && okS (b) then (0) else (1))) = (0))) Gd.none rfl (decide_eq_true h18) rfl ?_
              refine o_move (bp (((if okS (a) && okS (b) then (0) else (1))) = (0))) Gd.none rfl ?_
              refine o_splitP (q := ((if okS (a) && okS (b) then (0) else (1))) = (0)) 125 rfl (fun h19 => ?_) (fun h19 => ?_)
              · refine o_call [] (AV.lit (.bool true)) (Gd.yes rfl rfl (decide_eq_true h19)) Wv5_tC49 rfl c_l1Awake ?_
                refine o_pickT (b := decide (((if okS (a) && okS (b) then (0) else (1))) = (0))) (AV.lit (.bool true)) Gd.none rfl (decide_eq_true h19) rfl ?_
                refine o_assign (AV.lit (.bool true)) Gd.none rfl ?_
                refine aops_end ?_
                refine hK12 _ ?_
                refine awp_ret ?_
                refine post_ret ⟨[(AV.lit (.bool true))], And.intro (AV.le_refl _) (trivial), rfl, ?_⟩
                first | rfl | simp [bp]
              · refine o_skip (b := decide (((if okS (a) && okS (b) then (0) else (1))) = (0))) rfl rfl (decide_eq_false h19) ?_
                refine o_pickF (b := decide (((if okS (a) && okS (b) then (0) else (1))) = (0))) (AV.lit (.bool false)) Gd.none rfl (decide_eq_false h19) rfl ?_
                refine o_assign (AV.lit (.bool false)) Gd.none rfl ?_
                refine aops_end ?_
                refine hK12 _ ?_
                refine awp_ret ?_
                refine post_ret ⟨[(AV.lit (.bool false))], And.intro (AV.le_refl _) (trivial), rfl, ?_⟩
                exact absurd (by rw [ha', hb']; first | rfl | exact ⟨rfl, rfl⟩) h19
            · refine o_skip (b := decide (((if okS (a) && okS (b) then (cmpZ (numS (a)) (numS (b))) else (0))) = (cmpZ ((numS (a))) ((numS (b)))))) rfl rfl (decide_eq_false h18) ?_
              refine o_skip (b := decide (((if okS (a) && okS (b) then (cmpZ (numS (a)) (numS (b))) else (0))) = (cmpZ ((numS (a))) ((numS (b)))))) rfl rfl (decide_eq_false h18) ?_
              refine o_pickF (b := decide (((if okS (a) && okS (b) then (cmpZ (numS (a)) (numS (b))) else (0))) = (cmpZ ((numS (a))) ((numS (b)))))) (AV.lit (.bool false)) Gd.none rfl (decide_eq_false h18) rfl ?_
              refine o_move (AV.lit (.bool false)) Gd.none rfl ?_
              refine o_skip (b := false) rfl rfl rfl ?_
              refine o_pickF (b := false) (AV.lit (.bool false)) Gd.none rfl rfl rfl ?_
              refine o_assign (AV.lit (.bool false)) Gd.none rfl ?_
              refine aops_end ?_
              refine hK12 _ ?_
              refine awp_ret ?_
              refine post_ret ⟨[(AV.lit (.bool false))], And.intro (AV.le_refl _) (trivial), rfl, ?_⟩
              exact absurd (by rw [ha', hb']; first | rfl | exact ⟨rfl, rfl⟩) h18
          · refine o_skip (b := decide ((if okS (a) && okS (b) then (toldS (numS (a) * numS (b))) else (({ data := #[] } : ByteArray))) = toldS ((numS (a)) * (numS (b))) ∧ (if okS (a) && okS (b) then (toldE (numS (a) * numS (b))) else (1)) = toldE ((numS (a)) * (numS (b))))) rfl rfl (decide_eq_false h17) ?_
            refine o_skip (b := decide ((if okS (a) && okS (b) then (toldS (numS (a) * numS (b))) else (({ data := #[] } : ByteArray))) = toldS ((numS (a)) * (numS (b))) ∧ (if okS (a) && okS (b) then (toldE (numS (a) * numS (b))) else (1)) = toldE ((numS (a)) * (numS (b))))) rfl rfl (decide_eq_false h17) ?_
            refine o_skip (b := decide ((if okS (a) && okS (b) then (toldS (numS (a) * numS (b))) else (({ data := #[] } : ByteArray))) = toldS ((numS (a)) * (numS (b))) ∧ (if okS (a) && okS (b) then (toldE (numS (a) * numS (b))) else (1)) = toldE ((numS (a)) * (numS (b))))) rfl rfl (decide_eq_false h17) ?_
            refine o_skip (b := decide ((if okS (a) && okS (b) then (toldS (numS (a) * numS (b))) else (({ data := #[] } : ByteArray))) = toldS ((numS (a)) * (numS (b))) ∧ (if okS (a) && okS (b) then (toldE (numS (a) * numS (b))) else (1)) = toldE ((numS (a)) * (numS (b))))) rfl rfl (decide_eq_false h17) ?_
            refine o_skip (b := decide ((if okS (a) && okS (b) then (toldS (numS (a) * numS (b))) else (({ data := #[] } : ByteArray))) = toldS ((numS (a)) * (numS (b))) ∧ (if okS (a) && okS (b) then (toldE (numS (a) * numS (b))) else (1)) = toldE ((numS (a)) * (numS (b))))) rfl rfl (decide_eq_false h17) ?_
            refine o_pickF (b := decide ((if okS (a) && okS (b) then (toldS (numS (a) * numS (b))) else (({ data := #[] } : ByteArray))) = toldS ((numS (a)) * (numS (b))) ∧ (if okS (a) && okS (b) then (toldE (numS (a) * numS (b))) else (1)) = toldE ((numS (a)) * (numS (b))))) (AV.lit (.bool false)) Gd.none rfl (decide_eq_false h17) rfl ?_
            refine o_move (AV.lit (.bool false)) Gd.none rfl ?_
            refine o_skip (b := false) rfl rfl rfl ?_
            refine o_skip (b := false) rfl rfl rfl ?_
            refine o_pickF (b := false) (AV.lit (.bool false)) Gd.none rfl rfl rfl ?_
            refine o_move (AV.lit (.bool false)) Gd.none rfl ?_
            refine o_skip (b := false) rfl rfl rfl ?_
            refine o_pickF (b := false) (AV.lit (.bool false)) Gd.none rfl rfl rfl ?_
            refine o_assign (AV.lit (.bool false)) Gd.none rfl ?_
            refine aops_end ?_
            refine hK12 _ ?_
            refine awp_ret ?_
            refine post_ret ⟨[(AV.lit (.bool false))], And.intro (AV.le_refl _) (trivial), rfl, ?_⟩
            exact absurd (by rw [ha', hb']; first | rfl | exact ⟨rfl, rfl⟩) h17
        · refine o_skip (b := decide ((if okS (a) && okS (b) then (toldS (numS (a) - numS (b))) else (({ data := #[] } : ByteArray))) = toldS ((numS (a)) - (numS (b))) ∧ (if okS (a) && okS (b) then (toldE (numS (a) - numS (b))) else (1)) = toldE ((numS (a)) - (numS (b))))) rfl rfl (decide_eq_false h16) ?_
          refine o_skip (b := decide ((if okS (a) && okS (b) then (toldS (numS (a) - numS (b))) else (({ data := #[] } : ByteArray))) = toldS ((numS (a)) - (numS (b))) ∧ (if okS (a) && okS (b) then (toldE (numS (a) - numS (b))) else (1)) = toldE ((numS (a)) - (numS (b))))) rfl rfl (decide_eq_false h16) ?_
          refine o_skip (b := decide ((if okS (a) && okS (b) then (toldS (numS (a) - numS (b))) else (({ data := #[] } : ByteArray))) = toldS ((numS (a)) - (numS (b))) ∧ (if okS (a) && okS (b) then (toldE (numS (a) - numS (b))) else (1)) = toldE ((numS (a)) - (numS (b))))) rfl rfl (decide_eq_false h16) ?_
          refine o_skip (b := decide ((if okS (a) && okS (b) then (toldS (numS (a) - numS (b))) else (({ data := #[] } : ByteArray))) = toldS ((numS (a)) - (numS (b))) ∧ (if okS (a) && okS (b) then (toldE (numS (a) - numS (b))) else (1)) = toldE ((numS (a)) - (numS (b))))) rfl rfl (decide_eq_false h16) ?_
          refine o_skip (b := decide ((if okS (a) && okS (b) then (toldS (numS (a) - numS (b))) else (({ data := #[] } : ByteArray))) = toldS ((numS (a)) - (numS (b))) ∧ (if okS (a) && okS (b) then (toldE (numS (a) - numS (b))) else (1)) = toldE ((numS (a)) - (numS (b))))) rfl rfl (decide_eq_false h16) ?_
          refine o_skip (b := decide ((if okS (a) && okS (b) then (toldS (numS (a) - numS (b))) else (({ data := #[] } : ByteArray))) = toldS ((numS (a)) - (numS (b))) ∧ (if okS (a) && okS (b) then (toldE (numS (a) - numS (b))) else (1)) = toldE ((numS (a)) - (numS (b))))) rfl rfl (decide_eq_false h16) ?_
          refine o_pickF (b := decide ((if okS (a) && okS (b) then (toldS (numS (a) - numS (b))) else (({ data := #[] } : ByteArray))) = toldS ((numS (a)) - (numS (b))) ∧ (if okS (a) && okS (b) then (toldE (numS (a) - numS (b))) else (1)) = toldE ((numS (a)) - (numS (b))))) (AV.lit (.bool false)) Gd.none rfl (decide_eq_false h16) rfl ?_
          refine o_move (AV.lit (.bool false)) Gd.none rfl ?_
          refine o_skip (b := false) rfl rfl rfl ?_
          refine o_skip (b := false) rfl rfl rfl ?_
          refine o_skip (b := false) rfl rfl rfl ?_
          refine o_skip (b := false) rfl rfl rfl ?_
          refine o_skip (b := false) rfl rfl rfl ?_
          refine o_pickF (b := false) (AV.lit (.bool false)) Gd.none rfl rfl rfl ?_
          refine o_move (AV.lit (.bool false)) Gd.none rfl ?_
          refine o_skip (b := false) rfl rfl rfl ?_
          refine o_skip (b := false) rfl rfl rfl ?_
          refine o_pickF (b := false) (AV.lit (.bool false)) Gd.none rfl rfl rfl ?_
          refine o_move (AV.lit (.bool false)) Gd.none rfl ?_
          refine o_skip (b := false) rfl rfl rfl ?_
          refine o_pickF (b := false) (AV.lit (.bool false)) Gd.none rfl rfl rfl ?_
          refine o_assign (AV.lit (.bool false)) Gd.none rfl ?_
          refine aops_end ?_
          refine hK12 _ ?_
          refine awp_ret ?_
          refine post_ret ⟨[(AV.lit (.bool false))], And.intro (AV.le_refl _) (trivial), rfl, ?_⟩
          exact absurd (by rw [ha', hb']; first | rfl | exact ⟨rfl, rfl⟩) h16
      · refine o_skip (b := decide ((if okS (a) && okS (b) then (toldS (numS (a) + numS (b))) else (({ data := #[] } : ByteArray))) = toldS ((numS (a)) + (numS (b))) ∧ (if okS (a) && okS (b) then (toldE (numS (a) + numS (b))) else (1)) = toldE ((numS (a)) + (numS (b))))) rfl rfl (decide_eq_false h15) ?_
        refine o_skip (b := decide ((if okS (a) && okS (b) then (toldS (numS (a) + numS (b))) else (({ data := #[] } : ByteArray))) = toldS ((numS (a)) + (numS (b))) ∧ (if okS (a) && okS (b) then (toldE (numS (a) + numS (b))) else (1)) = toldE ((numS (a)) + (numS (b))))) rfl rfl (decide_eq_false h15) ?_
        refine o_skip (b := decide ((if okS (a) && okS (b) then (toldS (numS (a) + numS (b))) else (({ data := #[] } : ByteArray))) = toldS ((numS (a)) + (numS (b))) ∧ (if okS (a) && okS (b) then (toldE (numS (a) + numS (b))) else (1)) = toldE ((numS (a)) + (numS (b))))) rfl rfl (decide_eq_false h15) ?_
        refine o_skip (b := decide ((if okS (a) && okS (b) then (toldS (numS (a) + numS (b))) else (({ data := #[] } : ByteArray))) = toldS ((numS (a)) + (numS (b))) ∧ (if okS (a) && okS (b) then (toldE (numS (a) + numS (b))) else (1)) = toldE ((numS (a)) + (numS (b))))) rfl rfl (decide_eq_false h15) ?_
        refine o_skip (b := decide ((if okS (a) && okS (b) then (toldS (numS (a) + numS (b))) else (({ data := #[] } : ByteArray))) = toldS ((numS (a)) + (numS (b))) ∧ (if okS (a) && okS (b) then (toldE (numS (a) + numS (b))) else (1)) = toldE ((numS (a)) + (numS (b))))) rfl rfl (decide_eq_false h15) ?_
        refine o_skip (b := decide ((if okS (a) && okS (b) then (toldS (numS (a) + numS (b))) else (({ data := #[] } : ByteArray))) = toldS ((numS (a)) + (numS (b))) ∧ (if okS (a) && okS (b) then (toldE (numS (a) + numS (b))) else (1)) = toldE ((numS (a)) + (numS (b))))) rfl rfl (decide_eq_false h15) ?_
        refine o_pickF (b := decide ((if okS (a) && okS (b) then (toldS (numS (a) + numS (b))) else (({ data := #[] } : ByteArray))) = toldS ((numS (a)) + (numS (b))) ∧ (if okS (a) && okS (b) then (toldE (numS (a) + numS (b))) else (1)) = toldE ((numS (a)) + (numS (b))))) (AV.lit (.bool false)) Gd.none rfl (decide_eq_false h15) rfl ?_
        refine o_move (AV.lit (.bool false)) Gd.none rfl ?_
        refine o_skip (b := false) rfl rfl rfl ?_
        refine o_skip (b := false) rfl rfl rfl ?_
        refine o_skip (b := false) rfl rfl rfl ?_
        refine o_skip (b := false) rfl rfl rfl ?_
        refine o_skip (b := false) rfl rfl rfl ?_
        refine o_skip (b := false) rfl rfl rfl ?_
        refine o_pickF (b := false) (AV.lit (.bool false)) Gd.none rfl rfl rfl ?_
        refine o_move (AV.lit (.bool false)) Gd.none rfl ?_
        refine o_skip (b := false) rfl rfl rfl ?_
        refine o_skip (b := false) rfl rfl rfl ?_
        refine o_skip (b := false) rfl rfl rfl ?_
        refine o_skip (b := false) rfl rfl rfl ?_
        refine o_skip (b := false) rfl rfl rfl ?_
        refine o_pickF (b := false) (AV.lit (.bool false)) Gd.none rfl rfl rfl ?_
        refine o_move (AV.lit (.bool false)) Gd.none rfl ?_
        refine o_skip (b := false) rfl rfl rfl ?_
        refine o_skip (b := false) rfl rfl rfl ?_
        refine o_pickF (b := false) (AV.lit (.bool false)) Gd.none rfl rfl rfl ?_
        refine o_move (AV.lit (.bool false)) Gd.none rfl ?_
        refine o_skip (b := false) rfl rfl rfl ?_
        refine o_pickF (b := false) (AV.lit (.bool false)) Gd.none rfl rfl rfl ?_
        refine o_assign (AV.lit (.bool false)) Gd.none rfl ?_
        refine aops_end ?_
        refine hK12 _ ?_
        refine awp_ret ?_
        refine post_ret ⟨[(AV.lit (.bool false))], And.intro (AV.le_refl _) (trivial), rfl, ?_⟩
        exact absurd (by rw [ha', hb']; first | rfl | exact ⟨rfl, rfl⟩) h15

end Go.Proofs.YtkngglpnejdicaaDoor
