import Derived.Test.YtkngglpnejdicaaDoorWt
import Derived.Test.YtkngglpnejdicaaDoorLk
set_option linter.unusedVariables false
set_option linter.unusedSimpArgs false
namespace Go.Proofs.YtkngglpnejdicaaDoor
open Go Go.Ab Go.Mth
theorem Wu_tC57 : callable cx.P 57 = true := by kernel_rfl
theorem Wu_tC50 : callable cx.P 50 = true := by kernel_rfl
theorem Wu_tC65 : callable cx.P 65 = true := by kernel_rfl
theorem Wu_tC55 : callable cx.P 55 = true := by kernel_rfl
theorem Wu_tC51 : callable cx.P 51 = true := by kernel_rfl
theorem Wu_tA36 : tyAgg cx.P 36 = some 2 := by kernel_rfl
theorem Wu_tC46 : callable cx.P 46 = true := by kernel_rfl
theorem c_l1Awake  : ECalls cx 49 [] (.lit (.bool true)) := by
  refine ecalls_of_awp Tryd.func49 (c := _) rfl (Nat.le_of_ble_eq_true rfl) ?_
  show awp cx 62 _ (postF cx Tryd.f49 _) ⟨[], []⟩
  refine awp_seq fun K0 hK0 => ?_
  refine awp_region rfl ?_
  refine o_assign (AV.lit (.bool false)) Gd.none rfl ?_
  refine aops_end ?_
  refine hK0 _ ?_
  refine awp_seq fun K1 hK1 => ?_
  refine awp_region rfl ?_
  refine o_call [(AV.lit (.string (({data := #[45, 55]} : ByteArray)))), (AV.lit (.string (({data := #[50]} : ByteArray))))] (AV.tup [(AV.lit (.string (divQ (({data := #[45, 55]} : ByteArray)) (({data := #[50]} : ByteArray))))), (AV.lit (.string (divR (({data := #[45, 55]} : ByteArray)) (({data := #[50]} : ByteArray))))), (nm .i64 (divE (({data := #[45, 55]} : ByteArray)) (({data := #[50]} : ByteArray))))]) Gd.none Wu_tC57 rfl (c_nDivide (({data := #[45, 55]} : ByteArray)) (({data := #[50]} : ByteArray)) (by first | assumption | decide | omega) (by first | assumption | decide | omega)) ?_
  refine o_move (AV.tup [(AV.lit (.string (divQ (({data := #[45, 55]} : ByteArray)) (({data := #[50]} : ByteArray))))), (AV.lit (.string (divR (({data := #[45, 55]} : ByteArray)) (({data := #[50]} : ByteArray))))), (nm .i64 (divE (({data := #[45, 55]} : ByteArray)) (({data := #[50]} : ByteArray))))]) Gd.none rfl ?_
  refine o_extract (AV.lit (.string (divQ (({data := #[45, 55]} : ByteArray)) (({data := #[50]} : ByteArray))))) Gd.none rfl rfl ?_
  refine n_as (v' := (AV.lit (.string (({data := #[45, 52]} : ByteArray))))) (by exact str_as2 ex_div.1) ?_
  refine o_extract (AV.lit (.string (divR (({data := #[45, 55]} : ByteArray)) (({data := #[50]} : ByteArray))))) Gd.none rfl rfl ?_
  refine n_as (v' := (AV.lit (.string (({data := #[49]} : ByteArray))))) (by exact str_as2 ex_div.2.1) ?_
  refine o_extract (nm .i64 (divE (({data := #[45, 55]} : ByteArray)) (({data := #[50]} : ByteArray)))) Gd.none rfl rfl ?_
  refine n_as (v' := (nm .i64 (0))) (by exact congrArg (nm _) ex_div.2.2) ?_
  refine o_assign (AV.lit (.string (({data := #[45, 52]} : ByteArray)))) Gd.none rfl ?_
  refine o_assign (AV.lit (.string (({data := #[49]} : ByteArray)))) Gd.none rfl ?_
  refine o_assign (nm .i64 (0)) Gd.none rfl ?_
  refine aops_end ?_
  refine hK1 _ ?_
  refine awp_seq fun K2 hK2 => ?_
  refine awp_region rfl ?_
  refine o_call [(AV.lit (.string (({data := #[50]} : ByteArray)))), (nm .i64 (10000))] (AV.tup [(AV.lit (.string (powS (({data := #[50]} : ByteArray)) ((10000 : Int))))), (nm .i64 (powE (({data := #[50]} : ByteArray)) ((10000 : Int))))]) Gd.none Wu_tC50 rfl (c_nPower (({data := #[50]} : ByteArray)) ((10000 : Int)) (by first | assumption | decide | omega)) ?_
  refine o_move (AV.tup [(AV.lit (.string (powS (({data := #[50]} : ByteArray)) ((10000 : Int))))), (nm .i64 (powE (({data := #[50]} : ByteArray)) ((10000 : Int))))]) Gd.none rfl ?_
  refine o_extract (AV.lit (.string (powS (({data := #[50]} : ByteArray)) ((10000 : Int))))) Gd.none rfl rfl ?_
  refine o_extract (nm .i64 (powE (({data := #[50]} : ByteArray)) ((10000 : Int)))) Gd.none rfl rfl ?_
  refine n_as (v' := (nm .i64 (3))) (by exact congrArg (nm _) ex_pow1) ?_
  refine o_assign (AV.lit (.string (powS (({data := #[50]} : ByteArray)) ((10000 : Int))))) Gd.none rfl ?_
  refine o_assign (nm .i64 (3)) Gd.none rfl ?_
  refine aops_end ?_
  refine hK2 _ ?_
  refine awp_seq fun K3 hK3 => ?_
  refine awp_region rfl ?_
  refine o_call [(AV.lit (.string (({data := #[50]} : ByteArray)))), (nm .i64 (100))] (AV.tup [(AV.lit (.string (powS (({data := #[50]} : ByteArray)) ((100 : Int))))), (nm .i64 (powE (({data := #[50]} : ByteArray)) ((100 : Int))))]) Gd.none Wu_tC50 rfl (c_nPower (({data := #[50]} : ByteArray)) ((100 : Int)) (by first | assumption | decide | omega)) ?_
  refine o_move (AV.tup [(AV.lit (.string (powS (({data := #[50]} : ByteArray)) ((100 : Int))))), (nm .i64 (powE (({data := #[50]} : ByteArray)) ((100 : Int))))]) Gd.none rfl ?_
  refine o_extract (AV.lit (.string (powS (({data := #[50]} : ByteArray)) ((100 : Int))))) Gd.none rfl rfl ?_
  refine n_as (v' := (AV.lit (.string (({data := #[49, 50, 54, 55, 54, 53, 48, 54, 48, 48, 50, 50, 56, 50, 50, 57, 52, 48, 49, 52, 57, 54, 55, 48, 51, 50, 48, 53, 51, 55, 54]} : ByteArray))))) (by exact str_as2 ex_pow2.1) ?_
  refine o_extract (nm .i64 (powE (({data := #[50]} : ByteArray)) ((100 : Int)))) Gd.none rfl rfl ?_
  refine n_as (v' := (nm .i64 (0))) (by exact congrArg (nm _) ex_pow2.2) ?_
  refine o_assign (AV.lit (.string (({data := #[49, 50, 54, 55, 54, 53, 48, 54, 48, 48, 50, 50, 56, 50, 50, 57, 52, 48, 49, 52, 57, 54, 55, 48, 51, 50, 48, 53, 51, 55, 54]} : ByteArray)))) Gd.none rfl ?_
  refine o_assign (nm .i64 (0)) Gd.none rfl ?_
  refine aops_end ?_
  refine hK3 _ ?_
  refine awp_seq fun K4 hK4 => ?_
  refine awp_region rfl ?_
  refine o_move (nm .i64 (0)) Gd.none rfl ?_
  refine n_eql (0) (0) Gd.none rfl rfl ?_
  refine o_move (bp ((0) = (0))) Gd.none rfl ?_
  refine o_move (AV.lit (.string (({data := #[45, 52]} : ByteArray)))) (Gd.yes rfl rfl (decide_eq_true (by decide))) rfl ?_
  refine o_eqlS (a := (({data := #[45, 52]} : ByteArray))) (c := (({data := #[45, 52]} : ByteArray))) (Gd.yes rfl rfl (decide_eq_true (by decide))) rfl rfl ?_
  refine o_pickT (b := decide ((0) = (0))) (bp ((({data := #[45, 52]} : ByteArray)).toList = (({data := #[45, 52]} : ByteArray)).toList)) Gd.none rfl (decide_eq_true (by decide)) rfl ?_
  refine o_move (bp ((({data := #[45, 52]} : ByteArray)).toList = (({data := #[45, 52]} : ByteArray)).toList)) Gd.none rfl ?_
  refine o_move (AV.lit (.string (({data := #[49]} : ByteArray)))) (Gd.yes rfl rfl (decide_eq_true rfl)) rfl ?_
  refine o_eqlS (a := (({data := #[49]} : ByteArray))) (c := (({data := #[49]} : ByteArray))) (Gd.yes rfl rfl (decide_eq_true rfl)) rfl rfl ?_
  refine o_pickT (b := decide ((({data := #[45, 52]} : ByteArray)).toList = (({data := #[45, 52]} : ByteArray)).toList)) (bp ((({data := #[49]} : ByteArray)).toList = (({data := #[49]} : ByteArray)).toList)) Gd.none rfl (decide_eq_true rfl) rfl ?_
  refine o_move (bp ((({data := #[49]} : ByteArray)).toList = (({data := #[49]} : ByteArray)).toList)) Gd.none rfl ?_
  refine o_move (nm .i64 (3)) (Gd.yes rfl rfl (decide_eq_true rfl)) rfl ?_
  refine n_eql (3) (3) (Gd.yes rfl rfl (decide_eq_true rfl)) rfl rfl ?_
  refine o_pickT (b := decide ((({data := #[49]} : ByteArray)).toList = (({data := #[49]} : ByteArray)).toList)) (bp ((3) = (3))) Gd.none rfl (decide_eq_true rfl) rfl ?_
  refine o_move (bp ((3) = (3))) Gd.none rfl ?_
  refine o_move (nm .i64 (0)) (Gd.yes rfl rfl (decide_eq_true (by decide))) rfl ?_
  refine n_eql (0) (0) (Gd.yes rfl rfl (decide_eq_true (by decide))) rfl rfl ?_
  refine o_pickT (b := decide ((3) = (3))) (bp ((0) = (0))) Gd.none rfl (decide_eq_true (by decide)) rfl ?_
  refine o_move (bp ((0) = (0))) Gd.none rfl ?_
  refine o_move (AV.lit (.string (({data := #[49, 50, 54, 55, 54, 53, 48, 54, 48, 48, 50, 50, 56, 50, 50, 57, 52, 48, 49, 52, 57, 54, 55, 48, 51, 50, 48, 53, 51, 55, 54]} : ByteArray)))) (Gd.yes rfl rfl (decide_eq_true (by decide))) rfl ?_
  refine o_eqlS (a := (({data := #[49, 50, 54, 55, 54, 53, 48, 54, 48, 48, 50, 50, 56, 50, 50, 57, 52, 48, 49, 52, 57, 54, 55, 48, 51, 50, 48, 53, 51, 55, 54]} : ByteArray))) (c := (({data := #[49, 50, 54, 55, 54, 53, 48, 54, 48, 48, 50, 50, 56, 50, 50, 57, 52, 48, 49, 52, 57, 54, 55, 48, 51, 50, 48, 53, 51, 55, 54]} : ByteArray))) (Gd.yes rfl rfl (decide_eq_true (by decide))) rfl rfl ?_
  refine o_pickT (b := decide ((0) = (0))) (bp ((({data := #[49, 50, 54, 55, 54, 53, 48, 54, 48, 48, 50, 50, 56, 50, 50, 57, 52, 48, 49, 52, 57, 54, 55, 48, 51, 50, 48, 53, 51, 55, 54]} : ByteArray)).toList = (({data := #[49, 50, 54, 55, 54, 53, 48, 54, 48, 48, 50, 50, 56, 50, 50, 57, 52, 48, 49, 52, 57, 54, 55, 48, 51, 50, 48, 53, 51, 55, 54]} : ByteArray)).toList)) Gd.none rfl (decide_eq_true (by decide)) rfl ?_
  refine o_move (bp ((({data := #[49, 50, 54, 55, 54, 53, 48, 54, 48, 48, 50, 50, 56, 50, 50, 57, 52, 48, 49, 52, 57, 54, 55, 48, 51, 50, 48, 53, 51, 55, 54]} : ByteArray)).toList = (({data := #[49, 50, 54, 55, 54, 53, 48, 54, 48, 48, 50, 50, 56, 50, 50, 57, 52, 48, 49, 52, 57, 54, 55, 48, 51, 50, 48, 53, 51, 55, 54]} : ByteArray)).toList)) Gd.none rfl ?_
  refine o_call [(AV.lit (.string (({data := #[45, 49, 55]} : ByteArray))))] (AV.lit (.bool (okS (({data := #[45, 49, 55]} : ByteArray))))) (Gd.yes rfl rfl (decide_eq_true rfl)) Wu_tC65 rfl (c_nValid (({data := #[45, 49, 55]} : ByteArray)) (by first | assumption | decide | omega)) ?_
  refine n_as (v' := (AV.lit (.bool true))) (by exact bl_eq ok_m17) ?_
  refine o_pickT (b := decide ((({data := #[49, 50, 54, 55, 54, 53, 48, 54, 48, 48, 50, 50, 56, 50, 50, 57, 52, 48, 49, 52, 57, 54, 55, 48, 51, 50, 48, 53, 51, 55, 54]} : ByteArray)).toList = (({data := #[49, 50, 54, 55, 54, 53, 48, 54, 48, 48, 50, 50, 56, 50, 50, 57, 52, 48, 49, 52, 57, 54, 55, 48, 51, 50, 48, 53, 51, 55, 54]} : ByteArray)).toList)) (AV.lit (.bool true)) Gd.none rfl (decide_eq_true rfl) rfl ?_
  refine o_move (AV.lit (.bool true)) Gd.none rfl ?_
  refine o_call [(AV.lit (.string (({data := #[48, 48, 55]} : ByteArray))))] (AV.lit (.bool (okS (({data := #[48, 48, 55]} : ByteArray))))) (Gd.yes rfl rfl rfl) Wu_tC65 rfl (c_nValid (({data := #[48, 48, 55]} : ByteArray)) (by first | assumption | decide | omega)) ?_
  refine n_as (v' := (AV.lit (.bool false))) (by exact bl_eq no_007) ?_
  refine o_not (b := false) (Gd.yes rfl rfl rfl) rfl ?_
  refine o_pickT (b := true) (AV.lit (.bool true)) Gd.none rfl rfl rfl ?_
  refine o_move (AV.lit (.bool true)) Gd.none rfl ?_
  refine o_call [(AV.lit (.string (({data := #[45, 48]} : ByteArray))))] (AV.lit (.bool (okS (({data := #[45, 48]} : ByteArray))))) (Gd.yes rfl rfl rfl) Wu_tC65 rfl (c_nValid (({data := #[45, 48]} : ByteArray)) (by first | assumption | decide | omega)) ?_
  refine n_as (v' := (AV.lit (.bool false))) (by exact bl_eq no_m0) ?_
  refine o_not (b := false) (Gd.yes rfl rfl rfl) rfl ?_
  refine o_pickT (b := true) (AV.lit (.bool true)) Gd.none rfl rfl rfl ?_
  refine o_move (AV.lit (.bool true)) Gd.none rfl ?_
  refine o_call [(AV.lit (.string (({data := #[43, 49]} : ByteArray))))] (AV.lit (.bool (okS (({data := #[43, 49]} : ByteArray))))) (Gd.yes rfl rfl rfl) Wu_tC65 rfl (c_nValid (({data := #[43, 49]} : ByteArray)) (by first | assumption | decide | omega)) ?_
  refine n_as (v' := (AV.lit (.bool false))) (by exact bl_eq no_p1) ?_
  refine o_not (b := false) (Gd.yes rfl rfl rfl) rfl ?_
  refine o_pickT (b := true) (AV.lit (.bool true)) Gd.none rfl rfl rfl ?_
  refine o_move (AV.lit (.bool true)) Gd.none rfl ?_
  refine o_call [(AV.lit (.string (({data := #[]} : ByteArray))))] (AV.lit (.bool (okS (({data := #[]} : ByteArray))))) (Gd.yes rfl rfl rfl) Wu_tC65 rfl (c_nValid (({data := #[]} : ByteArray)) (by first | assumption | decide | omega)) ?_
  refine n_as (v' := (AV.lit (.bool false))) (by exact bl_eq no_e) ?_
  refine o_not (b := false) (Gd.yes rfl rfl rfl) rfl ?_
  refine o_pickT (b := true) (AV.lit (.bool true)) Gd.none rfl rfl rfl ?_
  refine o_assign (AV.lit (.bool true)) Gd.none rfl ?_
  refine aops_end ?_
  refine hK4 _ ?_
  refine awp_ret ?_
  refine post_ret ⟨[(AV.lit (.bool true))], And.intro (AV.le_refl _) (trivial), rfl, ?_⟩
  first | rfl | simp [bp]

theorem c_l1Sum (a b : ByteArray) (ha : a.size ≤ 9223372036854775807) (hb : b.size ≤ 9223372036854775807) : ECalls cx 52 [(AV.lit (.string (a))), (AV.lit (.string (b)))] (.lit (.string (sumS a b))) := by
  refine ecalls_of_awp Tryd.func52 (c := _) rfl (Nat.le_of_ble_eq_true rfl) ?_
  show awp cx 14 _ (postF cx Tryd.f52 _) ⟨[(0, (AV.lit (.string (a)))), (1, (AV.lit (.string (b))))], []⟩
  refine awp_seq fun K0 hK0 => ?_
  refine awp_region rfl ?_
  refine o_assign (AV.lit (.string (({data := #[]} : ByteArray)))) Gd.none rfl ?_
  refine aops_end ?_
  refine hK0 _ ?_
  refine awp_seq fun K1 hK1 => ?_
  refine awp_region rfl ?_
  refine o_move (AV.lit (.string (a))) Gd.none rfl ?_
  refine o_move (AV.lit (.string (b))) Gd.none rfl ?_
  refine o_call [(AV.lit (.string (a))), (AV.lit (.string (b)))] (AV.tup [(AV.lit (.string ((if okS (a) && okS (b) then (toldS (numS (a) + numS (b))) else (({ data := #[] } : ByteArray)))))), (nm .i64 ((if okS (a) && okS (b) then (toldE (numS (a) + numS (b))) else (1))))]) Gd.none Wu_tC55 rfl (c_nAdd (a) (b) (by first | assumption | omega) (by first | assumption | omega)) ?_
  refine o_move (AV.tup [(AV.lit (.string ((if okS (a) && okS (b) then (toldS (numS (a) + numS (b))) else (({ data := #[] } : ByteArray)))))), (nm .i64 ((if okS (a) && okS (b) then (toldE (numS (a) + numS (b))) else (1))))]) Gd.none rfl ?_
  refine o_extract (AV.lit (.string ((if okS (a) && okS (b) then (toldS (numS (a) + numS (b))) else (({ data := #[] } : ByteArray)))))) Gd.none rfl rfl ?_
  refine o_extract (nm .i64 ((if okS (a) && okS (b) then (toldE (numS (a) + numS (b))) else (1)))) Gd.none rfl rfl ?_
  refine o_assign (AV.lit (.string ((if okS (a) && okS (b) then (toldS (numS (a) + numS (b))) else (({ data := #[] } : ByteArray)))))) Gd.none rfl ?_
  refine o_assign (nm .i64 ((if okS (a) && okS (b) then (toldE (numS (a) + numS (b))) else (1)))) Gd.none rfl ?_
  refine aops_end ?_
  refine hK1 _ ?_
  refine awp_seq fun K2 hK2 => ?_
  refine awp_region rfl ?_
  refine o_move (AV.lit (.string ((if okS (a) && okS (b) then (toldS (numS (a) + numS (b))) else (({ data := #[] } : ByteArray)))))) Gd.none rfl ?_
  refine o_assign (AV.lit (.string ((if okS (a) && okS (b) then (toldS (numS (a) + numS (b))) else (({ data := #[] } : ByteArray)))))) Gd.none rfl ?_
  refine aops_end ?_
  refine hK2 _ ?_
  refine awp_ret ?_
  refine post_ret ⟨[(AV.lit (.string ((if okS (a) && okS (b) then (toldS (numS (a) + numS (b))) else (({ data := #[] } : ByteArray))))))], And.intro (AV.le_refl _) (trivial), rfl, ?_⟩
  rfl

theorem c_l1Pro (a b : ByteArray) (ha : a.size ≤ 9223372036854775807) (hb : b.size ≤ 9223372036854775807) : ECalls cx 53 [(AV.lit (.string (a))), (AV.lit (.string (b)))] (.lit (.string (proS a b))) := by
  refine ecalls_of_awp Tryd.func53 (c := _) rfl (Nat.le_of_ble_eq_true rfl) ?_
  show awp cx 14 _ (postF cx Tryd.f53 _) ⟨[(0, (AV.lit (.string (a)))), (1, (AV.lit (.string (b))))], []⟩
  refine awp_seq fun K0 hK0 => ?_
  refine awp_region rfl ?_
  refine o_assign (AV.lit (.string (({data := #[]} : ByteArray)))) Gd.none rfl ?_
  refine aops_end ?_
  refine hK0 _ ?_
  refine awp_seq fun K1 hK1 => ?_
  refine awp_region rfl ?_
  refine o_move (AV.lit (.string (a))) Gd.none rfl ?_
  refine o_move (AV.lit (.string (b))) Gd.none rfl ?_
  refine o_call [(AV.lit (.string (a))), (AV.lit (.string (b)))] (AV.tup [(AV.lit (.string ((if okS (a) && okS (b) then (toldS (numS (a) * numS (b))) else (({ data := #[] } : ByteArray)))))), (nm .i64 ((if okS (a) && okS (b) then (toldE (numS (a) * numS (b))) else (1))))]) Gd.none Wu_tC51 rfl (c_nMul (a) (b) (by first | assumption | omega) (by first | assumption | omega)) ?_
  refine o_move (AV.tup [(AV.lit (.string ((if okS (a) && okS (b) then (toldS (numS (a) * numS (b))) else (({ data := #[] } : ByteArray)))))), (nm .i64 ((if okS (a) && okS (b) then (toldE (numS (a) * numS (b))) else (1))))]) Gd.none rfl ?_
  refine o_extract (AV.lit (.string ((if okS (a) && okS (b) then (toldS (numS (a) * numS (b))) else (({ data := #[] } : ByteArray)))))) Gd.none rfl rfl ?_
  refine o_extract (nm .i64 ((if okS (a) && okS (b) then (toldE (numS (a) * numS (b))) else (1)))) Gd.none rfl rfl ?_
  refine o_assign (AV.lit (.string ((if okS (a) && okS (b) then (toldS (numS (a) * numS (b))) else (({ data := #[] } : ByteArray)))))) Gd.none rfl ?_
  refine o_assign (nm .i64 ((if okS (a) && okS (b) then (toldE (numS (a) * numS (b))) else (1)))) Gd.none rfl ?_
  refine aops_end ?_
  refine hK1 _ ?_
  refine awp_seq fun K2 hK2 => ?_
  refine awp_region rfl ?_
  refine o_move (AV.lit (.string ((if okS (a) && okS (b) then (toldS (numS (a) * numS (b))) else (({ data := #[] } : ByteArray)))))) Gd.none rfl ?_
  refine o_assign (AV.lit (.string ((if okS (a) && okS (b) then (toldS (numS (a) * numS (b))) else (({ data := #[] } : ByteArray)))))) Gd.none rfl ?_
  refine aops_end ?_
  refine hK2 _ ?_
  refine awp_ret ?_
  refine post_ret ⟨[(AV.lit (.string ((if okS (a) && okS (b) then (toldS (numS (a) * numS (b))) else (({ data := #[] } : ByteArray))))))], And.intro (AV.le_refl _) (trivial), rfl, ?_⟩
  rfl

theorem c_l1Alike (a b : ByteArray) : ECalls cx 54 [(AV.lit (.string (a))), (AV.lit (.string (b)))] (bp (alikeS a b)) := by
  refine ecalls_of_awp Tryd.func54 (c := _) rfl (Nat.le_of_ble_eq_true rfl) ?_
  show awp cx 16 _ (postF cx Tryd.f54 _) ⟨[(0, (AV.lit (.string (a)))), (1, (AV.lit (.string (b))))], []⟩
  refine awp_seq fun K0 hK0 => ?_
  refine awp_region rfl ?_
  refine o_assign (AV.lit (.bool false)) Gd.none rfl ?_
  refine aops_end ?_
  refine hK0 _ ?_
  refine awp_seq fun K1 hK1 => ?_
  refine awp_region rfl ?_
  refine o_move (AV.lit (.string (a))) Gd.none rfl ?_
  refine o_eqlS (a := (a)) (c := (({data := #[]} : ByteArray))) Gd.none rfl rfl ?_
  refine o_move (bp ((a).toList = (({data := #[]} : ByteArray)).toList)) Gd.none rfl ?_
  refine o_splitP (q := (a).toList = (({data := #[]} : ByteArray)).toList) 7 rfl (fun h1 => ?_) (fun h1 => ?_)
  · refine o_skip (b := decide ((a).toList = (({data := #[]} : ByteArray)).toList)) rfl rfl (decide_eq_true h1) ?_
    refine o_skip (b := decide ((a).toList = (({data := #[]} : ByteArray)).toList)) rfl rfl (decide_eq_true h1) ?_
    refine o_pickT (b := decide ((a).toList = (({data := #[]} : ByteArray)).toList)) (AV.lit (.bool true)) Gd.none rfl (decide_eq_true h1) rfl ?_
    refine o_move (AV.lit (.bool true)) Gd.none rfl ?_
    refine o_skip (b := true) rfl rfl rfl ?_
    refine o_skip (b := true) rfl rfl rfl ?_
    refine o_skip (b := true) rfl rfl rfl ?_
    refine o_pickT (b := true) (AV.lit (.bool true)) Gd.none rfl rfl rfl ?_
    refine o_assign (AV.lit (.bool true)) Gd.none rfl ?_
    refine aops_end ?_
    refine hK1 _ ?_
    refine awp_ret ?_
    refine post_ret ⟨[(AV.lit (.bool true))], And.intro (AV.le_refl _) (trivial), rfl, ?_⟩
    first | exact (bl_bp (b := true) (by (try simp only [str_eq] at *); unfold alikeS; simp_all; done)).symm | exact (bl_bp (b := false) (by (try simp only [str_eq] at *); unfold alikeS; simp_all; done)).symm | exact bp_congr (by (try simp only [str_eq] at *); unfold alikeS; simp_all; done)
  · refine o_move (AV.lit (.string (b))) (Gd.yes rfl rfl (decide_eq_false h1)) rfl ?_
    refine o_eqlS (a := (b)) (c := (({data := #[]} : ByteArray))) (Gd.yes rfl rfl (decide_eq_false h1)) rfl rfl ?_
    refine o_pickF (b := decide ((a).toList = (({data := #[]} : ByteArray)).toList)) (bp ((b).toList = (({data := #[]} : ByteArray)).toList)) Gd.none rfl (decide_eq_false h1) rfl ?_
    refine o_move (bp ((b).toList = (({data := #[]} : ByteArray)).toList)) Gd.none rfl ?_
    refine o_splitP (q := (b).toList = (({data := #[]} : ByteArray)).toList) 11 rfl (fun h2 => ?_) (fun h2 => ?_)
    · refine o_skip (b := decide ((b).toList = (({data := #[]} : ByteArray)).toList)) rfl rfl (decide_eq_true h2) ?_
      refine o_skip (b := decide ((b).toList = (({data := #[]} : ByteArray)).toList)) rfl rfl (decide_eq_true h2) ?_
      refine o_skip (b := decide ((b).toList = (({data := #[]} : ByteArray)).toList)) rfl rfl (decide_eq_true h2) ?_
      refine o_pickT (b := decide ((b).toList = (({data := #[]} : ByteArray)).toList)) (AV.lit (.bool true)) Gd.none rfl (decide_eq_true h2) rfl ?_
      refine o_assign (AV.lit (.bool true)) Gd.none rfl ?_
      refine aops_end ?_
      refine hK1 _ ?_
      refine awp_ret ?_
      refine post_ret ⟨[(AV.lit (.bool true))], And.intro (AV.le_refl _) (trivial), rfl, ?_⟩
      first | exact (bl_bp (b := true) (by (try simp only [str_eq] at *); unfold alikeS; simp_all; done)).symm | exact (bl_bp (b := false) (by (try simp only [str_eq] at *); unfold alikeS; simp_all; done)).symm | exact bp_congr (by (try simp only [str_eq] at *); unfold alikeS; simp_all; done)
    · refine o_move (AV.lit (.string (a))) (Gd.yes rfl rfl (decide_eq_false h2)) rfl ?_
      refine o_move (AV.lit (.string (b))) (Gd.yes rfl rfl (decide_eq_false h2)) rfl ?_
      refine o_eqlS (a := (a)) (c := (b)) (Gd.yes rfl rfl (decide_eq_false h2)) rfl rfl ?_
      refine o_pickF (b := decide ((b).toList = (({data := #[]} : ByteArray)).toList)) (bp ((a).toList = (b).toList)) Gd.none rfl (decide_eq_false h2) rfl ?_
      refine o_assign (bp ((a).toList = (b).toList)) Gd.none rfl ?_
      refine aops_end ?_
      refine hK1 _ ?_
      refine awp_ret ?_
      refine post_ret ⟨[(bp ((a).toList = (b).toList))], And.intro (AV.le_refl _) (trivial), rfl, ?_⟩
      first | exact (bl_bp (b := true) (by (try simp only [str_eq] at *); unfold alikeS; simp_all; done)).symm | exact (bl_bp (b := false) (by (try simp only [str_eq] at *); unfold alikeS; simp_all; done)).symm | exact bp_congr (by (try simp only [str_eq] at *); unfold alikeS; simp_all; done)

theorem c_l1Divides (a b : ByteArray) (ha : a.size ≤ 9223372036854775807) (hb : b.size ≤ 9223372036854775807) : ECalls cx 63 [(AV.lit (.string (a))), (AV.lit (.string (b)))] (bp (divsS a b)) := by
  refine ecalls_of_awp Tryd.func63 (c := _) rfl (Nat.le_of_ble_eq_true rfl) ?_
  show awp cx 21 _ (postF cx Tryd.f63 _) ⟨[(0, (AV.lit (.string (a)))), (1, (AV.lit (.string (b))))], []⟩
  refine awp_seq fun K0 hK0 => ?_
  refine awp_region rfl ?_
  refine o_assign (AV.lit (.bool false)) Gd.none rfl ?_
  refine aops_end ?_
  refine hK0 _ ?_
  refine awp_seq fun K1 hK1 => ?_
  refine awp_region rfl ?_
  refine o_move (AV.lit (.string (b))) Gd.none rfl ?_
  refine o_move (AV.lit (.string (a))) Gd.none rfl ?_
  refine o_call [(AV.lit (.string (b))), (AV.lit (.string (a)))] (AV.tup [(AV.lit (.string (divQ (b) (a)))), (AV.lit (.string (divR (b) (a)))), (nm .i64 (divE (b) (a)))]) Gd.none Wu_tC57 rfl (c_nDivide (b) (a) (by first | assumption | decide | omega) (by first | assumption | decide | omega)) ?_
  refine o_move (AV.tup [(AV.lit (.string (divQ (b) (a)))), (AV.lit (.string (divR (b) (a)))), (nm .i64 (divE (b) (a)))]) Gd.none rfl ?_
  refine o_extract (AV.lit (.string (divQ (b) (a)))) Gd.none rfl rfl ?_
  refine o_extract (AV.lit (.string (divR (b) (a)))) Gd.none rfl rfl ?_
  refine o_extract (nm .i64 (divE (b) (a))) Gd.none rfl rfl ?_
  refine o_assign (AV.lit (.string (divQ (b) (a)))) Gd.none rfl ?_
  refine o_assign (AV.lit (.string (divR (b) (a)))) Gd.none rfl ?_
  refine o_assign (nm .i64 (divE (b) (a))) Gd.none rfl ?_
  refine aops_end ?_
  refine hK1 _ ?_
  refine awp_seq fun K2 hK2 => ?_
  refine awp_region rfl ?_
  refine o_move (nm .i64 (divE (b) (a))) Gd.none rfl ?_
  refine n_eql (divE (b) (a)) (0) Gd.none rfl rfl ?_
  refine o_move (bp ((divE (b) (a)) = (0))) Gd.none rfl ?_
  refine o_splitP (q := (divE (b) (a)) = (0)) 17 rfl (fun h1 => ?_) (fun h1 => ?_)
  · refine o_move (AV.lit (.string (divR (b) (a)))) (Gd.yes rfl rfl (decide_eq_true h1)) rfl ?_
    refine o_eqlS (a := (divR (b) (a))) (c := (({data := #[48]} : ByteArray))) (Gd.yes rfl rfl (decide_eq_true h1)) rfl rfl ?_
    refine o_pickT (b := decide ((divE (b) (a)) = (0))) (bp ((divR (b) (a)).toList = (({data := #[48]} : ByteArray)).toList)) Gd.none rfl (decide_eq_true h1) rfl ?_
    refine o_assign (bp ((divR (b) (a)).toList = (({data := #[48]} : ByteArray)).toList)) Gd.none rfl ?_
    refine aops_end ?_
    refine hK2 _ ?_
    refine awp_ret ?_
    refine post_ret ⟨[(bp ((divR (b) (a)).toList = (({data := #[48]} : ByteArray)).toList))], And.intro (AV.le_refl _) (trivial), rfl, ?_⟩
    first | exact (bl_bp (b := true) (by (try simp only [str_eq] at *); unfold divsS; simp_all; done)).symm | exact (bl_bp (b := false) (by (try simp only [str_eq] at *); unfold divsS; simp_all; done)).symm | exact bp_congr (by (try simp only [str_eq] at *); unfold divsS; simp_all; done)
  · refine o_skip (b := decide ((divE (b) (a)) = (0))) rfl rfl (decide_eq_false h1) ?_
    refine o_skip (b := decide ((divE (b) (a)) = (0))) rfl rfl (decide_eq_false h1) ?_
    refine o_pickF (b := decide ((divE (b) (a)) = (0))) (AV.lit (.bool false)) Gd.none rfl (decide_eq_false h1) rfl ?_
    refine o_assign (AV.lit (.bool false)) Gd.none rfl ?_
    refine aops_end ?_
    refine hK2 _ ?_
    refine awp_ret ?_
    refine post_ret ⟨[(AV.lit (.bool false))], And.intro (AV.le_refl _) (trivial), rfl, ?_⟩
    first | exact (bl_bp (b := true) (by (try simp only [str_eq] at *); unfold divsS; simp_all; done)).symm | exact (bl_bp (b := false) (by (try simp only [str_eq] at *); unfold divsS; simp_all; done)).symm | exact bp_congr (by (try simp only [str_eq] at *); unfold divsS; simp_all; done)

theorem c_l1Told (s : ByteArray) (e : Nat) (z : Int) (hz : (digs z.natAbs).length ≤ 1000000000) : ECalls cx 59 [(AV.lit (.string (s))), (nm .i64 (e)), (intR (z))] (bp (s = toldS z ∧ e = toldE z)) := by
  refine ecalls_of_awp Tryd.func59 (c := _) rfl (Nat.le_of_ble_eq_true rfl) ?_
  show awp cx 22 _ (postF cx Tryd.f59 _) ⟨[(0, (AV.lit (.string (s)))), (1, (nm .i64 (e))), (2, (intR (z)))], []⟩
  refine awp_seq fun K0 hK0 => ?_
  refine awp_region rfl ?_
  refine o_box 2 [(bp (z < 0)), (AV.sl 1 (ns .i64 (digs (z).natAbs)))] Gd.none rfl rfl ?_
  refine o_assign (AV.lit (.bool false)) Gd.none rfl ?_
  refine aops_end ?_
  refine hK0 _ ?_
  refine awp_seq fun K1 hK1 => ?_
  refine awp_region rfl ?_
  refine o_loadA [(bp (z < 0)), (AV.sl 1 (ns .i64 (digs (z).natAbs)))] Gd.none Wu_tA36 rfl rfl rfl rfl rfl ?_
  refine o_call [(AV.agg [(bp (z < 0)), (AV.sl 1 (ns .i64 (digs (z).natAbs)))])] (AV.tup [(AV.lit (.string (toldS (z)))), (nm .i64 (toldE (z)))]) Gd.none Wu_tC46 rfl (c_rTold (z) (by first | assumption | omega | (simp only [Int.natAbs_neg]; omega))) ?_
  refine o_move (AV.tup [(AV.lit (.string (toldS (z)))), (nm .i64 (toldE (z)))]) Gd.none rfl ?_
  refine o_extract (AV.lit (.string (toldS (z)))) Gd.none rfl rfl ?_
  refine o_extract (nm .i64 (toldE (z))) Gd.none rfl rfl ?_
  refine o_assign (AV.lit (.string (toldS (z)))) Gd.none rfl ?_
  refine o_assign (nm .i64 (toldE (z))) Gd.none rfl ?_
  refine aops_end ?_
  refine hK1 _ ?_
  refine awp_seq fun K2 hK2 => ?_
  refine awp_region rfl ?_
  refine o_move (AV.lit (.string (s))) Gd.none rfl ?_
  refine o_move (AV.lit (.string (toldS (z)))) Gd.none rfl ?_
  refine o_eqlS (a := (s)) (c := (toldS (z))) Gd.none rfl rfl ?_
  refine o_move (bp ((s).toList = (toldS (z)).toList)) Gd.none rfl ?_
  refine o_splitP (q := (s).toList = (toldS (z)).toList) 17 rfl (fun h1 => ?_) (fun h1 => ?_)
  · refine o_move (nm .i64 (e)) (Gd.yes rfl rfl (decide_eq_true h1)) rfl ?_
    refine o_move (nm .i64 (toldE (z))) (Gd.yes rfl rfl (decide_eq_true h1)) rfl ?_
    refine n_eql (e) (toldE (z)) (Gd.yes rfl rfl (decide_eq_true h1)) rfl rfl ?_
    refine o_pickT (b := decide ((s).toList = (toldS (z)).toList)) (bp ((e) = (toldE (z)))) Gd.none rfl (decide_eq_true h1) rfl ?_
    refine o_assign (bp ((e) = (toldE (z)))) Gd.none rfl ?_
    refine aops_end ?_
    refine hK2 _ ?_
    refine awp_ret ?_
    refine post_ret ⟨[(bp ((e) = (toldE (z))))], And.intro (AV.le_refl _) (trivial), rfl, ?_⟩
    first | exact (bl_bp (b := true) (by (try simp only [str_eq] at *); simp_all; done)).symm | exact (bl_bp (b := false) (by (try simp only [str_eq] at *); simp_all; done)).symm | exact bp_congr (by (try simp only [str_eq] at *); simp_all; done)
  · refine o_skip (b := decide ((s).toList = (toldS (z)).toList)) rfl rfl (decide_eq_false h1) ?_
    refine o_skip (b := decide ((s).toList = (toldS (z)).toList)) rfl rfl (decide_eq_false h1) ?_
    refine o_skip (b := decide ((s).toList = (toldS (z)).toList)) rfl rfl (decide_eq_false h1) ?_
    refine o_pickF (b := decide ((s).toList = (toldS (z)).toList)) (AV.lit (.bool false)) Gd.none rfl (decide_eq_false h1) rfl ?_
    refine o_assign (AV.lit (.bool false)) Gd.none rfl ?_
    refine aops_end ?_
    refine hK2 _ ?_
    refine awp_ret ?_
    refine post_ret ⟨[(AV.lit (.bool false))], And.intro (AV.le_refl _) (trivial), rfl, ?_⟩
    first | exact (bl_bp (b := true) (by (try simp only [str_eq] at *); simp_all; done)).symm | exact (bl_bp (b := false) (by (try simp only [str_eq] at *); simp_all; done)).symm | exact bp_congr (by (try simp only [str_eq] at *); simp_all; done)

end Go.Proofs.YtkngglpnejdicaaDoor
