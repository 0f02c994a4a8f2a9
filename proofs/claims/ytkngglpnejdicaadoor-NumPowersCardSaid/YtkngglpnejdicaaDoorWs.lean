import Derived.Test.YtkngglpnejdicaaDoorWr
import Derived.Test.YtkngglpnejdicaaDoorQy
set_option linter.unusedVariables false
set_option linter.unusedSimpArgs false
namespace Go.Proofs.YtkngglpnejdicaaDoor
open Go Go.Ab Go.Mth
theorem Ws_tO89 : tyZero cx.P 89 = some [(Go.Value.bool false), (Go.Value.slice none 0 0)] := by kernel_rfl
theorem Ws_tF89_1 : tyField cx.P 89 1 = some (1, 87) := by kernel_rfl
theorem Ws_tS87 : tySc cx.P 87 = true := by kernel_rfl
theorem Ws_tC109 : callable cx.P 109 = true := by kernel_rfl
theorem Ws_tF89_0 : tyField cx.P 89 0 = some (0, 4) := by kernel_rfl
theorem Ws_tS4 : tySc cx.P 4 = true := by kernel_rfl
theorem Ws_tC101 : callable cx.P 101 = true := by kernel_rfl
theorem Ws_tZ89 : tySize cx.P 89 = some 2 := by kernel_rfl
theorem Ws_tA89 : tyAgg cx.P 89 = some 2 := by kernel_rfl
theorem Ws_tC94 : callable cx.P 94 = true := by kernel_rfl
theorem Ws_tC105 : callable cx.P 105 = true := by kernel_rfl
theorem Ws_tC93 : callable cx.P 93 = true := by kernel_rfl
theorem Ws_tC92 : callable cx.P 92 = true := by kernel_rfl
theorem Ws_tC95 : callable cx.P 95 = true := by kernel_rfl
theorem Ws_tC91 : callable cx.P 91 = true := by kernel_rfl
theorem c_wDivide (x y : Int) (hy : 0 < y) (hx : (digs x.natAbs).length ≤ 800000000) (hyl : (digs y.natAbs).length ≤ 800000000) : ECalls cx 95 [(intW (x)), (intW (y))] (.tup [intW (x / y), intW (x % y)]) := by
  refine ecalls_of_awp Tryd.func95 (c := _) rfl (Nat.le_of_ble_eq_true rfl) ?_
  show awp cx 40 _ (postF cx Tryd.f95 _) ⟨[(0, (intW (x))), (1, (intW (y)))], []⟩
  have hlq := fun b => len_qN b x y
  have hlr := fun b => len_rN b x y
  have hq1 : (digs ((sg (true) (val (dgn (digs ((x).natAbs)).length ((x).natAbs / (y).natAbs)))).natAbs)).length ≤ (digs x.natAbs).length := hlq true
  have hr1 : (digs ((sg (true) (val (digs ((x).natAbs % (y).natAbs)))).natAbs)).length ≤ (digs x.natAbs).length := hlr true
  have ho := len_one
  refine awp_seq fun K0 hK0 => ?_
  refine awp_region rfl ?_
  refine o_box 2 [(bp (x < 0)), (AV.sl 1 (ns .u32 (digs (x).natAbs)))] Gd.none rfl rfl ?_
  refine o_box 3 [(bp (y < 0)), (AV.sl 1 (ns .u32 (digs (y).natAbs)))] Gd.none rfl rfl ?_
  refine o_alloc 4 [(AV.lit (.bool false)), (AV.lit (.slice none 0 0))] Gd.none Ws_tO89 rfl rfl rfl ?_
  refine o_alloc 5 [(AV.lit (.bool false)), (AV.lit (.slice none 0 0))] Gd.none Ws_tO89 rfl rfl rfl ?_
  refine aops_end ?_
  refine hK0 _ ?_
  refine awp_seq fun K1 hK1 => ?_
  refine awp_region rfl ?_
  refine o_fieldRef 1 Gd.none Ws_tF89_1 rfl rfl ?_
  refine o_loadS (AV.sl 1 (ns .u32 (digs (x).natAbs))) Gd.none Ws_tS87 rfl rfl rfl ?_
  refine o_fieldRef 1 Gd.none Ws_tF89_1 rfl rfl ?_
  refine o_loadS (AV.sl 1 (ns .u32 (digs (y).natAbs))) Gd.none Ws_tS87 rfl rfl rfl ?_
  refine o_call [(AV.sl 1 (ns .u32 (digs (x).natAbs))), (AV.sl 1 (ns .u32 (digs (y).natAbs)))] (AV.tup [(AV.sl 1 (ns .u32 (dgn (digs ((x).natAbs)).length ((x).natAbs / (y).natAbs)))), (AV.sl 1 (ns .u32 (digs ((x).natAbs % (y).natAbs))))]) Gd.none Ws_tC109 rfl (c_wQuot ((x).natAbs) ((y).natAbs) (by omega) (by omega) (by omega)) ?_
  refine o_move (AV.tup [(AV.sl 1 (ns .u32 (dgn (digs ((x).natAbs)).length ((x).natAbs / (y).natAbs)))), (AV.sl 1 (ns .u32 (digs ((x).natAbs % (y).natAbs))))]) Gd.none rfl ?_
  refine o_extract (AV.sl 1 (ns .u32 (dgn (digs ((x).natAbs)).length ((x).natAbs / (y).natAbs)))) Gd.none rfl rfl ?_
  refine o_extract (AV.sl 1 (ns .u32 (digs ((x).natAbs % (y).natAbs)))) Gd.none rfl rfl ?_
  refine o_assign (AV.sl 1 (ns .u32 (dgn (digs ((x).natAbs)).length ((x).natAbs / (y).natAbs)))) Gd.none rfl ?_
  refine o_assign (AV.sl 1 (ns .u32 (digs ((x).natAbs % (y).natAbs)))) Gd.none rfl ?_
  refine aops_end ?_
  refine hK1 _ ?_
  refine awp_seq fun K2 hK2 => ?_
  refine awp_seq fun K3 hK3 => ?_
  refine awp_region rfl ?_
  refine o_fieldRef 0 Gd.none Ws_tF89_0 rfl rfl ?_
  refine o_loadS (bp (x < 0)) Gd.none Ws_tS4 rfl rfl rfl ?_
  refine o_notP (q := x < 0) Gd.none rfl ?_
  refine aops_end ?_
  refine hK3 _ ?_
  refine awp_condQ (q := ¬ (x < 0)) rfl (fun h1 => ?_) (fun h1 => ?_)
  · refine awp_seq fun K4 hK4 => ?_
    refine awp_region rfl ?_
    refine o_move (AV.sl 1 (ns .u32 (dgn (digs ((x).natAbs)).length ((x).natAbs / (y).natAbs)))) Gd.none rfl ?_
    refine o_call [(AV.lit (.bool false)), (AV.sl 1 (ns .u32 (dgn (digs ((x).natAbs)).length ((x).natAbs / (y).natAbs))))] (intW ((sg (false) (val (dgn (digs ((x).natAbs)).length ((x).natAbs / (y).natAbs)))))) Gd.none Ws_tC101 rfl (c_wTrim (false) (dgn (digs ((x).natAbs)).length ((x).natAbs / (y).natAbs)) (by first | assumption | exact dgn_dig _ _ | exact digs_dig _ | exact Dig.snoc (by assumption) (by assumption) | exact Dig.cons (by omega) (digs_dig _))) ?_
    refine o_move (AV.sl 1 (ns .u32 (digs ((x).natAbs % (y).natAbs)))) Gd.none rfl ?_
    refine o_call [(AV.lit (.bool false)), (AV.sl 1 (ns .u32 (digs ((x).natAbs % (y).natAbs))))] (intW ((sg (false) (val (digs ((x).natAbs % (y).natAbs)))))) Gd.none Ws_tC101 rfl (c_wTrim (false) (digs ((x).natAbs % (y).natAbs)) (by first | assumption | exact dgn_dig _ _ | exact digs_dig _ | exact Dig.snoc (by assumption) (by assumption) | exact Dig.cons (by omega) (digs_dig _))) ?_
    refine o_store [(5, (AO.var 89 [(AV.lit (.bool false)), (AV.lit (.slice none 0 0))])), (4, (AO.var 89 [(bp ((sg (false) (val (dgn (digs ((x).natAbs)).length ((x).natAbs / (y).natAbs)))) < 0)), (AV.sl 1 (ns .u32 (digs ((sg (false) (val (dgn (digs ((x).natAbs)).length ((x).natAbs / (y).natAbs))))).natAbs)))])), (3, (AO.var 89 [(bp (y < 0)), (AV.sl 1 (ns .u32 (digs (y).natAbs)))])), (2, (AO.var 89 [(bp (x < 0)), (AV.sl 1 (ns .u32 (digs (x).natAbs)))]))] Gd.none Ws_tZ89 rfl rfl rfl rfl rfl rfl ?_
    refine o_store [(5, (AO.var 89 [(bp ((sg (false) (val (digs ((x).natAbs % (y).natAbs)))) < 0)), (AV.sl 1 (ns .u32 (digs ((sg (false) (val (digs ((x).natAbs % (y).natAbs))))).natAbs)))])), (4, (AO.var 89 [(bp ((sg (false) (val (dgn (digs ((x).natAbs)).length ((x).natAbs / (y).natAbs)))) < 0)), (AV.sl 1 (ns .u32 (digs ((sg (false) (val (dgn (digs ((x).natAbs)).length ((x).natAbs / (y).natAbs))))).natAbs)))])), (3, (AO.var 89 [(bp (y < 0)), (AV.sl 1 (ns .u32 (digs (y).natAbs)))])), (2, (AO.var 89 [(bp (x < 0)), (AV.sl 1 (ns .u32 (digs (x).natAbs)))]))] Gd.none Ws_tZ89 rfl rfl rfl rfl rfl rfl ?_
    refine aops_end ?_
    refine hK4 _ ?_
    refine awp_ret ?_
    refine post_ret ⟨[(AV.agg [(bp ((sg (false) (val (dgn (digs ((x).natAbs)).length ((x).natAbs / (y).natAbs)))) < 0)), (AV.sl 1 (ns .u32 (digs ((sg (false) (val (dgn (digs ((x).natAbs)).length ((x).natAbs / (y).natAbs))))).natAbs)))]), (AV.agg [(bp ((sg (false) (val (digs ((x).natAbs % (y).natAbs)))) < 0)), (AV.sl 1 (ns .u32 (digs ((sg (false) (val (digs ((x).natAbs % (y).natAbs))))).natAbs)))])], And.intro ⟨4, (AO.var 89 [(bp ((sg (false) (val (dgn (digs ((x).natAbs)).length ((x).natAbs / (y).natAbs)))) < 0)), (AV.sl 1 (ns .u32 (digs ((sg (false) (val (dgn (digs ((x).natAbs)).length ((x).natAbs / (y).natAbs))))).natAbs)))]), rfl, rfl, rfl, Or.inl ⟨Ws_tA89, AV.le_refl _⟩⟩ (And.intro ⟨5, (AO.var 89 [(bp ((sg (false) (val (digs ((x).natAbs % (y).natAbs)))) < 0)), (AV.sl 1 (ns .u32 (digs ((sg (false) (val (digs ((x).natAbs % (y).natAbs))))).natAbs)))]), rfl, rfl, rfl, Or.inl ⟨Ws_tA89, AV.le_refl _⟩⟩ (trivial)), rfl, ?_⟩
    have e := div1 h1 hy
    exact tup_eq2 (congrArg intW e.1) (congrArg intW e.2)
  · refine awp_skip ?_
    refine hK2 _ ?_
    refine awp_seq fun K5 hK5 => ?_
    refine awp_region rfl ?_
    refine o_move (AV.sl 1 (ns .u32 (dgn (digs ((x).natAbs)).length ((x).natAbs / (y).natAbs)))) Gd.none rfl ?_
    refine o_call [(AV.lit (.bool true)), (AV.sl 1 (ns .u32 (dgn (digs ((x).natAbs)).length ((x).natAbs / (y).natAbs))))] (intW ((sg (true) (val (dgn (digs ((x).natAbs)).length ((x).natAbs / (y).natAbs)))))) Gd.none Ws_tC101 rfl (c_wTrim (true) (dgn (digs ((x).natAbs)).length ((x).natAbs / (y).natAbs)) (by first | assumption | exact dgn_dig _ _ | exact digs_dig _ | exact Dig.snoc (by assumption) (by assumption) | exact Dig.cons (by omega) (digs_dig _))) ?_
    refine o_move (AV.sl 1 (ns .u32 (digs ((x).natAbs % (y).natAbs)))) Gd.none rfl ?_
    refine o_call [(AV.lit (.bool true)), (AV.sl 1 (ns .u32 (digs ((x).natAbs % (y).natAbs))))] (intW ((sg (true) (val (digs ((x).natAbs % (y).natAbs)))))) Gd.none Ws_tC101 rfl (c_wTrim (true) (digs ((x).natAbs % (y).natAbs)) (by first | assumption | exact dgn_dig _ _ | exact digs_dig _ | exact Dig.snoc (by assumption) (by assumption) | exact Dig.cons (by omega) (digs_dig _))) ?_
    refine o_alloc 6 [(AV.lit (.bool false)), (AV.lit (.slice none 0 0))] Gd.none Ws_tO89 rfl rfl rfl ?_
    refine o_alloc 7 [(AV.lit (.bool false)), (AV.lit (.slice none 0 0))] Gd.none Ws_tO89 rfl rfl rfl ?_
    refine o_store [(7, (AO.var 89 [(AV.lit (.bool false)), (AV.lit (.slice none 0 0))])), (6, (AO.var 89 [(bp ((sg (true) (val (dgn (digs ((x).natAbs)).length ((x).natAbs / (y).natAbs)))) < 0)), (AV.sl 1 (ns .u32 (digs ((sg (true) (val (dgn (digs ((x).natAbs)).length ((x).natAbs / (y).natAbs))))).natAbs)))])), (5, (AO.var 89 [(AV.lit (.bool false)), (AV.lit (.slice none 0 0))])), (4, (AO.var 89 [(AV.lit (.bool false)), (AV.lit (.slice none 0 0))])), (3, (AO.var 89 [(bp (y < 0)), (AV.sl 1 (ns .u32 (digs (y).natAbs)))])), (2, (AO.var 89 [(bp (x < 0)), (AV.sl 1 (ns .u32 (digs (x).natAbs)))]))] Gd.none Ws_tZ89 rfl rfl rfl rfl rfl rfl ?_
    refine o_store [(7, (AO.var 89 [(bp ((sg (true) (val (digs ((x).natAbs % (y).natAbs)))) < 0)), (AV.sl 1 (ns .u32 (digs ((sg (true) (val (digs ((x).natAbs % (y).natAbs))))).natAbs)))])), (6, (AO.var 89 [(bp ((sg (true) (val (dgn (digs ((x).natAbs)).length ((x).natAbs / (y).natAbs)))) < 0)), (AV.sl 1 (ns .u32 (digs ((sg (true) (val (dgn (digs ((x).natAbs)).length ((x).natAbs / (y).natAbs))))).natAbs)))])), (5, (AO.var 89 [(AV.lit (.bool false)), (AV.lit (.slice none 0 0))])), (4, (AO.var 89 [(AV.lit (.bool false)), (AV.lit (.slice none 0 0))])), (3, (AO.var 89 [(bp (y < 0)), (AV.sl 1 (ns .u32 (digs (y).natAbs)))])), (2, (AO.var 89 [(bp (x < 0)), (AV.sl 1 (ns .u32 (digs (x).natAbs)))]))] Gd.none Ws_tZ89 rfl rfl rfl rfl rfl rfl ?_
    refine aops_end ?_
    refine hK5 _ ?_
    refine awp_seq fun K6 hK6 => ?_
    refine awp_seq fun K7 hK7 => ?_
    refine awp_region rfl ?_
    refine o_loadA [(bp ((sg (true) (val (digs ((x).natAbs % (y).natAbs)))) < 0)), (AV.sl 1 (ns .u32 (digs ((sg (true) (val (digs ((x).natAbs % (y).natAbs))))).natAbs)))] Gd.none Ws_tA89 rfl rfl rfl rfl rfl ?_
    refine o_call [(AV.agg [(bp ((sg (true) (val (digs ((x).natAbs % (y).natAbs)))) < 0)), (AV.sl 1 (ns .u32 (digs ((sg (true) (val (digs ((x).natAbs % (y).natAbs))))).natAbs)))])] (AV.lit (.int .i64 (sgn ((sg (true) (val (digs ((x).natAbs % (y).natAbs)))))))) Gd.none Ws_tC94 rfl (c_wSign ((sg (true) (val (digs ((x).natAbs % (y).natAbs)))))) ?_
    refine o_lss (a := (sgn ((sg (true) (val (digs ((x).natAbs % (y).natAbs))))))) (c := (((0 : Nat) : Int))) Gd.none rfl rfl ?_
    refine aops_end ?_
    refine hK7 _ ?_
    refine awp_condQ (q := (sgn ((sg (true) (val (digs ((x).natAbs % (y).natAbs)))))) < (((0 : Nat) : Int))) rfl (fun h2 => ?_) (fun h2 => ?_)
    · refine awp_seq fun K8 hK8 => ?_
      refine awp_regionD rfl ?_
      refine o_loadA [(bp ((sg (true) (val (dgn (digs ((x).natAbs)).length ((x).natAbs / (y).natAbs)))) < 0)), (AV.sl 1 (ns .u32 (digs ((sg (true) (val (dgn (digs ((x).natAbs)).length ((x).natAbs / (y).natAbs))))).natAbs)))] Gd.none Ws_tA89 rfl rfl rfl rfl rfl ?_
      refine o_call [(nm .i64 (1))] (intW ((1 : Int))) Gd.none Ws_tC105 rfl (c_wOf ((1 : Int)) (by first | decide | omega) (by first | decide | omega)) ?_
      refine o_call [(AV.agg [(bp ((sg (true) (val (dgn (digs ((x).natAbs)).length ((x).natAbs / (y).natAbs)))) < 0)), (AV.sl 1 (ns .u32 (digs ((sg (true) (val (dgn (digs ((x).natAbs)).length ((x).natAbs / (y).natAbs))))).natAbs)))]), (intW ((1 : Int)))] (intW (((sg (true) (val (dgn (digs ((x).natAbs)).length ((x).natAbs / (y).natAbs)))) - (1 : Int)))) Gd.none Ws_tC93 rfl (c_wSub ((sg (true) (val (dgn (digs ((x).natAbs)).length ((x).natAbs / (y).natAbs))))) ((1 : Int)) (by first | assumption | omega | (simp only [Int.natAbs_neg]; omega)) (by first | assumption | omega | (simp only [Int.natAbs_neg]; omega))) ?_
      refine o_loadA [(bp ((sg (true) (val (digs ((x).natAbs % (y).natAbs)))) < 0)), (AV.sl 1 (ns .u32 (digs ((sg (true) (val (digs ((x).natAbs % (y).natAbs))))).natAbs)))] Gd.none Ws_tA89 rfl rfl rfl rfl rfl ?_
      refine o_loadA [(bp (y < 0)), (AV.sl 1 (ns .u32 (digs (y).natAbs)))] Gd.none Ws_tA89 rfl rfl rfl rfl rfl ?_
      refine o_call [(AV.agg [(bp ((sg (true) (val (digs ((x).natAbs % (y).natAbs)))) < 0)), (AV.sl 1 (ns .u32 (digs ((sg (true) (val (digs ((x).natAbs % (y).natAbs))))).natAbs)))]), (AV.agg [(bp (y < 0)), (AV.sl 1 (ns .u32 (digs (y).natAbs)))])] (intW (((sg (true) (val (digs ((x).natAbs % (y).natAbs)))) + y))) Gd.none Ws_tC92 rfl (c_wAdd ((sg (true) (val (digs ((x).natAbs % (y).natAbs))))) (y) (by first | assumption | omega | (simp only [Int.natAbs_neg]; omega)) (by first | assumption | omega | (simp only [Int.natAbs_neg]; omega))) ?_
      refine o_store [(7, (AO.var 89 [(bp ((sg (true) (val (digs ((x).natAbs % (y).natAbs)))) < 0)), (AV.sl 1 (ns .u32 (digs ((sg (true) (val (digs ((x).natAbs % (y).natAbs))))).natAbs)))])), (6, (AO.var 89 [(bp ((sg (true) (val (dgn (digs ((x).natAbs)).length ((x).natAbs / (y).natAbs)))) < 0)), (AV.sl 1 (ns .u32 (digs ((sg (true) (val (dgn (digs ((x).natAbs)).length ((x).natAbs / (y).natAbs))))).natAbs)))])), (5, (AO.var 89 [(AV.lit (.bool false)), (AV.lit (.slice none 0 0))])), (4, (AO.var 89 [(bp (((sg (true) (val (dgn (digs ((x).natAbs)).length ((x).natAbs / (y).natAbs)))) - (1 : Int)) < 0)), (AV.sl 1 (ns .u32 (digs (((sg (true) (val (dgn (digs ((x).natAbs)).length ((x).natAbs / (y).natAbs)))) - (1 : Int))).natAbs)))])), (3, (AO.var 89 [(bp (y < 0)), (AV.sl 1 (ns .u32 (digs (y).natAbs)))])), (2, (AO.var 89 [(bp (x < 0)), (AV.sl 1 (ns .u32 (digs (x).natAbs)))]))] Gd.none Ws_tZ89 rfl rfl rfl rfl rfl rfl ?_
      refine o_store [(7, (AO.var 89 [(bp ((sg (true) (val (digs ((x).natAbs % (y).natAbs)))) < 0)), (AV.sl 1 (ns .u32 (digs ((sg (true) (val (digs ((x).natAbs % (y).natAbs))))).natAbs)))])), (6, (AO.var 89 [(bp ((sg (true) (val (dgn (digs ((x).natAbs)).length ((x).natAbs / (y).natAbs)))) < 0)), (AV.sl 1 (ns .u32 (digs ((sg (true) (val (dgn (digs ((x).natAbs)).length ((x).natAbs / (y).natAbs))))).natAbs)))])), (5, (AO.var 89 [(bp (((sg (true) (val (digs ((x).natAbs % (y).natAbs)))) + y) < 0)), (AV.sl 1 (ns .u32 (digs (((sg (true) (val (digs ((x).natAbs % (y).natAbs)))) + y)).natAbs)))])), (4, (AO.var 89 [(bp (((sg (true) (val (dgn (digs ((x).natAbs)).length ((x).natAbs / (y).natAbs)))) - (1 : Int)) < 0)), (AV.sl 1 (ns .u32 (digs (((sg (true) (val (dgn (digs ((x).natAbs)).length ((x).natAbs / (y).natAbs)))) - (1 : Int))).natAbs)))])), (3, (AO.var 89 [(bp (y < 0)), (AV.sl 1 (ns .u32 (digs (y).natAbs)))])), (2, (AO.var 89 [(bp (x < 0)), (AV.sl 1 (ns .u32 (digs (x).natAbs)))]))] Gd.none Ws_tZ89 rfl rfl rfl rfl rfl rfl ?_
      refine aops_end ⟨by kernel_rfl, ?_⟩
      refine hK8 _ ?_
      refine awp_ret ?_
      refine post_ret ⟨[(AV.agg [(bp (((sg (true) (val (dgn (digs ((x).natAbs)).length ((x).natAbs / (y).natAbs)))) - (1 : Int)) < 0)), (AV.sl 1 (ns .u32 (digs (((sg (true) (val (dgn (digs ((x).natAbs)).length ((x).natAbs / (y).natAbs)))) - (1 : Int))).natAbs)))]), (AV.agg [(bp (((sg (true) (val (digs ((x).natAbs % (y).natAbs)))) + y) < 0)), (AV.sl 1 (ns .u32 (digs (((sg (true) (val (digs ((x).natAbs % (y).natAbs)))) + y)).natAbs)))])], And.intro ⟨4, (AO.var 89 [(bp (((sg (true) (val (dgn (digs ((x).natAbs)).length ((x).natAbs / (y).natAbs)))) - (1 : Int)) < 0)), (AV.sl 1 (ns .u32 (digs (((sg (true) (val (dgn (digs ((x).natAbs)).length ((x).natAbs / (y).natAbs)))) - (1 : Int))).natAbs)))]), rfl, rfl, rfl, Or.inl ⟨Ws_tA89, AV.le_refl _⟩⟩ (And.intro ⟨5, (AO.var 89 [(bp (((sg (true) (val (digs ((x).natAbs % (y).natAbs)))) + y) < 0)), (AV.sl 1 (ns .u32 (digs (((sg (true) (val (digs ((x).natAbs % (y).natAbs)))) + y)).natAbs)))]), rfl, rfl, rfl, Or.inl ⟨Ws_tA89, AV.le_refl _⟩⟩ (trivial)), rfl, ?_⟩
      have e := div2 (Decidable.not_not.1 h1) hy h2
      exact tup_eq2 (congrArg intW e.1) (congrArg intW e.2)
    · refine awp_skip ?_
      refine hK6 _ ?_
      refine awp_seq fun K9 hK9 => ?_
      refine awp_regionD rfl ?_
      refine o_loadA [(bp ((sg (true) (val (dgn (digs ((x).natAbs)).length ((x).natAbs / (y).natAbs)))) < 0)), (AV.sl 1 (ns .u32 (digs ((sg (true) (val (dgn (digs ((x).natAbs)).length ((x).natAbs / (y).natAbs))))).natAbs)))] Gd.none Ws_tA89 rfl rfl rfl rfl rfl ?_
      refine o_loadA [(bp ((sg (true) (val (digs ((x).natAbs % (y).natAbs)))) < 0)), (AV.sl 1 (ns .u32 (digs ((sg (true) (val (digs ((x).natAbs % (y).natAbs))))).natAbs)))] Gd.none Ws_tA89 rfl rfl rfl rfl rfl ?_
      refine o_store [(7, (AO.var 89 [(bp ((sg (true) (val (digs ((x).natAbs % (y).natAbs)))) < 0)), (AV.sl 1 (ns .u32 (digs ((sg (true) (val (digs ((x).natAbs % (y).natAbs))))).natAbs)))])), (6, (AO.var 89 [(bp ((sg (true) (val (dgn (digs ((x).natAbs)).length ((x).natAbs / (y).natAbs)))) < 0)), (AV.sl 1 (ns .u32 (digs ((sg (true) (val (dgn (digs ((x).natAbs)).length ((x).natAbs / (y).natAbs))))).natAbs)))])), (5, (AO.var 89 [(AV.lit (.bool false)), (AV.lit (.slice none 0 0))])), (4, (AO.var 89 [(bp ((sg (true) (val (dgn (digs ((x).natAbs)).length ((x).natAbs / (y).natAbs)))) < 0)), (AV.sl 1 (ns .u32 (digs ((sg (true) (val (dgn (digs ((x).natAbs)).length ((x).natAbs / (y).natAbs))))).natAbs)))])), (3, (AO.var 89 [(bp (y < 0)), (AV.sl 1 (ns .u32 (digs (y).natAbs)))])), (2, (AO.var 89 [(bp (x < 0)), (AV.sl 1 (ns .u32 (digs (x).natAbs)))]))] Gd.none Ws_tZ89 rfl rfl rfl rfl rfl rfl ?_
      refine o_store [(7, (AO.var 89 [(bp ((sg (true) (val (digs ((x).natAbs % (y).natAbs)))) < 0)), (AV.sl 1 (ns .u32 (digs ((sg (true) (val (digs ((x).natAbs % (y).natAbs))))).natAbs)))])), (6, (AO.var 89 [(bp ((sg (true) (val (dgn (digs ((x).natAbs)).length ((x).natAbs / (y).natAbs)))) < 0)), (AV.sl 1 (ns .u32 (digs ((sg (true) (val (dgn (digs ((x).natAbs)).length ((x).natAbs / (y).natAbs))))).natAbs)))])), (5, (AO.var 89 [(bp ((sg (true) (val (digs ((x).natAbs % (y).natAbs)))) < 0)), (AV.sl 1 (ns .u32 (digs ((sg (true) (val (digs ((x).natAbs % (y).natAbs))))).natAbs)))])), (4, (AO.var 89 [(bp ((sg (true) (val (dgn (digs ((x).natAbs)).length ((x).natAbs / (y).natAbs)))) < 0)), (AV.sl 1 (ns .u32 (digs ((sg (true) (val (dgn (digs ((x).natAbs)).length ((x).natAbs / (y).natAbs))))).natAbs)))])), (3, (AO.var 89 [(bp (y < 0)), (AV.sl 1 (ns .u32 (digs (y).natAbs)))])), (2, (AO.var 89 [(bp (x < 0)), (AV.sl 1 (ns .u32 (digs (x).natAbs)))]))] Gd.none Ws_tZ89 rfl rfl rfl rfl rfl rfl ?_
      refine aops_end ⟨by kernel_rfl, ?_⟩
      refine hK9 _ ?_
      refine awp_ret ?_
      refine post_ret ⟨[(AV.agg [(bp ((sg (true) (val (dgn (digs ((x).natAbs)).length ((x).natAbs / (y).natAbs)))) < 0)), (AV.sl 1 (ns .u32 (digs ((sg (true) (val (dgn (digs ((x).natAbs)).length ((x).natAbs / (y).natAbs))))).natAbs)))]), (AV.agg [(bp ((sg (true) (val (digs ((x).natAbs % (y).natAbs)))) < 0)), (AV.sl 1 (ns .u32 (digs ((sg (true) (val (digs ((x).natAbs % (y).natAbs))))).natAbs)))])], And.intro ⟨4, (AO.var 89 [(bp ((sg (true) (val (dgn (digs ((x).natAbs)).length ((x).natAbs / (y).natAbs)))) < 0)), (AV.sl 1 (ns .u32 (digs ((sg (true) (val (dgn (digs ((x).natAbs)).length ((x).natAbs / (y).natAbs))))).natAbs)))]), rfl, rfl, rfl, Or.inl ⟨Ws_tA89, AV.le_refl _⟩⟩ (And.intro ⟨5, (AO.var 89 [(bp ((sg (true) (val (digs ((x).natAbs % (y).natAbs)))) < 0)), (AV.sl 1 (ns .u32 (digs ((sg (true) (val (digs ((x).natAbs % (y).natAbs))))).natAbs)))]), rfl, rfl, rfl, Or.inl ⟨Ws_tA89, AV.le_refl _⟩⟩ (trivial)), rfl, ?_⟩
      have e := div3 (Decidable.not_not.1 h1) hy h2
      exact tup_eq2 (congrArg intW e.1) (congrArg intW e.2)

theorem c_wGcd (x y : Int) (hx : (digs x.natAbs).length ≤ 800000000) (hyl : (digs y.natAbs).length ≤ 800000000) : ECalls cx 96 [(intW (x)), (intW (y))] (intW ((Int.gcd x y : Nat) : Int)) := by
  refine ecalls_of_awp Tryd.func96 (c := _) rfl (Nat.le_of_ble_eq_true rfl) ?_
  show awp cx 25 _ (postF cx Tryd.f96 _) ⟨[(0, (intW (x))), (1, (intW (y)))], []⟩
  refine awp_seq fun K0 hK0 => ?_
  refine awp_region rfl ?_
  refine o_box 2 [(bp (x < 0)), (AV.sl 1 (ns .u32 (digs (x).natAbs)))] Gd.none rfl rfl ?_
  refine o_box 3 [(bp (y < 0)), (AV.sl 1 (ns .u32 (digs (y).natAbs)))] Gd.none rfl rfl ?_
  refine o_alloc 4 [(AV.lit (.bool false)), (AV.lit (.slice none 0 0))] Gd.none Ws_tO89 rfl rfl rfl ?_
  refine aops_end ?_
  refine hK0 _ ?_
  refine awp_seq fun K1 hK1 => ?_
  refine awp_regionD rfl ?_
  refine o_fieldRef 1 Gd.none Ws_tF89_1 rfl rfl ?_
  refine o_loadS (AV.sl 1 (ns .u32 (digs (x).natAbs))) Gd.none Ws_tS87 rfl rfl rfl ?_
  refine o_call [(AV.lit (.bool false)), (AV.sl 1 (ns .u32 (digs (x).natAbs)))] (intW ((sg (false) (val (digs (x).natAbs))))) Gd.none Ws_tC101 rfl (c_wTrim (false) (digs (x).natAbs) (by first | assumption | exact dgn_dig _ _ | exact digs_dig _ | exact Dig.snoc (by assumption) (by assumption) | exact Dig.cons (by omega) (digs_dig _))) ?_
  refine n_as (v' := (intW (((x.natAbs : Nat) : Int)))) (by exact congrArg intW (by rw [val_digs]; rfl)) ?_
  refine o_fieldRef 1 Gd.none Ws_tF89_1 rfl rfl ?_
  refine o_loadS (AV.sl 1 (ns .u32 (digs (y).natAbs))) Gd.none Ws_tS87 rfl rfl rfl ?_
  refine o_call [(AV.lit (.bool false)), (AV.sl 1 (ns .u32 (digs (y).natAbs)))] (intW ((sg (false) (val (digs (y).natAbs))))) Gd.none Ws_tC101 rfl (c_wTrim (false) (digs (y).natAbs) (by first | assumption | exact dgn_dig _ _ | exact digs_dig _ | exact Dig.snoc (by assumption) (by assumption) | exact Dig.cons (by omega) (digs_dig _))) ?_
  refine n_as (v' := (intW (((y.natAbs : Nat) : Int)))) (by exact congrArg intW (by rw [val_digs]; rfl)) ?_
  refine o_store [(4, (AO.var 89 [(AV.lit (.bool false)), (AV.lit (.slice none 0 0))])), (3, (AO.var 89 [(bp (y < 0)), (AV.sl 1 (ns .u32 (digs (y).natAbs)))])), (2, (AO.var 89 [(bp (((x.natAbs : Nat) : Int) < 0)), (AV.sl 1 (ns .u32 (digs (((x.natAbs : Nat) : Int)).natAbs)))]))] Gd.none Ws_tZ89 rfl rfl rfl rfl rfl rfl ?_
  refine o_store [(4, (AO.var 89 [(AV.lit (.bool false)), (AV.lit (.slice none 0 0))])), (3, (AO.var 89 [(bp (((y.natAbs : Nat) : Int) < 0)), (AV.sl 1 (ns .u32 (digs (((y.natAbs : Nat) : Int)).natAbs)))])), (2, (AO.var 89 [(bp (((x.natAbs : Nat) : Int) < 0)), (AV.sl 1 (ns .u32 (digs (((x.natAbs : Nat) : Int)).natAbs)))]))] Gd.none Ws_tZ89 rfl rfl rfl rfl rfl rfl ?_
  refine aops_end ⟨by kernel_rfl, ?_⟩
  refine hK1 _ ?_
  refine awp_seq fun K2 hK2 => ?_
  refine awp_block ?_
  refine awp_loopR (fun κ σ => ∃ (u : Nat), ∃ (v : Nat), (Nat.gcd u v = Int.gcd x y) ∧ ((digs u).length ≤ 800000000) ∧ ((digs v).length ≤ 800000000) ∧ (v) = κ ∧ σ = ⟨[(2, (AV.ref 2 (0))), (3, (AV.ref 3 (0))), (4, (AV.ref 4 (0)))], [(2, (AO.var 89 [(bp (((u : Nat) : Int) < 0)), (AV.sl 1 (ns .u32 (digs (((u : Nat) : Int)).natAbs)))])), (3, (AO.var 89 [(bp (((v : Nat) : Int) < 0)), (AV.sl 1 (ns .u32 (digs (((v : Nat) : Int)).natAbs)))])), (4, (AO.var 89 [(AV.lit (.bool false)), (AV.lit (.slice none 0 0))]))]⟩) ⟨_, _, ⟨x.natAbs, y.natAbs, rfl, hx, hyl, rfl, rfl⟩, ?wk0⟩ ?rd0
  case wk0 =>
    exact Wk.sub (And.intro (by exact rfl) (And.intro (by exact rfl) (And.intro (by exact rfl) (trivial)))) (And.intro (by first | rfl | exact row_ns (by simp) | exact congrArg (fun x => some (AO.blk (.stringIter _ x))) (by omega)) (And.intro (by first | rfl | exact row_ns (by simp) | exact congrArg (fun x => some (AO.blk (.stringIter _ x))) (by omega)) (And.intro (by first | rfl | exact row_ns (by simp) | exact congrArg (fun x => some (AO.blk (.stringIter _ x))) (by omega)) (trivial))))
  rintro κ _ ⟨u, v, hg, hu, hv, rfl, rfl⟩
  have hu2 : (digs (((u : Nat) : Int)).natAbs).length ≤ 800000000 := hu
  have hv2 : (digs (((v : Nat) : Int)).natAbs).length ≤ 800000000 := hv
  refine awp_seq fun K3 hK3 => ?_
  refine awp_seq fun K4 hK4 => ?_
  refine awp_region rfl ?_
  refine o_loadA [(bp (((v : Nat) : Int) < 0)), (AV.sl 1 (ns .u32 (digs (((v : Nat) : Int)).natAbs)))] Gd.none Ws_tA89 rfl rfl rfl rfl rfl ?_
  refine o_call [(AV.agg [(bp (((v : Nat) : Int) < 0)), (AV.sl 1 (ns .u32 (digs (((v : Nat) : Int)).natAbs)))])] (AV.lit (.int .i64 (sgn (((v : Nat) : Int))))) Gd.none Ws_tC94 rfl (c_wSign (((v : Nat) : Int))) ?_
  refine o_gtr (a := (sgn (((v : Nat) : Int)))) (c := (((0 : Nat) : Int))) Gd.none rfl rfl ?_
  refine aops_end ?_
  refine hK4 _ ?_
  refine awp_condQ (q := (((0 : Nat) : Int)) < (sgn (((v : Nat) : Int)))) rfl (fun h1 => ?_) (fun h1 => ?_)
  · have hvp := sgn_pos.1 h1
    have hv0 : 0 < v := by omega
    refine awp_skip ?_
    refine hK3 _ ?_
    refine awp_block ?_
    refine awp_seq fun K5 hK5 => ?_
    refine awp_region rfl ?_
    refine o_loadA [(bp (((u : Nat) : Int) < 0)), (AV.sl 1 (ns .u32 (digs (((u : Nat) : Int)).natAbs)))] Gd.none Ws_tA89 rfl rfl rfl rfl rfl ?_
    refine o_loadA [(bp (((v : Nat) : Int) < 0)), (AV.sl 1 (ns .u32 (digs (((v : Nat) : Int)).natAbs)))] Gd.none Ws_tA89 rfl rfl rfl rfl rfl ?_
    refine o_call [(AV.agg [(bp (((u : Nat) : Int) < 0)), (AV.sl 1 (ns .u32 (digs (((u : Nat) : Int)).natAbs)))]), (AV.agg [(bp (((v : Nat) : Int) < 0)), (AV.sl 1 (ns .u32 (digs (((v : Nat) : Int)).natAbs)))])] (AV.tup [(intW ((((u : Nat) : Int) / ((v : Nat) : Int)))), (intW ((((u : Nat) : Int) % ((v : Nat) : Int))))]) Gd.none Ws_tC95 rfl (c_wDivide (((u : Nat) : Int)) (((v : Nat) : Int)) (by omega) (by omega) (by omega)) ?_
    refine o_move (AV.tup [(intW ((((u : Nat) : Int) / ((v : Nat) : Int)))), (intW ((((u : Nat) : Int) % ((v : Nat) : Int))))]) Gd.none rfl ?_
    refine o_extract (intW ((((u : Nat) : Int) / ((v : Nat) : Int)))) Gd.none rfl rfl ?_
    refine o_extract (intW ((((u : Nat) : Int) % ((v : Nat) : Int)))) Gd.none rfl rfl ?_
    refine n_as (v' := (intW (((u % v : Nat) : Int)))) (by exact congrArg intW (Int.natCast_emod u v).symm) ?_
    refine o_alloc 101 [(AV.lit (.bool false)), (AV.lit (.slice none 0 0))] Gd.none Ws_tO89 rfl rfl rfl ?_
    refine o_alloc 102 [(AV.lit (.bool false)), (AV.lit (.slice none 0 0))] Gd.none Ws_tO89 rfl rfl rfl ?_
    refine o_store [(102, (AO.var 89 [(AV.lit (.bool false)), (AV.lit (.slice none 0 0))])), (101, (AO.var 89 [(bp ((((u : Nat) : Int) / ((v : Nat) : Int)) < 0)), (AV.sl 1 (ns .u32 (digs ((((u : Nat) : Int) / ((v : Nat) : Int))).natAbs)))])), (2, (AO.var 89 [(bp (((u : Nat) : Int) < 0)), (AV.sl 1 (ns .u32 (digs (((u : Nat) : Int)).natAbs)))])), (3, (AO.var 89 [(bp (((v : Nat) : Int) < 0)), (AV.sl 1 (ns .u32 (digs (((v : Nat) : Int)).natAbs)))])), (4, (AO.var 89 [(AV.lit (.bool false)), (AV.lit (.slice none 0 0))]))] Gd.none Ws_tZ89 rfl rfl rfl rfl rfl rfl ?_
    refine o_store [(102, (AO.var 89 [(bp (((u % v : Nat) : Int) < 0)), (AV.sl 1 (ns .u32 (digs (((u % v : Nat) : Int)).natAbs)))])), (101, (AO.var 89 [(bp ((((u : Nat) : Int) / ((v : Nat) : Int)) < 0)), (AV.sl 1 (ns .u32 (digs ((((u : Nat) : Int) / ((v : Nat) : Int))).natAbs)))])), (2, (AO.var 89 [(bp (((u : Nat) : Int) < 0)), (AV.sl 1 (ns .u32 (digs (((u : Nat) : Int)).natAbs)))])), (3, (AO.var 89 [(bp (((v : Nat) : Int) < 0)), (AV.sl 1 (ns .u32 (digs (((v : Nat) : Int)).natAbs)))])), (4, (AO.var 89 [(AV.lit (.bool false)), (AV.lit (.slice none 0 0))]))] Gd.none Ws_tZ89 rfl rfl rfl rfl rfl rfl ?_
    refine aops_end ?_
    refine hK5 _ ?_
    refine awp_regionD rfl ?_
    refine o_loadA [(bp (((v : Nat) : Int) < 0)), (AV.sl 1 (ns .u32 (digs (((v : Nat) : Int)).natAbs)))] Gd.none Ws_tA89 rfl rfl rfl rfl rfl ?_
    refine o_loadA [(bp (((u % v : Nat) : Int) < 0)), (AV.sl 1 (ns .u32 (digs (((u % v : Nat) : Int)).natAbs)))] Gd.none Ws_tA89 rfl rfl rfl rfl rfl ?_
    refine o_store [(102, (AO.var 89 [(bp (((u % v : Nat) : Int) < 0)), (AV.sl 1 (ns .u32 (digs (((u % v : Nat) : Int)).natAbs)))])), (101, (AO.var 89 [(bp ((((u : Nat) : Int) / ((v : Nat) : Int)) < 0)), (AV.sl 1 (ns .u32 (digs ((((u : Nat) : Int) / ((v : Nat) : Int))).natAbs)))])), (2, (AO.var 89 [(bp (((v : Nat) : Int) < 0)), (AV.sl 1 (ns .u32 (digs (((v : Nat) : Int)).natAbs)))])), (3, (AO.var 89 [(bp (((v : Nat) : Int) < 0)), (AV.sl 1 (ns .u32 (digs (((v : Nat) : Int)).natAbs)))])), (4, (AO.var 89 [(AV.lit (.bool false)), (AV.lit (.slice none 0 0))]))] Gd.none Ws_tZ89 rfl rfl rfl rfl rfl rfl ?_
    refine o_store [(102, (AO.var 89 [(bp (((u % v : Nat) : Int) < 0)), (AV.sl 1 (ns .u32 (digs (((u % v : Nat) : Int)).natAbs)))])), (101, (AO.var 89 [(bp ((((u : Nat) : Int) / ((v : Nat) : Int)) < 0)), (AV.sl 1 (ns .u32 (digs ((((u : Nat) : Int) / ((v : Nat) : Int))).natAbs)))])), (2, (AO.var 89 [(bp (((v : Nat) : Int) < 0)), (AV.sl 1 (ns .u32 (digs (((v : Nat) : Int)).natAbs)))])), (3, (AO.var 89 [(bp (((u % v : Nat) : Int) < 0)), (AV.sl 1 (ns .u32 (digs (((u % v : Nat) : Int)).natAbs)))])), (4, (AO.var 89 [(AV.lit (.bool false)), (AV.lit (.slice none 0 0))]))] Gd.none Ws_tZ89 rfl rfl rfl rfl rfl rfl ?_
    refine aops_end ⟨by kernel_rfl, ?_⟩
    refine ⟨_, _, ?lt, ⟨v, u % v, (gcd_next hg), hv, (Nat.le_trans (digs_len_mod u hv0) hv), rfl, rfl⟩, ?wk⟩
    case lt => exact Nat.mod_lt u hv0
    case wk => exact Wk.sub (And.intro (by exact rfl) (And.intro (by exact rfl) (And.intro (by exact rfl) (trivial)))) (And.intro (by first | rfl | exact row_ns (by simp) | exact congrArg (fun x => some (AO.blk (.stringIter _ x))) (by omega)) (And.intro (by first | rfl | exact row_ns (by simp) | exact congrArg (fun x => some (AO.blk (.stringIter _ x))) (by omega)) (And.intro (by first | rfl | exact row_ns (by simp) | exact congrArg (fun x => some (AO.blk (.stringIter _ x))) (by omega)) (trivial))))
  · have hvz : v = 0 := (Nat.eq_zero_or_pos v).elim id (fun e => absurd (sgn_pos.2 (show (0 : Int) < ((v : Nat) : Int) by omega)) h1)
    refine awp_exit ?_
    refine hK2 _ ?_
    refine awp_seq fun K6 hK6 => ?_
    refine awp_region rfl ?_
    refine o_loadA [(bp (((u : Nat) : Int) < 0)), (AV.sl 1 (ns .u32 (digs (((u : Nat) : Int)).natAbs)))] Gd.none Ws_tA89 rfl rfl rfl rfl rfl ?_
    refine o_store [(2, (AO.var 89 [(bp (((u : Nat) : Int) < 0)), (AV.sl 1 (ns .u32 (digs (((u : Nat) : Int)).natAbs)))])), (3, (AO.var 89 [(bp (((v : Nat) : Int) < 0)), (AV.sl 1 (ns .u32 (digs (((v : Nat) : Int)).natAbs)))])), (4, (AO.var 89 [(bp (((u : Nat) : Int) < 0)), (AV.sl 1 (ns .u32 (digs (((u : Nat) : Int)).natAbs)))]))] Gd.none Ws_tZ89 rfl rfl rfl rfl rfl rfl ?_
    refine aops_end ?_
    refine hK6 _ ?_
    refine awp_ret ?_
    refine post_ret ⟨[(AV.agg [(bp (((u : Nat) : Int) < 0)), (AV.sl 1 (ns .u32 (digs (((u : Nat) : Int)).natAbs)))])], And.intro ⟨4, (AO.var 89 [(bp (((u : Nat) : Int) < 0)), (AV.sl 1 (ns .u32 (digs (((u : Nat) : Int)).natAbs)))]), rfl, rfl, rfl, Or.inl ⟨Ws_tA89, AV.le_refl _⟩⟩ (trivial), rfl, ?_⟩
    exact congrArg intW (congrArg Int.ofNat (gcd_end hg hvz))

theorem c_wPower (x : Int) (n : Nat) (hn : n ≤ 10000) (hx : (digs x.natAbs).length ≤ 1000) : ECalls cx 89 [(intW (x)), (nm .i64 (n))] (intW (x ^ n)) := by
  refine ecalls_of_awp Tryd.func89 (c := _) rfl (Nat.le_of_ble_eq_true rfl) ?_
  show awp cx 21 _ (postF cx Tryd.f89 _) ⟨[(0, (intW (x))), (1, (nm .i64 (n)))], []⟩
  refine awp_seq fun K0 hK0 => ?_
  refine awp_region rfl ?_
  refine o_box 2 [(bp (x < 0)), (AV.sl 1 (ns .u32 (digs (x).natAbs)))] Gd.none rfl rfl ?_
  refine o_alloc 3 [(AV.lit (.bool false)), (AV.lit (.slice none 0 0))] Gd.none Ws_tO89 rfl rfl rfl ?_
  refine aops_end ?_
  refine hK0 _ ?_
  refine awp_seq fun K1 hK1 => ?_
  refine awp_region rfl ?_
  refine o_call [(nm .i64 (1))] (intW ((1 : Int))) Gd.none Ws_tC105 rfl (c_wOf ((1 : Int)) (by first | decide | omega) (by first | decide | omega)) ?_
  refine o_alloc 4 [(AV.lit (.bool false)), (AV.lit (.slice none 0 0))] Gd.none Ws_tO89 rfl rfl rfl ?_
  refine o_store [(4, (AO.var 89 [(bp ((1 : Int) < 0)), (AV.sl 1 (ns .u32 (digs ((1 : Int)).natAbs)))])), (3, (AO.var 89 [(AV.lit (.bool false)), (AV.lit (.slice none 0 0))])), (2, (AO.var 89 [(bp (x < 0)), (AV.sl 1 (ns .u32 (digs (x).natAbs)))]))] Gd.none Ws_tZ89 rfl rfl rfl rfl rfl rfl ?_
  refine aops_end ?_
  refine hK1 _ ?_
  refine awp_seq fun K2 hK2 => ?_
  refine awp_block ?_
  refine awp_loopR (fun κ σ => ∃ (e : Nat), ∃ (f : Nat), ∃ (k : Nat), (f + e * k = n) ∧ (e ≤ 20000) ∧ (k ≤ 10000) ∧ (k) = κ ∧ σ = ⟨[(1, (nm .i64 (k))), (2, (AV.ref 2 (0))), (4, (AV.ref 3 (0))), (5, (AV.ref 4 (0)))], [(2, (AO.var 89 [(bp ((x ^ (e)) < 0)), (AV.sl 1 (ns .u32 (digs ((x ^ (e))).natAbs)))])), (3, (AO.var 89 [(AV.lit (.bool false)), (AV.lit (.slice none 0 0))])), (4, (AO.var 89 [(bp ((x ^ (f)) < 0)), (AV.sl 1 (ns .u32 (digs ((x ^ (f))).natAbs)))]))]⟩) ⟨_, _, ⟨1, 0, n, (by omega), (by omega), hn, rfl, rfl⟩, ?wk0⟩ ?rd0
  case wk0 =>
    exact Wk.sub (And.intro (by first | rfl | exact congrArg (nm _) (by omega) | exact nm_int (by omega) | exact nm_int (by simp [IntKind.wrap, IntKind.bits, IntKind.signed]; omega)) (And.intro (by exact rfl) (And.intro (by exact rfl) (And.intro (by exact rfl) (trivial))))) (And.intro (by first | rfl | exact row_ns (by simp) | exact congrArg (fun x => some (AO.blk (.stringIter _ x))) (by omega) | (first | exact pow1_obj x _ | exact pow0_obj x _)) (And.intro (by first | rfl | exact row_ns (by simp) | exact congrArg (fun x => some (AO.blk (.stringIter _ x))) (by omega) | (first | exact pow1_obj x _ | exact pow0_obj x _)) (And.intro (by first | rfl | exact row_ns (by simp) | exact congrArg (fun x => some (AO.blk (.stringIter _ x))) (by omega) | (first | exact pow1_obj x _ | exact pow0_obj x _)) (trivial))))
  rintro κ _ ⟨e, f, k, hk, he, hkn, rfl, rfl⟩
  have hel := len_powB (x := x) he hx
  have hfl := len_powB (x := x) (e := f) (by omega) hx
  refine awp_seq fun K3 hK3 => ?_
  refine awp_seq fun K4 hK4 => ?_
  refine awp_region rfl ?_
  refine o_move (nm .i64 (k)) Gd.none rfl ?_
  refine n_gtr (k) (0) Gd.none rfl rfl ?_
  refine aops_end ?_
  refine hK4 _ ?_
  refine awp_condQ (q := (0) < (k)) rfl (fun h1 => ?_) (fun h1 => ?_)
  · have hpl := pow_le hk (by omega)
    refine awp_skip ?_
    refine hK3 _ ?_
    refine awp_seq fun K5 hK5 => ?_
    refine awp_block ?_
    refine awp_seq fun K6 hK6 => ?_
    refine awp_seq fun K7 hK7 => ?_
    refine awp_region rfl ?_
    refine o_move (nm .i64 (k)) Gd.none rfl ?_
    refine n_rem (k) (2) Gd.none rfl rfl (by omega) ?_
    refine n_eql ((k) % (2)) (1) Gd.none rfl rfl ?_
    refine aops_end ?_
    refine hK7 _ ?_
    refine awp_condQ (q := ((k) % (2)) = (1)) rfl (fun h2 => ?_) (fun h2 => ?_)
    · refine awp_region rfl ?_
      refine o_loadA [(bp ((x ^ (f)) < 0)), (AV.sl 1 (ns .u32 (digs ((x ^ (f))).natAbs)))] Gd.none Ws_tA89 rfl rfl rfl rfl rfl ?_
      refine o_loadA [(bp ((x ^ (e)) < 0)), (AV.sl 1 (ns .u32 (digs ((x ^ (e))).natAbs)))] Gd.none Ws_tA89 rfl rfl rfl rfl rfl ?_
      refine o_call [(AV.agg [(bp ((x ^ (f)) < 0)), (AV.sl 1 (ns .u32 (digs ((x ^ (f))).natAbs)))]), (AV.agg [(bp ((x ^ (e)) < 0)), (AV.sl 1 (ns .u32 (digs ((x ^ (e))).natAbs)))])] (intW (((x ^ (f)) * (x ^ (e))))) Gd.none Ws_tC91 rfl (c_wMul ((x ^ (f))) ((x ^ (e))) (by first | assumption | omega | (simp only [Int.natAbs_neg]; omega)) (by first | assumption | omega | (simp only [Int.natAbs_neg]; omega))) ?_
      refine n_as (v' := (intW ((x ^ (f + e))))) (by exact congrArg intW (Int.pow_add x f e).symm) ?_
      refine o_store [(2, (AO.var 89 [(bp ((x ^ (e)) < 0)), (AV.sl 1 (ns .u32 (digs ((x ^ (e))).natAbs)))])), (3, (AO.var 89 [(AV.lit (.bool false)), (AV.lit (.slice none 0 0))])), (4, (AO.var 89 [(bp ((x ^ (f + e)) < 0)), (AV.sl 1 (ns .u32 (digs ((x ^ (f + e))).natAbs)))]))] Gd.none Ws_tZ89 rfl rfl rfl rfl rfl rfl ?_
      refine aops_end ?_
      refine hK6 _ ?_
      refine awp_region rfl ?_
      refine o_loadA [(bp ((x ^ (e)) < 0)), (AV.sl 1 (ns .u32 (digs ((x ^ (e))).natAbs)))] Gd.none Ws_tA89 rfl rfl rfl rfl rfl ?_
      refine o_loadA [(bp ((x ^ (e)) < 0)), (AV.sl 1 (ns .u32 (digs ((x ^ (e))).natAbs)))] Gd.none Ws_tA89 rfl rfl rfl rfl rfl ?_
      refine o_call [(AV.agg [(bp ((x ^ (e)) < 0)), (AV.sl 1 (ns .u32 (digs ((x ^ (e))).natAbs)))]), (AV.agg [(bp ((x ^ (e)) < 0)), (AV.sl 1 (ns .u32 (digs ((x ^ (e))).natAbs)))])] (intW (((x ^ (e)) * (x ^ (e))))) Gd.none Ws_tC91 rfl (c_wMul ((x ^ (e))) ((x ^ (e))) (by first | assumption | omega | (simp only [Int.natAbs_neg]; omega)) (by first | assumption | omega | (simp only [Int.natAbs_neg]; omega))) ?_
      refine n_as (v' := (intW ((x ^ (e + e))))) (by exact congrArg intW (Int.pow_add x e e).symm) ?_
      refine o_store [(2, (AO.var 89 [(bp ((x ^ (e + e)) < 0)), (AV.sl 1 (ns .u32 (digs ((x ^ (e + e))).natAbs)))])), (3, (AO.var 89 [(AV.lit (.bool false)), (AV.lit (.slice none 0 0))])), (4, (AO.var 89 [(bp ((x ^ (f + e)) < 0)), (AV.sl 1 (ns .u32 (digs ((x ^ (f + e))).natAbs)))]))] Gd.none Ws_tZ89 rfl rfl rfl rfl rfl rfl ?_
      refine aops_end ?_
      refine hK5 _ ?_
      refine awp_region rfl ?_
      refine o_move (nm .i64 (k)) Gd.none rfl ?_
      refine n_quo (k) (2) Gd.none rfl rfl (by omega) (by simp only [topOf]; omega) ?_
      refine o_assign (nm .i64 ((k) / (2))) Gd.none rfl ?_
      refine aops_end ?_
      refine ⟨_, _, ?lt, ⟨e + e, f + e, k / 2, (pow_odd hk (by omega)), (by omega), (by omega), rfl, rfl⟩, ?wk⟩
      case lt => omega
      case wk => exact Wk.sub (And.intro (by first | rfl | exact congrArg (nm _) (by omega) | exact nm_int (by omega) | exact nm_int (by simp [IntKind.wrap, IntKind.bits, IntKind.signed]; omega)) (And.intro (by exact rfl) (And.intro (by exact rfl) (And.intro (by exact rfl) (trivial))))) (And.intro (by first | rfl | exact row_ns (by simp) | exact congrArg (fun x => some (AO.blk (.stringIter _ x))) (by omega) | (first | exact pow1_obj x _ | exact pow0_obj x _)) (And.intro (by first | rfl | exact row_ns (by simp) | exact congrArg (fun x => some (AO.blk (.stringIter _ x))) (by omega) | (first | exact pow1_obj x _ | exact pow0_obj x _)) (And.intro (by first | rfl | exact row_ns (by simp) | exact congrArg (fun x => some (AO.blk (.stringIter _ x))) (by omega) | (first | exact pow1_obj x _ | exact pow0_obj x _)) (trivial))))
    · refine awp_skip ?_
      refine hK6 _ ?_
      refine awp_region rfl ?_
      refine o_loadA [(bp ((x ^ (e)) < 0)), (AV.sl 1 (ns .u32 (digs ((x ^ (e))).natAbs)))] Gd.none Ws_tA89 rfl rfl rfl rfl rfl ?_
      refine o_loadA [(bp ((x ^ (e)) < 0)), (AV.sl 1 (ns .u32 (digs ((x ^ (e))).natAbs)))] Gd.none Ws_tA89 rfl rfl rfl rfl rfl ?_
      refine o_call [(AV.agg [(bp ((x ^ (e)) < 0)), (AV.sl 1 (ns .u32 (digs ((x ^ (e))).natAbs)))]), (AV.agg [(bp ((x ^ (e)) < 0)), (AV.sl 1 (ns .u32 (digs ((x ^ (e))).natAbs)))])] (intW (((x ^ (e)) * (x ^ (e))))) Gd.none Ws_tC91 rfl (c_wMul ((x ^ (e))) ((x ^ (e))) (by first | assumption | omega | (simp only [Int.natAbs_neg]; omega)) (by first | assumption | omega | (simp only [Int.natAbs_neg]; omega))) ?_
      refine n_as (v' := (intW ((x ^ (e + e))))) (by exact congrArg intW (Int.pow_add x e e).symm) ?_
      refine o_store [(2, (AO.var 89 [(bp ((x ^ (e + e)) < 0)), (AV.sl 1 (ns .u32 (digs ((x ^ (e + e))).natAbs)))])), (3, (AO.var 89 [(AV.lit (.bool false)), (AV.lit (.slice none 0 0))])), (4, (AO.var 89 [(bp ((x ^ (f)) < 0)), (AV.sl 1 (ns .u32 (digs ((x ^ (f))).natAbs)))]))] Gd.none Ws_tZ89 rfl rfl rfl rfl rfl rfl ?_
      refine aops_end ?_
      refine hK5 _ ?_
      refine awp_region rfl ?_
      refine o_move (nm .i64 (k)) Gd.none rfl ?_
      refine n_quo (k) (2) Gd.none rfl rfl (by omega) (by simp only [topOf]; omega) ?_
      refine o_assign (nm .i64 ((k) / (2))) Gd.none rfl ?_
      refine aops_end ?_
      refine ⟨_, _, ?lt, ⟨e + e, f, k / 2, (pow_even hk (by omega)), (by omega), (by omega), rfl, rfl⟩, ?wk⟩
      case lt => omega
      case wk => exact Wk.sub (And.intro (by first | rfl | exact congrArg (nm _) (by omega) | exact nm_int (by omega) | exact nm_int (by simp [IntKind.wrap, IntKind.bits, IntKind.signed]; omega)) (And.intro (by exact rfl) (And.intro (by exact rfl) (And.intro (by exact rfl) (trivial))))) (And.intro (by first | rfl | exact row_ns (by simp) | exact congrArg (fun x => some (AO.blk (.stringIter _ x))) (by omega) | (first | exact pow1_obj x _ | exact pow0_obj x _)) (And.intro (by first | rfl | exact row_ns (by simp) | exact congrArg (fun x => some (AO.blk (.stringIter _ x))) (by omega) | (first | exact pow1_obj x _ | exact pow0_obj x _)) (And.intro (by first | rfl | exact row_ns (by simp) | exact congrArg (fun x => some (AO.blk (.stringIter _ x))) (by omega) | (first | exact pow1_obj x _ | exact pow0_obj x _)) (trivial))))
  · refine awp_exit ?_
    refine hK2 _ ?_
    refine awp_seq fun K8 hK8 => ?_
    refine awp_region rfl ?_
    refine o_loadA [(bp ((x ^ (f)) < 0)), (AV.sl 1 (ns .u32 (digs ((x ^ (f))).natAbs)))] Gd.none Ws_tA89 rfl rfl rfl rfl rfl ?_
    refine o_store [(2, (AO.var 89 [(bp ((x ^ (e)) < 0)), (AV.sl 1 (ns .u32 (digs ((x ^ (e))).natAbs)))])), (3, (AO.var 89 [(bp ((x ^ (f)) < 0)), (AV.sl 1 (ns .u32 (digs ((x ^ (f))).natAbs)))])), (4, (AO.var 89 [(bp ((x ^ (f)) < 0)), (AV.sl 1 (ns .u32 (digs ((x ^ (f))).natAbs)))]))] Gd.none Ws_tZ89 rfl rfl rfl rfl rfl rfl ?_
    refine aops_end ?_
    refine hK8 _ ?_
    refine awp_ret ?_
    refine post_ret ⟨[(AV.agg [(bp ((x ^ (f)) < 0)), (AV.sl 1 (ns .u32 (digs ((x ^ (f))).natAbs)))])], And.intro ⟨3, (AO.var 89 [(bp ((x ^ (f)) < 0)), (AV.sl 1 (ns .u32 (digs ((x ^ (f))).natAbs)))]), rfl, rfl, rfl, Or.inl ⟨Ws_tA89, AV.le_refl _⟩⟩ (trivial), rfl, ?_⟩
    exact congrArg intW (pow_fin hk (by omega))

end Go.Proofs.YtkngglpnejdicaaDoor
