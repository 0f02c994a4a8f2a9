/- The law 'katabasislaw10.FractionRuns' is true for every machine, configuration and number: Run returns the documented configuration and number, or the documented errors. Its condition: none but the row's own (the listed tables of the library). -/
import Derived.Test.YtnejjdcbbminaaaGreatDoorPkFractionRunsd
set_option linter.unusedVariables false
set_option linter.unusedSimpArgs false
namespace Go.Proofs.YtnejjdcbbminaaaGreatDoor
open Go Go.Ab Go.Mth
theorem Yp_tO65 : tyZero cx.P 65 = some [(Go.Value.int IntKind.i64 0), (Go.Value.slice none 0 0)] := by kernel_rfl
theorem Yp_tF65_0 : tyField cx.P 65 0 = some (0, 3) := by kernel_rfl
theorem Yp_tS3 : tySc cx.P 3 = true := by kernel_rfl
theorem Yp_tF24_1 : tyField cx.P 24 1 = some (1, 22) := by kernel_rfl
theorem Yp_tS22 : tySc cx.P 22 = true := by kernel_rfl
theorem Yp_tU22 : cx.P.underlying 22 = some (.slice 88) := by kernel_rfl
theorem Yp_tP65 : tyPlaces cx.P 65 = some (fun i => (#[(0, 1), (1, 1)] : Array (Nat × Nat))[i]?) := by kernel_rfl
theorem Yp_tZ65 : tySize cx.P 65 = some 2 := by kernel_rfl
theorem Yp_tA65 : tyAgg cx.P 65 = some 2 := by kernel_rfl
theorem Yp_tE22 : tyElem cx.P 22 = some (88, 4, 32) := by kernel_rfl
theorem Yp_tA88 : tyAgg cx.P 88 = some 4 := by kernel_rfl
theorem Yp_tO88 : tyZero cx.P 88 = some [(Go.Value.int IntKind.i64 0), (Go.Value.int IntKind.i64 0), (Go.Value.int IntKind.i64 0), (Go.Value.int IntKind.i64 0)] := by kernel_rfl
theorem Yp_tZ88 : tySize cx.P 88 = some 4 := by kernel_rfl
theorem Yp_tF88_2 : tyField cx.P 88 2 = some (2, 3) := by kernel_rfl
theorem Yp_tE37 : tyElem cx.P 37 = some (3, 1, 8) := by kernel_rfl
theorem Yp_tO3 : tyZero cx.P 3 = some [(Go.Value.int IntKind.i64 0)] := by kernel_rfl
theorem Yp_tF65_1 : tyField cx.P 65 1 = some (1, 37) := by kernel_rfl
theorem Yp_tS37 : tySc cx.P 37 = true := by kernel_rfl
theorem Yp_tF88_0 : tyField cx.P 88 0 = some (0, 3) := by kernel_rfl
theorem Yp_tF88_1 : tyField cx.P 88 1 = some (1, 3) := by kernel_rfl
theorem Yp_tZ3 : tySize cx.P 3 = some 1 := by kernel_rfl
theorem Yp_tF88_3 : tyField cx.P 88 3 = some (3, 3) := by kernel_rfl
theorem Yp_tA24 : tyAgg cx.P 24 = some 2 := by kernel_rfl
theorem Yp_tC44 : callable cx.P 44 = true := by kernel_rfl
theorem c_vStep (m : Mac) (c : Cfg) (hC : okCfg m c) : ECalls cx 44 [(macV m), (cfgV c)] (.tup [cfgV (resC m c), nm .i64 (stpE m c)]) := by
  refine ecalls_of_awp Tryz.func44 (c := _) rfl (Nat.le_of_ble_eq_true rfl) ?_
  show awp cx 68 _ (postF cx Tryz.f44 _) ⟨[(0, (macV m)), (1, (cfgV c))], []⟩
  have hC2 := hC
  obtain ⟨⟨o1, o2, o3, o4, o5⟩, q1, q2, q3⟩ := hC2
  unfold plc at q1
  refine awp_seq fun K0 hK0 => ?_
  refine awp_region rfl ?_
  refine o_box 2 [(AV.lit (.int .i64 (m.regs))), (AV.sl 4 (gcells cI (m.code)))] Gd.none rfl rfl ?_
  refine o_box 3 [(AV.lit (.int .i64 (c.at'))), (AV.sl 1 (is .i64 (c.regs)))] Gd.none rfl rfl ?_
  refine o_alloc 4 [(nm .i64 (0)), (AV.lit (.slice none 0 0))] Gd.none Yp_tO65 rfl rfl rfl ?_
  refine o_as (nm .i64 (0)) rfl ?_
  refine aops_end ?_
  refine hK0 _ ?_
  refine awp_seq fun K1 hK1 => ?_
  refine awp_seq fun K2 hK2 => ?_
  refine awp_region rfl ?_
  refine o_fieldRef 0 Gd.none Yp_tF65_0 rfl rfl ?_
  refine o_loadS (AV.lit (.int .i64 (c.at'))) Gd.none Yp_tS3 rfl rfl rfl ?_
  refine o_fieldRef 1 Gd.none Yp_tF24_1 rfl rfl ?_
  refine o_loadS (AV.sl 4 (gcells cI (m.code))) Gd.none Yp_tS22 rfl rfl rfl ?_
  refine g_len cI (m.code) cI_len Gd.none Yp_tU22 rfl ?_
  refine o_eql (a := (c.at')) (c := ((((m.code).length : Nat) : Int))) Gd.none rfl rfl ?_
  refine aops_end ?_
  refine hK2 _ ?_
  refine awp_condQ (q := (c.at') = ((((m.code).length : Nat) : Int))) rfl (fun h1 => ?_) (fun h1 => ?_)
  · refine awp_seq fun K3 hK3 => ?_
    refine awp_region rfl ?_
    refine o_build [(nm .i64 (0)), (AV.lit (.slice none 0 0))] [] Gd.none Yp_tP65 Yp_tO65 rfl rfl rfl ?_
    refine o_store [(4, (AO.var 65 [(nm .i64 (0)), (AV.lit (.slice none 0 0))])), (3, (AO.var 65 [(AV.lit (.int .i64 (c.at'))), (AV.sl 1 (is .i64 (c.regs)))])), (2, (AO.var 24 [(AV.lit (.int .i64 (m.regs))), (AV.sl 4 (gcells cI (m.code)))]))] Gd.none Yp_tZ65 rfl rfl rfl rfl rfl rfl ?_
    refine o_as (nm .i64 (6)) rfl ?_
    refine aops_end ?_
    refine hK3 _ ?_
    refine awp_ret ?_
    refine post_ret ⟨[(AV.agg [(AV.lit (.int .i64 (0))), (AV.sl 1 (is .i64 ([])))]), (nm .i64 (6))], And.intro ⟨4, (AO.var 65 [(nm .i64 (0)), (AV.lit (.slice none 0 0))]), rfl, rfl, rfl, Or.inl ⟨Yp_tA65, AV.le_agg (LeL.cons (AV.le_refl _) (LeL.cons (AV.le_nil' (by decide) (by first | rfl | simp [digs_zero, ns, is])) (LeL.nil)))⟩⟩ (And.intro (AV.le_refl _) (trivial)), rfl, ?_⟩
    rw [resC_1 (by rw [stp_e h1]; decide), stp_e h1]; rfl
  · have ha := okC_at hC (by omega)
    obtain ⟨a1, a2, a3, a4, a5⟩ := ha
    have a6 : 0 ≤ (insAt m c).reg := a2.1.1
    have hl4 : c.regs.length ≤ 4 := by omega
    have z3 : ((m.code).getD (c.at'.toNat) default).reg.toNat < c.regs.length := a3
    have z4 : 0 ≤ (c.regs).getD (((m.code).getD (c.at'.toNat) default).reg.toNat) 0 := a4
    have z5 : (c.regs).getD (((m.code).getD (c.at'.toNat) default).reg.toNat) 0 ≤ 1000 := a5
    have z6 : 0 ≤ ((m.code).getD (c.at'.toNat) default).reg := a6
    refine awp_skip ?_
    refine hK1 _ ?_
    refine awp_seq fun K4 hK4 => ?_
    refine awp_region rfl ?_
    refine o_fieldRef 1 Gd.none Yp_tF24_1 rfl rfl ?_
    refine o_loadS (AV.sl 4 (gcells cI (m.code))) Gd.none Yp_tS22 rfl rfl rfl ?_
    refine o_fieldRef 0 Gd.none Yp_tF65_0 rfl rfl ?_
    refine o_loadS (AV.lit (.int .i64 (c.at'))) Gd.none Yp_tS3 rfl rfl rfl ?_
    refine n_as (v' := (nm .i64 (c.at'.toNat))) (nm_int (by omega)) ?_
    refine g_index cI (m.code) (c.at'.toNat) cI_len rfl Gd.none Yp_tE22 rfl rfl (by omega) ?_
    refine g_loadA cI (m.code) (c.at'.toNat) default cI_len Gd.none Yp_tA88 rfl (by omega) ?_
    refine o_alloc 5 [(nm .i64 (0)), (nm .i64 (0)), (nm .i64 (0)), (nm .i64 (0))] Gd.none Yp_tO88 rfl rfl rfl ?_
    refine o_store [(5, (AO.var 88 [(AV.lit (.int .i64 ((((m.code).getD (c.at'.toNat) default)).kind))), (AV.lit (.int .i64 ((((m.code).getD (c.at'.toNat) default)).reg))), (AV.lit (.int .i64 ((((m.code).getD (c.at'.toNat) default)).next))), (AV.lit (.int .i64 ((((m.code).getD (c.at'.toNat) default)).els)))])), (4, (AO.var 65 [(nm .i64 (0)), (AV.lit (.slice none 0 0))])), (3, (AO.var 65 [(AV.lit (.int .i64 (c.at'))), (AV.sl 1 (is .i64 (c.regs)))])), (2, (AO.var 24 [(AV.lit (.int .i64 (m.regs))), (AV.sl 4 (gcells cI (m.code)))]))] Gd.none Yp_tZ88 rfl rfl rfl rfl rfl rfl ?_
    refine aops_end ?_
    refine hK4 _ ?_
    refine awp_seq fun K5 hK5 => ?_
    refine awp_regionD rfl ?_
    refine o_fieldRef 2 Gd.none Yp_tF88_2 rfl rfl ?_
    refine o_loadS (AV.lit (.int .i64 ((((m.code).getD (c.at'.toNat) default)).next))) Gd.none Yp_tS3 rfl rfl rfl ?_
    refine o_buildSlice 6 (is .i64 ([])) [] Gd.none Yp_tE37 rfl Yp_tO3 rfl rfl rfl rfl rfl rfl rfl ?_
    refine o_fieldRef 1 Gd.none Yp_tF65_1 rfl rfl ?_
    refine o_loadS (AV.sl 1 (is .i64 (c.regs))) Gd.none Yp_tS37 rfl rfl rfl ?_
    refine i_appendSl 7 ([]) (c.regs) [(5, (AO.var 88 [(AV.lit (.int .i64 ((((m.code).getD (c.at'.toNat) default)).kind))), (AV.lit (.int .i64 ((((m.code).getD (c.at'.toNat) default)).reg))), (AV.lit (.int .i64 ((((m.code).getD (c.at'.toNat) default)).next))), (AV.lit (.int .i64 ((((m.code).getD (c.at'.toNat) default)).els)))])), (4, (AO.var 65 [(nm .i64 (0)), (AV.lit (.slice none 0 0))])), (3, (AO.var 65 [(AV.lit (.int .i64 (c.at'))), (AV.sl 1 (is .i64 (c.regs)))])), (2, (AO.var 24 [(AV.lit (.int .i64 (m.regs))), (AV.sl 4 (gcells cI (m.code)))]))] Gd.none Yp_tE37 Yp_tO3 rfl rfl rfl rfl (by simp only [List.length_append, List.length_cons, List.length_nil]; omega) (by decide) rfl rfl ?_
    refine o_build [(AV.lit (.int .i64 ((((m.code).getD (c.at'.toNat) default)).next))), (AV.row 7)] [(0, [(AV.lit (.int .i64 ((((m.code).getD (c.at'.toNat) default)).next)))]), (1, [(AV.row 7)])] Gd.none Yp_tP65 Yp_tO65 rfl rfl rfl ?_
    refine o_alloc 8 [(nm .i64 (0)), (AV.lit (.slice none 0 0))] Gd.none Yp_tO65 rfl rfl rfl ?_
    refine o_store [(8, (AO.var 65 [(AV.lit (.int .i64 ((((m.code).getD (c.at'.toNat) default)).next))), (AV.row 7)])), (7, (AO.row 3 1 (is .i64 (c.regs)))), (5, (AO.var 88 [(AV.lit (.int .i64 ((((m.code).getD (c.at'.toNat) default)).kind))), (AV.lit (.int .i64 ((((m.code).getD (c.at'.toNat) default)).reg))), (AV.lit (.int .i64 ((((m.code).getD (c.at'.toNat) default)).next))), (AV.lit (.int .i64 ((((m.code).getD (c.at'.toNat) default)).els)))])), (4, (AO.var 65 [(nm .i64 (0)), (AV.lit (.slice none 0 0))])), (3, (AO.var 65 [(AV.lit (.int .i64 (c.at'))), (AV.sl 1 (is .i64 (c.regs)))])), (2, (AO.var 24 [(AV.lit (.int .i64 (m.regs))), (AV.sl 4 (gcells cI (m.code)))]))] Gd.none Yp_tZ65 rfl rfl rfl rfl rfl rfl ?_
    refine aops_end ⟨by kernel_rfl, ?_⟩
    refine hK5 _ ?_
    refine awp_seq fun K6 hK6 => ?_
    refine awp_block ?_
    refine awp_seq fun K7 hK7 => ?_
    refine awp_region rfl ?_
    refine o_fieldRef 0 Gd.none Yp_tF88_0 rfl rfl ?_
    refine o_loadS (AV.lit (.int .i64 ((((m.code).getD (c.at'.toNat) default)).kind))) Gd.none Yp_tS3 rfl rfl rfl ?_
    refine o_eql (a := ((((m.code).getD (c.at'.toNat) default)).kind)) (c := (((0 : Nat) : Int))) Gd.none rfl rfl ?_
    refine o_as (bp (((((m.code).getD (c.at'.toNat) default)).kind) = (((0 : Nat) : Int)))) rfl ?_
    refine aops_end ?_
    refine hK7 _ ?_
    refine awp_condQ (q := ((((m.code).getD (c.at'.toNat) default)).kind) = (((0 : Nat) : Int))) rfl (fun h2 => ?_) (fun h2 => ?_)
    · refine awp_region rfl ?_
      refine o_fieldRef 1 Gd.none Yp_tF65_1 rfl rfl ?_
      refine o_loadS (AV.row 7) Gd.none Yp_tS37 rfl rfl rfl ?_
      refine o_fieldRef 1 Gd.none Yp_tF88_1 rfl rfl ?_
      refine o_loadS (AV.lit (.int .i64 ((((m.code).getD (c.at'.toNat) default)).reg))) Gd.none Yp_tS3 rfl rfl rfl ?_
      refine n_as (v' := (nm .i64 (((m.code).getD (c.at'.toNat) default).reg.toNat))) (nm_int (by omega)) ?_
      refine i_indexRow (c.regs) (((m.code).getD (c.at'.toNat) default).reg.toNat) Gd.none Yp_tE37 rfl rfl rfl (by omega) ?_
      refine i_loadRow (c.regs) (((m.code).getD (c.at'.toNat) default).reg.toNat) Gd.none Yp_tS3 rfl rfl (by omega) ?_
      refine o_add (a := ((c.regs).getD (((m.code).getD (c.at'.toNat) default).reg.toNat) 0)) (c := (((1 : Nat) : Int))) Gd.none rfl rfl (by exact wrap64 (by omega) (by omega)) ?_
      refine i_indexRow (c.regs) (((m.code).getD (c.at'.toNat) default).reg.toNat) Gd.none Yp_tE37 rfl rfl rfl (by omega) ?_
      refine i_storeRow (c.regs) (((m.code).getD (c.at'.toNat) default).reg.toNat) (((c.regs).getD (((m.code).getD (c.at'.toNat) default).reg.toNat) 0) + (((1 : Nat) : Int))) [(8, (AO.var 65 [(AV.lit (.int .i64 ((((m.code).getD (c.at'.toNat) default)).next))), (AV.row 7)])), (7, (AO.row 3 1 (is .i64 ((c.regs).set (((m.code).getD (c.at'.toNat) default).reg.toNat) (((c.regs).getD (((m.code).getD (c.at'.toNat) default).reg.toNat) 0) + (((1 : Nat) : Int))))))), (5, (AO.var 88 [(AV.lit (.int .i64 ((((m.code).getD (c.at'.toNat) default)).kind))), (AV.lit (.int .i64 ((((m.code).getD (c.at'.toNat) default)).reg))), (AV.lit (.int .i64 ((((m.code).getD (c.at'.toNat) default)).next))), (AV.lit (.int .i64 ((((m.code).getD (c.at'.toNat) default)).els)))])), (4, (AO.var 65 [(nm .i64 (0)), (AV.lit (.slice none 0 0))])), (3, (AO.var 65 [(AV.lit (.int .i64 (c.at'))), (AV.sl 1 (is .i64 (c.regs)))])), (2, (AO.var 24 [(AV.lit (.int .i64 (m.regs))), (AV.sl 4 (gcells cI (m.code)))]))] Gd.none Yp_tZ3 rfl rfl rfl (by omega) rfl ?_
      refine aops_end ?_
      refine hK6 _ ?_
      refine awp_seq fun K8 hK8 => ?_
      refine awp_seq fun K9 hK9 => ?_
      refine awp_region rfl ?_
      refine o_fieldRef 1 Gd.none Yp_tF65_1 rfl rfl ?_
      refine o_loadS (AV.row 7) Gd.none Yp_tS37 rfl rfl rfl ?_
      refine o_fieldRef 1 Gd.none Yp_tF88_1 rfl rfl ?_
      refine o_loadS (AV.lit (.int .i64 ((((m.code).getD (c.at'.toNat) default)).reg))) Gd.none Yp_tS3 rfl rfl rfl ?_
      refine n_as (v' := (nm .i64 (((m.code).getD (c.at'.toNat) default).reg.toNat))) (nm_int (by omega)) ?_
      refine i_indexRow ((c.regs).set (((m.code).getD (c.at'.toNat) default).reg.toNat) (((c.regs).getD (((m.code).getD (c.at'.toNat) default).reg.toNat) 0) + (((1 : Nat) : Int)))) (((m.code).getD (c.at'.toNat) default).reg.toNat) Gd.none Yp_tE37 rfl rfl rfl (by first | omega | (simp only [List.length_set]; omega)) ?_
      refine i_loadRow ((c.regs).set (((m.code).getD (c.at'.toNat) default).reg.toNat) (((c.regs).getD (((m.code).getD (c.at'.toNat) default).reg.toNat) 0) + (((1 : Nat) : Int)))) (((m.code).getD (c.at'.toNat) default).reg.toNat) Gd.none Yp_tS3 rfl rfl (by first | omega | (simp only [List.length_set]; omega)) ?_
      refine n_as (v' := (AV.lit (.int .i64 (((c.regs).getD (((m.code).getD (c.at'.toNat) default).reg.toNat) 0) + (((1 : Nat) : Int)))))) (by exact congrArg (fun q => AV.lit (.int .i64 q)) (getD_set (by omega))) ?_
      refine o_gtr (a := (((c.regs).getD (((m.code).getD (c.at'.toNat) default).reg.toNat) 0) + (((1 : Nat) : Int)))) (c := (((1000 : Nat) : Int))) Gd.none rfl rfl ?_
      refine aops_end ?_
      refine hK9 _ ?_
      refine awp_condQ (q := (((1000 : Nat) : Int)) < (((c.regs).getD (((m.code).getD (c.at'.toNat) default).reg.toNat) 0) + (((1 : Nat) : Int)))) rfl (fun h3 => ?_) (fun h3 => ?_)
      · refine awp_seq fun K10 hK10 => ?_
        refine awp_region rfl ?_
        refine o_build [(nm .i64 (0)), (AV.lit (.slice none 0 0))] [] Gd.none Yp_tP65 Yp_tO65 rfl rfl rfl ?_
        refine o_store [(8, (AO.var 65 [(AV.lit (.int .i64 ((((m.code).getD (c.at'.toNat) default)).next))), (AV.row 7)])), (7, (AO.row 3 1 (is .i64 ((c.regs).set (((m.code).getD (c.at'.toNat) default).reg.toNat) (((c.regs).getD (((m.code).getD (c.at'.toNat) default).reg.toNat) 0) + (((1 : Nat) : Int))))))), (5, (AO.var 88 [(AV.lit (.int .i64 ((((m.code).getD (c.at'.toNat) default)).kind))), (AV.lit (.int .i64 ((((m.code).getD (c.at'.toNat) default)).reg))), (AV.lit (.int .i64 ((((m.code).getD (c.at'.toNat) default)).next))), (AV.lit (.int .i64 ((((m.code).getD (c.at'.toNat) default)).els)))])), (4, (AO.var 65 [(nm .i64 (0)), (AV.lit (.slice none 0 0))])), (3, (AO.var 65 [(AV.lit (.int .i64 (c.at'))), (AV.sl 1 (is .i64 (c.regs)))])), (2, (AO.var 24 [(AV.lit (.int .i64 (m.regs))), (AV.sl 4 (gcells cI (m.code)))]))] Gd.none Yp_tZ65 rfl rfl rfl rfl rfl rfl ?_
        refine o_as (nm .i64 (3)) rfl ?_
        refine aops_end ?_
        refine hK10 _ ?_
        refine awp_ret ?_
        refine post_ret ⟨[(AV.agg [(AV.lit (.int .i64 (0))), (AV.sl 1 (is .i64 ([])))]), (nm .i64 (3))], And.intro ⟨4, (AO.var 65 [(nm .i64 (0)), (AV.lit (.slice none 0 0))]), rfl, rfl, rfl, Or.inl ⟨Yp_tA65, AV.le_agg (LeL.cons (AV.le_refl _) (LeL.cons (AV.le_nil' (by decide) (by first | rfl | simp [digs_zero, ns, is])) (LeL.nil)))⟩⟩ (And.intro (AV.le_refl _) (trivial)), rfl, ?_⟩
        have e := stp_d (m := m) (c := c) h1 h2 (show ((c.regs).getD (((m.code).getD (c.at'.toNat) default).reg.toNat) 0) = 1000 by omega); rw [resC_1 (by rw [e]; decide), e]; rfl
      · refine awp_skip ?_
        refine hK8 _ ?_
        refine awp_seq fun K11 hK11 => ?_
        refine awp_region rfl ?_
        refine o_loadA [(AV.lit (.int .i64 ((((m.code).getD (c.at'.toNat) default)).next))), (AV.row 7)] Gd.none Yp_tA65 rfl rfl rfl rfl rfl ?_
        refine o_store [(8, (AO.var 65 [(AV.lit (.int .i64 ((((m.code).getD (c.at'.toNat) default)).next))), (AV.row 7)])), (7, (AO.row 3 1 (is .i64 ((c.regs).set (((m.code).getD (c.at'.toNat) default).reg.toNat) (((c.regs).getD (((m.code).getD (c.at'.toNat) default).reg.toNat) 0) + (((1 : Nat) : Int))))))), (5, (AO.var 88 [(AV.lit (.int .i64 ((((m.code).getD (c.at'.toNat) default)).kind))), (AV.lit (.int .i64 ((((m.code).getD (c.at'.toNat) default)).reg))), (AV.lit (.int .i64 ((((m.code).getD (c.at'.toNat) default)).next))), (AV.lit (.int .i64 ((((m.code).getD (c.at'.toNat) default)).els)))])), (4, (AO.var 65 [(AV.lit (.int .i64 ((((m.code).getD (c.at'.toNat) default)).next))), (AV.row 7)])), (3, (AO.var 65 [(AV.lit (.int .i64 (c.at'))), (AV.sl 1 (is .i64 (c.regs)))])), (2, (AO.var 24 [(AV.lit (.int .i64 (m.regs))), (AV.sl 4 (gcells cI (m.code)))]))] Gd.none Yp_tZ65 rfl rfl rfl rfl rfl rfl ?_
        refine o_as (nm .i64 (0)) rfl ?_
        refine aops_end ?_
        refine hK11 _ ?_
        refine awp_wk (σ' := ⟨[(4, (AV.ref 4 (0))), (5, (nm .i64 (0)))], [(4, (AO.var 65 [(AV.lit (.int .i64 ((((m.code).getD (c.at'.toNat) default)).next))), (AV.row 7)])), (7, (AO.row 3 1 (is .i64 ((c.regs).set (((m.code).getD (c.at'.toNat) default).reg.toNat) (((c.regs).getD (((m.code).getD (c.at'.toNat) default).reg.toNat) 0) + (((1 : Nat) : Int)))))))]⟩) (Wk.sub (And.intro rfl (And.intro rfl (trivial))) (And.intro rfl (And.intro rfl (trivial)))) ?_
        refine awp_wk (σ' := ⟨[(4, (AV.ref 4 (0))), (5, (nm .i64 (0)))], [(4, (AO.var 65 [(AV.lit (.int .i64 ((((m.code).getD (c.at'.toNat) default)).next))), (AV.sl 1 (is .i64 ((c.regs).set (((m.code).getD (c.at'.toNat) default).reg.toNat) (((c.regs).getD (((m.code).getD (c.at'.toNat) default).reg.toNat) 0) + (((1 : Nat) : Int))))))]))]⟩) (Wk.freeze (id := 7) (e := 3) (sz := 1) (cs := (is .i64 ((c.regs).set (((m.code).getD (c.at'.toNat) default).reg.toNat) (((c.regs).getD (((m.code).getD (c.at'.toNat) default).reg.toNat) 0) + (((1 : Nat) : Int)))))) rfl) ?_
        refine awp_ret ?_
        refine post_ret ⟨[(AV.agg [(AV.lit (.int .i64 ((((m.code).getD (c.at'.toNat) default)).next))), (AV.sl 1 (is .i64 ((c.regs).set (((m.code).getD (c.at'.toNat) default).reg.toNat) (((c.regs).getD (((m.code).getD (c.at'.toNat) default).reg.toNat) 0) + (((1 : Nat) : Int))))))]), (nm .i64 (0))], And.intro ⟨4, (AO.var 65 [(AV.lit (.int .i64 ((((m.code).getD (c.at'.toNat) default)).next))), (AV.sl 1 (is .i64 ((c.regs).set (((m.code).getD (c.at'.toNat) default).reg.toNat) (((c.regs).getD (((m.code).getD (c.at'.toNat) default).reg.toNat) 0) + (((1 : Nat) : Int))))))]), rfl, rfl, rfl, Or.inl ⟨Yp_tA65, AV.le_refl _⟩⟩ (And.intro (AV.le_refl _) (trivial)), rfl, ?_⟩
        have e := stp_a (m := m) (c := c) h1 h2 (show ¬ ((c.regs).getD (((m.code).getD (c.at'.toNat) default).reg.toNat) 0) = 1000 by omega); rw [resC_0 e.1, e.1, e.2]; rfl
    · refine awp_seq fun K12 hK12 => ?_
      refine awp_region rfl ?_
      refine o_fieldRef 1 Gd.none Yp_tF65_1 rfl rfl ?_
      refine o_loadS (AV.row 7) Gd.none Yp_tS37 rfl rfl rfl ?_
      refine o_fieldRef 1 Gd.none Yp_tF88_1 rfl rfl ?_
      refine o_loadS (AV.lit (.int .i64 ((((m.code).getD (c.at'.toNat) default)).reg))) Gd.none Yp_tS3 rfl rfl rfl ?_
      refine n_as (v' := (nm .i64 (((m.code).getD (c.at'.toNat) default).reg.toNat))) (nm_int (by omega)) ?_
      refine i_indexRow (c.regs) (((m.code).getD (c.at'.toNat) default).reg.toNat) Gd.none Yp_tE37 rfl rfl rfl (by omega) ?_
      refine i_loadRow (c.regs) (((m.code).getD (c.at'.toNat) default).reg.toNat) Gd.none Yp_tS3 rfl rfl (by omega) ?_
      refine o_gtr (a := ((c.regs).getD (((m.code).getD (c.at'.toNat) default).reg.toNat) 0)) (c := (((0 : Nat) : Int))) Gd.none rfl rfl ?_
      refine o_as (bp ((((0 : Nat) : Int)) < ((c.regs).getD (((m.code).getD (c.at'.toNat) default).reg.toNat) 0))) rfl ?_
      refine aops_end ?_
      refine hK12 _ ?_
      refine awp_condQ (q := (((0 : Nat) : Int)) < ((c.regs).getD (((m.code).getD (c.at'.toNat) default).reg.toNat) 0)) rfl (fun h4 => ?_) (fun h4 => ?_)
      · refine awp_region rfl ?_
        refine o_fieldRef 1 Gd.none Yp_tF65_1 rfl rfl ?_
        refine o_loadS (AV.row 7) Gd.none Yp_tS37 rfl rfl rfl ?_
        refine o_fieldRef 1 Gd.none Yp_tF88_1 rfl rfl ?_
        refine o_loadS (AV.lit (.int .i64 ((((m.code).getD (c.at'.toNat) default)).reg))) Gd.none Yp_tS3 rfl rfl rfl ?_
        refine n_as (v' := (nm .i64 (((m.code).getD (c.at'.toNat) default).reg.toNat))) (nm_int (by omega)) ?_
        refine i_indexRow (c.regs) (((m.code).getD (c.at'.toNat) default).reg.toNat) Gd.none Yp_tE37 rfl rfl rfl (by omega) ?_
        refine i_loadRow (c.regs) (((m.code).getD (c.at'.toNat) default).reg.toNat) Gd.none Yp_tS3 rfl rfl (by omega) ?_
        refine o_sub (a := ((c.regs).getD (((m.code).getD (c.at'.toNat) default).reg.toNat) 0)) (c := (((1 : Nat) : Int))) Gd.none rfl rfl (by exact wrap64 (by omega) (by omega)) ?_
        refine i_indexRow (c.regs) (((m.code).getD (c.at'.toNat) default).reg.toNat) Gd.none Yp_tE37 rfl rfl rfl (by omega) ?_
        refine i_storeRow (c.regs) (((m.code).getD (c.at'.toNat) default).reg.toNat) (((c.regs).getD (((m.code).getD (c.at'.toNat) default).reg.toNat) 0) - (((1 : Nat) : Int))) [(8, (AO.var 65 [(AV.lit (.int .i64 ((((m.code).getD (c.at'.toNat) default)).next))), (AV.row 7)])), (7, (AO.row 3 1 (is .i64 ((c.regs).set (((m.code).getD (c.at'.toNat) default).reg.toNat) (((c.regs).getD (((m.code).getD (c.at'.toNat) default).reg.toNat) 0) - (((1 : Nat) : Int))))))), (5, (AO.var 88 [(AV.lit (.int .i64 ((((m.code).getD (c.at'.toNat) default)).kind))), (AV.lit (.int .i64 ((((m.code).getD (c.at'.toNat) default)).reg))), (AV.lit (.int .i64 ((((m.code).getD (c.at'.toNat) default)).next))), (AV.lit (.int .i64 ((((m.code).getD (c.at'.toNat) default)).els)))])), (4, (AO.var 65 [(nm .i64 (0)), (AV.lit (.slice none 0 0))])), (3, (AO.var 65 [(AV.lit (.int .i64 (c.at'))), (AV.sl 1 (is .i64 (c.regs)))])), (2, (AO.var 24 [(AV.lit (.int .i64 (m.regs))), (AV.sl 4 (gcells cI (m.code)))]))] Gd.none Yp_tZ3 rfl rfl rfl (by omega) rfl ?_
        refine aops_end ?_
        refine hK6 _ ?_
        refine awp_seq fun K13 hK13 => ?_
        refine awp_seq fun K14 hK14 => ?_
        refine awp_region rfl ?_
        refine o_fieldRef 1 Gd.none Yp_tF65_1 rfl rfl ?_
        refine o_loadS (AV.row 7) Gd.none Yp_tS37 rfl rfl rfl ?_
        refine o_fieldRef 1 Gd.none Yp_tF88_1 rfl rfl ?_
        refine o_loadS (AV.lit (.int .i64 ((((m.code).getD (c.at'.toNat) default)).reg))) Gd.none Yp_tS3 rfl rfl rfl ?_
        refine n_as (v' := (nm .i64 (((m.code).getD (c.at'.toNat) default).reg.toNat))) (nm_int (by omega)) ?_
        refine i_indexRow ((c.regs).set (((m.code).getD (c.at'.toNat) default).reg.toNat) (((c.regs).getD (((m.code).getD (c.at'.toNat) default).reg.toNat) 0) - (((1 : Nat) : Int)))) (((m.code).getD (c.at'.toNat) default).reg.toNat) Gd.none Yp_tE37 rfl rfl rfl (by first | omega | (simp only [List.length_set]; omega)) ?_
        refine i_loadRow ((c.regs).set (((m.code).getD (c.at'.toNat) default).reg.toNat) (((c.regs).getD (((m.code).getD (c.at'.toNat) default).reg.toNat) 0) - (((1 : Nat) : Int)))) (((m.code).getD (c.at'.toNat) default).reg.toNat) Gd.none Yp_tS3 rfl rfl (by first | omega | (simp only [List.length_set]; omega)) ?_
        refine n_as (v' := (AV.lit (.int .i64 (((c.regs).getD (((m.code).getD (c.at'.toNat) default).reg.toNat) 0) - (((1 : Nat) : Int)))))) (by exact congrArg (fun q => AV.lit (.int .i64 q)) (getD_set (by omega))) ?_
        refine o_gtr (a := (((c.regs).getD (((m.code).getD (c.at'.toNat) default).reg.toNat) 0) - (((1 : Nat) : Int)))) (c := (((1000 : Nat) : Int))) Gd.none rfl rfl ?_
        refine aops_end ?_
        refine hK14 _ ?_
        refine awp_condQ (q := (((1000 : Nat) : Int)) < (((c.regs).getD (((m.code).getD (c.at'.toNat) default).reg.toNat) 0) - (((1 : Nat) : Int)))) rfl (fun h5 => ?_) (fun h5 => ?_)
        · exact absurd h5 (by omega)
        · refine awp_skip ?_
          refine hK13 _ ?_
          refine awp_seq fun K15 hK15 => ?_
          refine awp_region rfl ?_
          refine o_loadA [(AV.lit (.int .i64 ((((m.code).getD (c.at'.toNat) default)).next))), (AV.row 7)] Gd.none Yp_tA65 rfl rfl rfl rfl rfl ?_
          refine o_store [(8, (AO.var 65 [(AV.lit (.int .i64 ((((m.code).getD (c.at'.toNat) default)).next))), (AV.row 7)])), (7, (AO.row 3 1 (is .i64 ((c.regs).set (((m.code).getD (c.at'.toNat) default).reg.toNat) (((c.regs).getD (((m.code).getD (c.at'.toNat) default).reg.toNat) 0) - (((1 : Nat) : Int))))))), (5, (AO.var 88 [(AV.lit (.int .i64 ((((m.code).getD (c.at'.toNat) default)).kind))), (AV.lit (.int .i64 ((((m.code).getD (c.at'.toNat) default)).reg))), (AV.lit (.int .i64 ((((m.code).getD (c.at'.toNat) default)).next))), (AV.lit (.int .i64 ((((m.code).getD (c.at'.toNat) default)).els)))])), (4, (AO.var 65 [(AV.lit (.int .i64 ((((m.code).getD (c.at'.toNat) default)).next))), (AV.row 7)])), (3, (AO.var 65 [(AV.lit (.int .i64 (c.at'))), (AV.sl 1 (is .i64 (c.regs)))])), (2, (AO.var 24 [(AV.lit (.int .i64 (m.regs))), (AV.sl 4 (gcells cI (m.code)))]))] Gd.none Yp_tZ65 rfl rfl rfl rfl rfl rfl ?_
          refine o_as (nm .i64 (0)) rfl ?_
          refine aops_end ?_
          refine hK15 _ ?_
          refine awp_wk (σ' := ⟨[(4, (AV.ref 4 (0))), (5, (nm .i64 (0)))], [(4, (AO.var 65 [(AV.lit (.int .i64 ((((m.code).getD (c.at'.toNat) default)).next))), (AV.row 7)])), (7, (AO.row 3 1 (is .i64 ((c.regs).set (((m.code).getD (c.at'.toNat) default).reg.toNat) (((c.regs).getD (((m.code).getD (c.at'.toNat) default).reg.toNat) 0) - (((1 : Nat) : Int)))))))]⟩) (Wk.sub (And.intro rfl (And.intro rfl (trivial))) (And.intro rfl (And.intro rfl (trivial)))) ?_
          refine awp_wk (σ' := ⟨[(4, (AV.ref 4 (0))), (5, (nm .i64 (0)))], [(4, (AO.var 65 [(AV.lit (.int .i64 ((((m.code).getD (c.at'.toNat) default)).next))), (AV.sl 1 (is .i64 ((c.regs).set (((m.code).getD (c.at'.toNat) default).reg.toNat) (((c.regs).getD (((m.code).getD (c.at'.toNat) default).reg.toNat) 0) - (((1 : Nat) : Int))))))]))]⟩) (Wk.freeze (id := 7) (e := 3) (sz := 1) (cs := (is .i64 ((c.regs).set (((m.code).getD (c.at'.toNat) default).reg.toNat) (((c.regs).getD (((m.code).getD (c.at'.toNat) default).reg.toNat) 0) - (((1 : Nat) : Int)))))) rfl) ?_
          refine awp_ret ?_
          refine post_ret ⟨[(AV.agg [(AV.lit (.int .i64 ((((m.code).getD (c.at'.toNat) default)).next))), (AV.sl 1 (is .i64 ((c.regs).set (((m.code).getD (c.at'.toNat) default).reg.toNat) (((c.regs).getD (((m.code).getD (c.at'.toNat) default).reg.toNat) 0) - (((1 : Nat) : Int))))))]), (nm .i64 (0))], And.intro ⟨4, (AO.var 65 [(AV.lit (.int .i64 ((((m.code).getD (c.at'.toNat) default)).next))), (AV.sl 1 (is .i64 ((c.regs).set (((m.code).getD (c.at'.toNat) default).reg.toNat) (((c.regs).getD (((m.code).getD (c.at'.toNat) default).reg.toNat) 0) - (((1 : Nat) : Int))))))]), rfl, rfl, rfl, Or.inl ⟨Yp_tA65, AV.le_refl _⟩⟩ (And.intro (AV.le_refl _) (trivial)), rfl, ?_⟩
          have e := stp_b (m := m) (c := c) h1 h2 h4; rw [resC_0 e.1, e.1, e.2]; rfl
      · refine awp_region rfl ?_
        refine o_fieldRef 3 Gd.none Yp_tF88_3 rfl rfl ?_
        refine o_loadS (AV.lit (.int .i64 ((((m.code).getD (c.at'.toNat) default)).els))) Gd.none Yp_tS3 rfl rfl rfl ?_
        refine o_fieldRef 0 Gd.none Yp_tF65_0 rfl rfl ?_
        refine o_store [(8, (AO.var 65 [(AV.lit (.int .i64 ((((m.code).getD (c.at'.toNat) default)).els))), (AV.row 7)])), (7, (AO.row 3 1 (is .i64 (c.regs)))), (5, (AO.var 88 [(AV.lit (.int .i64 ((((m.code).getD (c.at'.toNat) default)).kind))), (AV.lit (.int .i64 ((((m.code).getD (c.at'.toNat) default)).reg))), (AV.lit (.int .i64 ((((m.code).getD (c.at'.toNat) default)).next))), (AV.lit (.int .i64 ((((m.code).getD (c.at'.toNat) default)).els)))])), (4, (AO.var 65 [(nm .i64 (0)), (AV.lit (.slice none 0 0))])), (3, (AO.var 65 [(AV.lit (.int .i64 (c.at'))), (AV.sl 1 (is .i64 (c.regs)))])), (2, (AO.var 24 [(AV.lit (.int .i64 (m.regs))), (AV.sl 4 (gcells cI (m.code)))]))] Gd.none Yp_tZ3 rfl rfl rfl rfl rfl rfl ?_
        refine aops_end ?_
        refine hK6 _ ?_
        refine awp_seq fun K16 hK16 => ?_
        refine awp_seq fun K17 hK17 => ?_
        refine awp_region rfl ?_
        refine o_fieldRef 1 Gd.none Yp_tF65_1 rfl rfl ?_
        refine o_loadS (AV.row 7) Gd.none Yp_tS37 rfl rfl rfl ?_
        refine o_fieldRef 1 Gd.none Yp_tF88_1 rfl rfl ?_
        refine o_loadS (AV.lit (.int .i64 ((((m.code).getD (c.at'.toNat) default)).reg))) Gd.none Yp_tS3 rfl rfl rfl ?_
        refine n_as (v' := (nm .i64 (((m.code).getD (c.at'.toNat) default).reg.toNat))) (nm_int (by omega)) ?_
        refine i_indexRow (c.regs) (((m.code).getD (c.at'.toNat) default).reg.toNat) Gd.none Yp_tE37 rfl rfl rfl (by first | omega | (simp only [List.length_set]; omega)) ?_
        refine i_loadRow (c.regs) (((m.code).getD (c.at'.toNat) default).reg.toNat) Gd.none Yp_tS3 rfl rfl (by first | omega | (simp only [List.length_set]; omega)) ?_
        refine o_gtr (a := ((c.regs).getD (((m.code).getD (c.at'.toNat) default).reg.toNat) 0)) (c := (((1000 : Nat) : Int))) Gd.none rfl rfl ?_
        refine aops_end ?_
        refine hK17 _ ?_
        refine awp_condQ (q := (((1000 : Nat) : Int)) < ((c.regs).getD (((m.code).getD (c.at'.toNat) default).reg.toNat) 0)) rfl (fun h6 => ?_) (fun h6 => ?_)
        · exact absurd h6 (by omega)
        · refine awp_skip ?_
          refine hK16 _ ?_
          refine awp_seq fun K18 hK18 => ?_
          refine awp_region rfl ?_
          refine o_loadA [(AV.lit (.int .i64 ((((m.code).getD (c.at'.toNat) default)).els))), (AV.row 7)] Gd.none Yp_tA65 rfl rfl rfl rfl rfl ?_
          refine o_store [(8, (AO.var 65 [(AV.lit (.int .i64 ((((m.code).getD (c.at'.toNat) default)).els))), (AV.row 7)])), (7, (AO.row 3 1 (is .i64 (c.regs)))), (5, (AO.var 88 [(AV.lit (.int .i64 ((((m.code).getD (c.at'.toNat) default)).kind))), (AV.lit (.int .i64 ((((m.code).getD (c.at'.toNat) default)).reg))), (AV.lit (.int .i64 ((((m.code).getD (c.at'.toNat) default)).next))), (AV.lit (.int .i64 ((((m.code).getD (c.at'.toNat) default)).els)))])), (4, (AO.var 65 [(AV.lit (.int .i64 ((((m.code).getD (c.at'.toNat) default)).els))), (AV.row 7)])), (3, (AO.var 65 [(AV.lit (.int .i64 (c.at'))), (AV.sl 1 (is .i64 (c.regs)))])), (2, (AO.var 24 [(AV.lit (.int .i64 (m.regs))), (AV.sl 4 (gcells cI (m.code)))]))] Gd.none Yp_tZ65 rfl rfl rfl rfl rfl rfl ?_
          refine o_as (nm .i64 (0)) rfl ?_
          refine aops_end ?_
          refine hK18 _ ?_
          refine awp_wk (σ' := ⟨[(4, (AV.ref 4 (0))), (5, (nm .i64 (0)))], [(4, (AO.var 65 [(AV.lit (.int .i64 ((((m.code).getD (c.at'.toNat) default)).els))), (AV.row 7)])), (7, (AO.row 3 1 (is .i64 (c.regs))))]⟩) (Wk.sub (And.intro rfl (And.intro rfl (trivial))) (And.intro rfl (And.intro rfl (trivial)))) ?_
          refine awp_wk (σ' := ⟨[(4, (AV.ref 4 (0))), (5, (nm .i64 (0)))], [(4, (AO.var 65 [(AV.lit (.int .i64 ((((m.code).getD (c.at'.toNat) default)).els))), (AV.sl 1 (is .i64 (c.regs)))]))]⟩) (Wk.freeze (id := 7) (e := 3) (sz := 1) (cs := (is .i64 (c.regs))) rfl) ?_
          refine awp_ret ?_
          refine post_ret ⟨[(AV.agg [(AV.lit (.int .i64 ((((m.code).getD (c.at'.toNat) default)).els))), (AV.sl 1 (is .i64 (c.regs)))]), (nm .i64 (0))], And.intro ⟨4, (AO.var 65 [(AV.lit (.int .i64 ((((m.code).getD (c.at'.toNat) default)).els))), (AV.sl 1 (is .i64 (c.regs)))]), rfl, rfl, rfl, Or.inl ⟨Yp_tA65, AV.le_refl _⟩⟩ (And.intro (AV.le_refl _) (trivial)), rfl, ?_⟩
          have e := stp_c (m := m) (c := c) h1 h2 h4; rw [resC_0 e.1, e.1, e.2]; rfl

theorem c_vRun (m : Mac) (c : Cfg) (k : Int) (hC : okCfg m c) (hk : 0 ≤ k) (hk2 : k ≤ 20000) : ECalls cx 48 [(macV m), (cfgV c), (AV.lit (.int .i64 (k)))] (.tup [cfgV (rnm m k.toNat c 0).1, nm .i64 (rnm m k.toNat c 0).2.1, nm .i64 (rnm m k.toNat c 0).2.2]) := by
  refine ecalls_of_awp Tryz.func48 (c := _) rfl (Nat.le_of_ble_eq_true rfl) ?_
  show awp cx 41 _ (postF cx Tryz.f48 _) ⟨[(0, (macV m)), (1, (cfgV c)), (2, (AV.lit (.int .i64 (k))))], []⟩
  have hC2 := hC
  obtain ⟨⟨o1, o2, o3, o4, o5⟩, q1, q2, q3⟩ := hC2
  refine awp_seq fun K0 hK0 => ?_
  refine awp_region rfl ?_
  refine o_box 2 [(AV.lit (.int .i64 (m.regs))), (AV.sl 4 (gcells cI (m.code)))] Gd.none rfl rfl ?_
  refine o_box 3 [(AV.lit (.int .i64 (c.at'))), (AV.sl 1 (is .i64 (c.regs)))] Gd.none rfl rfl ?_
  refine o_alloc 4 [(nm .i64 (0)), (AV.lit (.slice none 0 0))] Gd.none Yp_tO65 rfl rfl rfl ?_
  refine o_as (nm .i64 (0)) rfl ?_
  refine o_as (nm .i64 (0)) rfl ?_
  refine aops_end ?_
  refine hK0 _ ?_
  refine awp_seq fun K1 hK1 => ?_
  refine awp_regionD rfl ?_
  refine o_fieldRef 0 Gd.none Yp_tF65_0 rfl rfl ?_
  refine o_loadS (AV.lit (.int .i64 (c.at'))) Gd.none Yp_tS3 rfl rfl rfl ?_
  refine o_buildSlice 5 (is .i64 ([])) [] Gd.none Yp_tE37 rfl Yp_tO3 rfl rfl rfl rfl rfl rfl rfl ?_
  refine o_fieldRef 1 Gd.none Yp_tF65_1 rfl rfl ?_
  refine o_loadS (AV.sl 1 (is .i64 (c.regs))) Gd.none Yp_tS37 rfl rfl rfl ?_
  refine i_appendSl 6 ([]) (c.regs) [(4, (AO.var 65 [(nm .i64 (0)), (AV.lit (.slice none 0 0))])), (3, (AO.var 65 [(AV.lit (.int .i64 (c.at'))), (AV.sl 1 (is .i64 (c.regs)))])), (2, (AO.var 24 [(AV.lit (.int .i64 (m.regs))), (AV.sl 4 (gcells cI (m.code)))]))] Gd.none Yp_tE37 Yp_tO3 rfl rfl rfl rfl (by simp only [List.length_append, List.length_cons, List.length_nil]; omega) (by decide) rfl rfl ?_
  refine o_build [(AV.lit (.int .i64 (c.at'))), (AV.row 6)] [(0, [(AV.lit (.int .i64 (c.at')))]), (1, [(AV.row 6)])] Gd.none Yp_tP65 Yp_tO65 rfl rfl rfl ?_
  refine o_store [(6, (AO.row 3 1 (is .i64 (c.regs)))), (4, (AO.var 65 [(nm .i64 (0)), (AV.lit (.slice none 0 0))])), (3, (AO.var 65 [(AV.lit (.int .i64 (c.at'))), (AV.row 6)])), (2, (AO.var 24 [(AV.lit (.int .i64 (m.regs))), (AV.sl 4 (gcells cI (m.code)))]))] Gd.none Yp_tZ65 rfl rfl rfl rfl rfl rfl ?_
  refine aops_end ⟨by kernel_rfl, ?_⟩
  refine hK1 _ ?_
  refine awp_seq fun K2 hK2 => ?_
  refine awp_seq fun K3 hK3 => ?_
  refine awp_wk (σ' := ⟨[(0, (macV m)), (1, (cfgV c)), (2, (AV.lit (.int .i64 (k)))), (3, (AV.ref 2 (0))), (4, (AV.ref 3 (0))), (6, (AV.ref 4 (0))), (7, (nm .i64 (0))), (8, (nm .i64 (0))), (12, (AV.ref 3 (0))), (13, (AV.lit (.int .i64 (c.at')))), (15, (AV.ref 3 (1))), (16, (AV.sl 1 (is .i64 (c.regs))))], [(6, (AO.row 3 1 (is .i64 (c.regs)))), (4, (AO.var 65 [(nm .i64 (0)), (AV.lit (.slice none 0 0))])), (3, (AO.var 65 [(AV.lit (.int .i64 (c.at'))), (AV.row 6)])), (2, (AO.var 24 [(AV.lit (.int .i64 (m.regs))), (AV.sl 4 (gcells cI (m.code)))]))]⟩) (Wk.sub (And.intro rfl (And.intro rfl (And.intro rfl (And.intro rfl (And.intro rfl (And.intro rfl (And.intro rfl (And.intro rfl (And.intro rfl (And.intro rfl (And.intro rfl (And.intro rfl (trivial))))))))))))) (And.intro rfl (And.intro rfl (And.intro rfl (And.intro rfl (trivial)))))) ?_
  refine awp_wk (σ' := ⟨[(0, (macV m)), (1, (cfgV c)), (2, (AV.lit (.int .i64 (k)))), (3, (AV.ref 2 (0))), (4, (AV.ref 3 (0))), (6, (AV.ref 4 (0))), (7, (nm .i64 (0))), (8, (nm .i64 (0))), (12, (AV.ref 3 (0))), (13, (AV.lit (.int .i64 (c.at')))), (15, (AV.ref 3 (1))), (16, (AV.sl 1 (is .i64 (c.regs))))], [(4, (AO.var 65 [(nm .i64 (0)), (AV.lit (.slice none 0 0))])), (3, (AO.var 65 [(AV.lit (.int .i64 (c.at'))), (AV.sl 1 (is .i64 (c.regs)))])), (2, (AO.var 24 [(AV.lit (.int .i64 (m.regs))), (AV.sl 4 (gcells cI (m.code)))]))]⟩) (Wk.freeze (id := 6) (e := 3) (sz := 1) (cs := (is .i64 (c.regs))) rfl) ?_
  refine awp_region rfl ?_
  refine o_as (nm .i64 (0)) rfl ?_
  refine aops_end ?_
  refine hK3 _ ?_
  refine awp_block ?_
  refine awp_loopR (fun κ σ => ∃ (i : Nat), ∃ (d : Cfg), (i ≤ k.toNat) ∧ (okCfg m d) ∧ ((rnm m k.toNat c 0) = rnm m (k.toNat - i) d i) ∧ (k.toNat - i) = κ ∧ σ = ⟨[(2, (AV.lit (.int .i64 (k)))), (3, (AV.ref 2 (0))), (4, (AV.ref 3 (0))), (6, (AV.ref 4 (0))), (9, (nm .i64 (i)))], [(2, (AO.var 24 [(AV.lit (.int .i64 (m.regs))), (AV.sl 4 (gcells cI (m.code)))])), (3, (AO.var 65 [(AV.lit (.int .i64 (d.at'))), (AV.sl 1 (is .i64 (d.regs)))])), (4, (AO.var 65 [(nm .i64 (0)), (AV.lit (.slice none 0 0))]))]⟩) ⟨_, _, ⟨0, c, (by omega), hC, rfl, rfl, rfl⟩, ?wk0⟩ ?rd0
  case wk0 =>
    exact Wk.sub (And.intro rfl (And.intro rfl (And.intro rfl (And.intro rfl (And.intro (by first | rfl | exact congrArg (nm _) (by omega) | exact nm_int (by omega) | exact nm_int (by simp [IntKind.wrap, IntKind.bits, IntKind.signed]; omega)) (trivial)))))) (And.intro rfl (And.intro rfl (And.intro rfl (trivial))))
  rintro κ _ ⟨i, d, hi, hd, hp, rfl, rfl⟩
  refine awp_seq fun K4 hK4 => ?_
  refine awp_seq fun K5 hK5 => ?_
  refine awp_region rfl ?_
  refine o_mv (nm .i64 (i)) rfl ?_
  refine o_mv (AV.lit (.int .i64 (k))) rfl ?_
  refine o_lss (a := (((i : Nat) : Int))) (c := (k)) Gd.none rfl rfl ?_
  refine aops_end ?_
  refine hK5 _ ?_
  refine awp_condQ (q := (((i : Nat) : Int)) < (k)) rfl (fun h1 => ?_) (fun h1 => ?_)
  · refine awp_skip ?_
    refine hK4 _ ?_
    refine awp_seq fun K6 hK6 => ?_
    refine awp_block ?_
    refine awp_seq fun K7 hK7 => ?_
    refine awp_region rfl ?_
    refine o_loadA [(AV.lit (.int .i64 (m.regs))), (AV.sl 4 (gcells cI (m.code)))] Gd.none Yp_tA24 rfl rfl rfl rfl rfl ?_
    refine o_loadA [(AV.lit (.int .i64 (d.at'))), (AV.sl 1 (is .i64 (d.regs)))] Gd.none Yp_tA65 rfl rfl rfl rfl rfl ?_
    refine o_ct (c_vStep m d (by assumption)) Gd.none Yp_tC44 rfl ?_
    refine o_mv (AV.tup [(cfgV (resC m d)), (nm .i64 (stpE m d))]) rfl ?_
    refine o_extract (cfgV (resC m d)) Gd.none rfl rfl ?_
    refine o_extract (nm .i64 (stpE m d)) Gd.none rfl rfl ?_
    refine o_alloc 101 [(nm .i64 (0)), (AV.lit (.slice none 0 0))] Gd.none Yp_tO65 rfl rfl rfl ?_
    refine o_store [(101, (AO.var 65 [(AV.lit (.int .i64 ((resC m d).at'))), (AV.sl 1 (is .i64 ((resC m d).regs)))])), (2, (AO.var 24 [(AV.lit (.int .i64 (m.regs))), (AV.sl 4 (gcells cI (m.code)))])), (3, (AO.var 65 [(AV.lit (.int .i64 (d.at'))), (AV.sl 1 (is .i64 (d.regs)))])), (4, (AO.var 65 [(nm .i64 (0)), (AV.lit (.slice none 0 0))]))] Gd.none Yp_tZ65 rfl rfl rfl rfl rfl rfl ?_
    refine o_as (nm .i64 (stpE m d)) rfl ?_
    refine aops_end ?_
    refine hK7 _ ?_
    refine awp_seq fun K8 hK8 => ?_
    refine awp_seq fun K9 hK9 => ?_
    refine awp_region rfl ?_
    refine o_mv (nm .i64 (stpE m d)) rfl ?_
    refine n_eql (stpE m d) (6) Gd.none rfl rfl ?_
    refine aops_end ?_
    refine hK9 _ ?_
    refine awp_condQ (q := (stpE m d) = (6)) rfl (fun h2 => ?_) (fun h2 => ?_)
    · refine awp_seq fun K10 hK10 => ?_
      refine awp_region rfl ?_
      refine o_loadA [(AV.lit (.int .i64 (d.at'))), (AV.sl 1 (is .i64 (d.regs)))] Gd.none Yp_tA65 rfl rfl rfl rfl rfl ?_
      refine o_mv (nm .i64 (i)) rfl ?_
      refine o_store [(101, (AO.var 65 [(AV.lit (.int .i64 ((resC m d).at'))), (AV.sl 1 (is .i64 ((resC m d).regs)))])), (2, (AO.var 24 [(AV.lit (.int .i64 (m.regs))), (AV.sl 4 (gcells cI (m.code)))])), (3, (AO.var 65 [(AV.lit (.int .i64 (d.at'))), (AV.sl 1 (is .i64 (d.regs)))])), (4, (AO.var 65 [(AV.lit (.int .i64 (d.at'))), (AV.sl 1 (is .i64 (d.regs)))]))] Gd.none Yp_tZ65 rfl rfl rfl rfl rfl rfl ?_
      refine o_as (nm .i64 (i)) rfl ?_
      refine o_as (nm .i64 (0)) rfl ?_
      refine aops_end ?_
      refine hK10 _ ?_
      refine awp_ret ?_
      refine post_ret ⟨[(AV.agg [(AV.lit (.int .i64 (d.at'))), (AV.sl 1 (is .i64 (d.regs)))]), (nm .i64 (i)), (nm .i64 (0))], And.intro ⟨4, (AO.var 65 [(AV.lit (.int .i64 (d.at'))), (AV.sl 1 (is .i64 (d.regs)))]), rfl, rfl, rfl, Or.inl ⟨Yp_tA65, AV.le_refl _⟩⟩ (And.intro (AV.le_refl _) (And.intro (AV.le_refl _) (trivial))), rfl, ?_⟩
      rw [hp, rnm_stop (by omega) (by assumption)]; rfl
    · refine awp_skip ?_
      refine hK8 _ ?_
      refine awp_seq fun K11 hK11 => ?_
      refine awp_seq fun K12 hK12 => ?_
      refine awp_region rfl ?_
      refine o_mv (nm .i64 (stpE m d)) rfl ?_
      refine n_neq (stpE m d) (0) Gd.none rfl rfl ?_
      refine aops_end ?_
      refine hK12 _ ?_
      refine awp_condQ (q := (stpE m d) ≠ (0)) rfl (fun h3 => ?_) (fun h3 => ?_)
      · refine awp_seq fun K13 hK13 => ?_
        refine awp_region rfl ?_
        refine o_build [(nm .i64 (0)), (AV.lit (.slice none 0 0))] [] Gd.none Yp_tP65 Yp_tO65 rfl rfl rfl ?_
        refine o_mv (nm .i64 (stpE m d)) rfl ?_
        refine o_store [(101, (AO.var 65 [(AV.lit (.int .i64 ((resC m d).at'))), (AV.sl 1 (is .i64 ((resC m d).regs)))])), (2, (AO.var 24 [(AV.lit (.int .i64 (m.regs))), (AV.sl 4 (gcells cI (m.code)))])), (3, (AO.var 65 [(AV.lit (.int .i64 (d.at'))), (AV.sl 1 (is .i64 (d.regs)))])), (4, (AO.var 65 [(nm .i64 (0)), (AV.lit (.slice none 0 0))]))] Gd.none Yp_tZ65 rfl rfl rfl rfl rfl rfl ?_
        refine o_as (nm .i64 (0)) rfl ?_
        refine o_as (nm .i64 (stpE m d)) rfl ?_
        refine aops_end ?_
        refine hK13 _ ?_
        refine awp_ret ?_
        refine post_ret ⟨[(AV.agg [(AV.lit (.int .i64 (0))), (AV.sl 1 (is .i64 ([])))]), (nm .i64 (0)), (nm .i64 (stpE m d))], And.intro ⟨4, (AO.var 65 [(nm .i64 (0)), (AV.lit (.slice none 0 0))]), rfl, rfl, rfl, Or.inl ⟨Yp_tA65, AV.le_agg (LeL.cons (AV.le_refl _) (LeL.cons (AV.le_nil' (by decide) (by first | rfl | simp [digs_zero, ns, is])) (LeL.nil)))⟩⟩ (And.intro (AV.le_refl _) (And.intro (AV.le_refl _) (trivial))), rfl, ?_⟩
        rw [hp, rnm_big (by omega) (by assumption) (by assumption)]; rfl
      · refine awp_skip ?_
        refine hK11 _ ?_
        refine awp_region rfl ?_
        refine o_loadA [(AV.lit (.int .i64 ((resC m d).at'))), (AV.sl 1 (is .i64 ((resC m d).regs)))] Gd.none Yp_tA65 rfl rfl rfl rfl rfl ?_
        refine n_as (v' := (cfgV (stpC m d))) (by exact congrArg cfgV (resC_0 (Decidable.not_not.1 (by assumption)))) ?_
        refine o_store [(101, (AO.var 65 [(AV.lit (.int .i64 ((resC m d).at'))), (AV.sl 1 (is .i64 ((resC m d).regs)))])), (2, (AO.var 24 [(AV.lit (.int .i64 (m.regs))), (AV.sl 4 (gcells cI (m.code)))])), (3, (AO.var 65 [(AV.lit (.int .i64 ((stpC m d).at'))), (AV.sl 1 (is .i64 ((stpC m d).regs)))])), (4, (AO.var 65 [(nm .i64 (0)), (AV.lit (.slice none 0 0))]))] Gd.none Yp_tZ65 rfl rfl rfl rfl rfl rfl ?_
        refine aops_end ?_
        refine hK6 _ ?_
        refine awp_region rfl ?_
        refine o_mv (nm .i64 (i)) rfl ?_
        refine n_add (i) (1) Gd.none rfl rfl (by simp only [topOf]; omega) ?_
        refine o_as (nm .i64 ((i) + (1))) rfl ?_
        refine aops_end ?_
        refine ⟨_, _, ?lt, ⟨i + 1, (stpC m d), (by omega), (stp_ok hd (Decidable.not_not.1 (by assumption))), (by rw [hp, rnm_next (by omega) (Decidable.not_not.1 (by assumption))]), rfl, rfl⟩, ?wk⟩
        case lt => omega
        case wk => exact Wk.sub (And.intro rfl (And.intro rfl (And.intro rfl (And.intro rfl (And.intro (by first | rfl | exact congrArg (nm _) (by omega) | exact nm_int (by omega) | exact nm_int (by simp [IntKind.wrap, IntKind.bits, IntKind.signed]; omega)) (trivial)))))) (And.intro rfl (And.intro rfl (And.intro rfl (trivial))))
  · refine awp_exit ?_
    refine hK2 _ ?_
    refine awp_seq fun K14 hK14 => ?_
    refine awp_region rfl ?_
    refine o_loadA [(AV.lit (.int .i64 (d.at'))), (AV.sl 1 (is .i64 (d.regs)))] Gd.none Yp_tA65 rfl rfl rfl rfl rfl ?_
    refine o_mv (AV.lit (.int .i64 (k))) rfl ?_
    refine n_as (v' := (nm .i64 (i))) (nm_int (by omega)) ?_
    refine o_store [(2, (AO.var 24 [(AV.lit (.int .i64 (m.regs))), (AV.sl 4 (gcells cI (m.code)))])), (3, (AO.var 65 [(AV.lit (.int .i64 (d.at'))), (AV.sl 1 (is .i64 (d.regs)))])), (4, (AO.var 65 [(AV.lit (.int .i64 (d.at'))), (AV.sl 1 (is .i64 (d.regs)))]))] Gd.none Yp_tZ65 rfl rfl rfl rfl rfl rfl ?_
    refine o_as (nm .i64 (i)) rfl ?_
    refine o_as (nm .i64 (0)) rfl ?_
    refine aops_end ?_
    refine hK14 _ ?_
    refine awp_ret ?_
    refine post_ret ⟨[(AV.agg [(AV.lit (.int .i64 (d.at'))), (AV.sl 1 (is .i64 (d.regs)))]), (nm .i64 (i)), (nm .i64 (0))], And.intro ⟨4, (AO.var 65 [(AV.lit (.int .i64 (d.at'))), (AV.sl 1 (is .i64 (d.regs)))]), rfl, rfl, rfl, Or.inl ⟨Yp_tA65, AV.le_refl _⟩⟩ (And.intro (AV.le_refl _) (And.intro (AV.le_refl _) (trivial))), rfl, ?_⟩
    rw [hp, show k.toNat - i = 0 by omega]; rfl

end Go.Proofs.YtnejjdcbbminaaaGreatDoor

set_option linter.unusedVariables false
set_option linter.unusedSimpArgs false
namespace Go.Proofs.YtnejjdcbbminaaaGreatDoor
open Go Go.Ab Go.Mth
theorem Yc_tC106 : callable cx.P 106 = true := by kernel_rfl
theorem Yc_tC115 : callable cx.P 115 = true := by kernel_rfl
theorem Yc_tF52_0 : tyField cx.P 52 0 = some (0, 9) := by kernel_rfl
theorem Yc_tS9 : tySc cx.P 9 = true := by kernel_rfl
theorem Yc_tC84 : callable cx.P 84 = true := by kernel_rfl
theorem Yc_tF52_1 : tyField cx.P 52 1 = some (1, 9) := by kernel_rfl
theorem Yc_tC76 : callable cx.P 76 = true := by kernel_rfl
theorem Yc_tA52 : tyAgg cx.P 52 = some 2 := by kernel_rfl
theorem Yc_tC104 : callable cx.P 104 = true := by kernel_rfl
theorem Yc_tU26 : cx.P.underlying 26 = some (.slice 52) := by kernel_rfl
theorem Yc_tE26 : tyElem cx.P 26 = some (52, 2, 32) := by kernel_rfl
theorem Yc_tC103 : callable cx.P 103 = true := by kernel_rfl
theorem Yc_tC120 : callable cx.P 120 = true := by kernel_rfl
theorem Yc_tC102 : callable cx.P 102 = true := by kernel_rfl
theorem Yc_tC75 : callable cx.P 75 = true := by kernel_rfl
theorem Yc_tO52 : tyZero cx.P 52 = some [(Go.Value.string {data := #[]}), (Go.Value.string {data := #[]})] := by kernel_rfl
theorem Yc_tZ52 : tySize cx.P 52 = some 2 := by kernel_rfl
theorem Yc_tC77 : callable cx.P 77 = true := by kernel_rfl
theorem c_positive (a : ByteArray) (ha : a.size ≤ 9223372036854775807) : ECalls cx 84 [(AV.lit (.string (a)))] (nm .i64 (posE a)) := by
  refine ecalls_of_awp Tryz.func84 (c := _) rfl (Nat.le_of_ble_eq_true rfl) ?_
  show awp cx 15 _ (postF cx Tryz.f84 _) ⟨[(0, (AV.lit (.string (a))))], []⟩
  refine awp_seq fun K0 hK0 => ?_
  refine awp_region rfl ?_
  refine o_as (nm .i64 (0)) rfl ?_
  refine aops_end ?_
  refine hK0 _ ?_
  refine awp_seq fun K1 hK1 => ?_
  refine awp_seq fun K2 hK2 => ?_
  refine awp_region rfl ?_
  refine o_mv (AV.lit (.string (a))) rfl ?_
  refine o_ct (c_nValid (a) (by first | assumption | decide | omega)) Gd.none Yc_tC106 rfl ?_
  refine o_not (b := okS (a)) Gd.none rfl ?_
  refine aops_end ?_
  refine hK2 _ ?_
  refine awp_condB (b := !(okS (a))) rfl (fun h1 => ?_) (fun h1 => ?_)
  · refine awp_seq fun K3 hK3 => ?_
    refine awp_region rfl ?_
    refine o_as (nm .i64 (1)) rfl ?_
    refine aops_end ?_
    refine hK3 _ ?_
    refine awp_ret ?_
    refine post_ret ⟨[(nm .i64 (1))], And.intro (AV.le_refl _) (trivial), rfl, ?_⟩
    exact congrArg (nm .i64) (if_neg (by simpa using h1))
  · refine awp_skip ?_
    refine hK1 _ ?_
    refine awp_seq fun K4 hK4 => ?_
    refine awp_seq fun K5 hK5 => ?_
    refine awp_region rfl ?_
    refine o_mv (AV.lit (.string (a))) rfl ?_
    refine o_ct (c_nCompare (a) (({data := #[48]} : ByteArray)) (by first | assumption | decide | omega) (by first | assumption | decide | omega)) Gd.none Yc_tC115 rfl ?_
    refine o_mv (AV.tup [(AV.lit (.int .i64 ((if okS (a) && okS (({data := #[48]} : ByteArray)) then (cmpZ (numS (a)) (numS (({data := #[48]} : ByteArray)))) else (0))))), (nm .i64 ((if okS (a) && okS (({data := #[48]} : ByteArray)) then (0) else (1))))]) rfl ?_
    refine o_extract (AV.lit (.int .i64 ((if okS (a) && okS (({data := #[48]} : ByteArray)) then (cmpZ (numS (a)) (numS (({data := #[48]} : ByteArray)))) else (0))))) Gd.none rfl rfl ?_
    refine o_extract (nm .i64 ((if okS (a) && okS (({data := #[48]} : ByteArray)) then (0) else (1)))) Gd.none rfl rfl ?_
    refine o_as (AV.lit (.int .i64 ((if okS (a) && okS (({data := #[48]} : ByteArray)) then (cmpZ (numS (a)) (numS (({data := #[48]} : ByteArray)))) else (0))))) rfl ?_
    refine o_as (nm .i64 ((if okS (a) && okS (({data := #[48]} : ByteArray)) then (0) else (1)))) rfl ?_
    refine aops_end ?_
    refine hK5 _ ?_
    refine awp_seq fun K6 hK6 => ?_
    refine awp_region rfl ?_
    refine o_mv (AV.lit (.int .i64 ((if okS (a) && okS (({data := #[48]} : ByteArray)) then (cmpZ (numS (a)) (numS (({data := #[48]} : ByteArray)))) else (0))))) rfl ?_
    refine o_leq (a := ((if okS (a) && okS (({data := #[48]} : ByteArray)) then (cmpZ (numS (a)) (numS (({data := #[48]} : ByteArray)))) else (0)))) (c := (((0 : Nat) : Int))) Gd.none rfl rfl ?_
    refine aops_end ?_
    refine hK6 _ ?_
    refine awp_condQ (q := ((if okS (a) && okS (({data := #[48]} : ByteArray)) then (cmpZ (numS (a)) (numS (({data := #[48]} : ByteArray)))) else (0))) ≤ (((0 : Nat) : Int))) rfl (fun h2 => ?_) (fun h2 => ?_)
    · refine awp_seq fun K7 hK7 => ?_
      refine awp_region rfl ?_
      refine o_as (nm .i64 (2)) rfl ?_
      refine aops_end ?_
      refine hK7 _ ?_
      refine awp_ret ?_
      refine post_ret ⟨[(nm .i64 (2))], And.intro (AV.le_refl _) (trivial), rfl, ?_⟩
      exact congrArg (nm .i64) ((if_pos (by simpa using h1)).trans (if_neg (fun e => absurd (cmpZ_le.1 (by rw [cmp_0 a (by simpa using h1)] at h2; exact h2)) (by omega))))
    · refine awp_skip ?_
      refine hK4 _ ?_
      refine awp_seq fun K8 hK8 => ?_
      refine awp_region rfl ?_
      refine o_as (nm .i64 (0)) rfl ?_
      refine aops_end ?_
      refine hK8 _ ?_
      refine awp_ret ?_
      refine post_ret ⟨[(nm .i64 (0))], And.intro (AV.le_refl _) (trivial), rfl, ?_⟩
      exact congrArg (nm .i64) ((if_pos (by simpa using h1)).trans (if_pos (by rw [cmp_0 a (by simpa using h1)] at h2; have := (not_congr cmpZ_le).1 h2; omega)))

theorem c_reduced (f : Frc) (hn : f.num.size ≤ 9223372036854775807) (hd : f.den.size ≤ 9223372036854775807) : ECalls cx 104 [(AV.agg [(AV.lit (.string ((f).num))), (AV.lit (.string ((f).den)))])] (bp (redP f)) := by
  refine ecalls_of_awp Tryz.func104 (c := _) rfl (Nat.le_of_ble_eq_true rfl) ?_
  show awp cx 25 _ (postF cx Tryz.f104 _) ⟨[(0, (AV.agg [(AV.lit (.string ((f).num))), (AV.lit (.string ((f).den)))]))], []⟩
  refine awp_seq fun K0 hK0 => ?_
  refine awp_region rfl ?_
  refine o_box 2 [(AV.lit (.string ((f).num))), (AV.lit (.string ((f).den)))] Gd.none rfl rfl ?_
  refine o_as (AV.lit (.bool false)) rfl ?_
  refine aops_end ?_
  refine hK0 _ ?_
  refine awp_seq fun K1 hK1 => ?_
  refine awp_seq fun K2 hK2 => ?_
  refine awp_region rfl ?_
  refine o_fieldRef 0 Gd.none Yc_tF52_0 rfl rfl ?_
  refine o_loadS (AV.lit (.string ((f).num))) Gd.none Yc_tS9 rfl rfl rfl ?_
  refine o_ct (c_positive ((f).num) (by first | assumption | decide | omega)) Gd.none Yc_tC84 rfl ?_
  refine n_neq (posE ((f).num)) (0) Gd.none rfl rfl ?_
  refine o_mv (bp ((posE ((f).num)) ≠ (0))) rfl ?_
  refine o_splitP (q := (posE ((f).num)) ≠ (0)) 9 rfl (fun h1 => ?_) (fun h1 => ?_)
  · refine o_skip rfl rfl (decide_eq_true h1) ?_
    refine o_skip rfl rfl (decide_eq_true h1) ?_
    refine o_skip rfl rfl (decide_eq_true h1) ?_
    refine o_skip rfl rfl (decide_eq_true h1) ?_
    refine o_pickT (AV.lit (.bool true)) Gd.none rfl (decide_eq_true h1) rfl ?_
    refine aops_end ?_
    refine hK2 _ ?_
    refine awp_condB (b := true) rfl (fun _ => ?_) (fun hh => absurd (hh.symm.trans rfl) (by decide))
    refine awp_seq fun K3 hK3 => ?_
    refine awp_region rfl ?_
    refine o_as (AV.lit (.bool false)) rfl ?_
    refine aops_end ?_
    refine hK3 _ ?_
    refine awp_ret ?_
    refine post_ret ⟨[(AV.lit (.bool false))], And.intro (AV.le_refl _) (trivial), rfl, ?_⟩
    exact bpn (fun o => h1 (posE_0.2 o.1))
  · refine o_fieldRef 1 (Gd.yes rfl rfl (decide_eq_false h1)) Yc_tF52_1 rfl rfl ?_
    refine o_loadS (AV.lit (.string ((f).den))) (Gd.yes rfl rfl (decide_eq_false h1)) Yc_tS9 rfl rfl rfl ?_
    refine o_ct (c_positive ((f).den) (by first | assumption | decide | omega)) (Gd.yes rfl rfl (decide_eq_false h1)) Yc_tC84 rfl ?_
    refine n_neq (posE ((f).den)) (0) (Gd.yes rfl rfl (decide_eq_false h1)) rfl rfl ?_
    refine o_pickF (bp ((posE ((f).den)) ≠ (0))) Gd.none rfl (decide_eq_false h1) rfl ?_
    refine aops_end ?_
    refine hK2 _ ?_
    refine awp_condQ (q := (posE ((f).den)) ≠ (0)) rfl (fun h2 => ?_) (fun h2 => ?_)
    · refine awp_seq fun K4 hK4 => ?_
      refine awp_region rfl ?_
      refine o_as (AV.lit (.bool false)) rfl ?_
      refine aops_end ?_
      refine hK4 _ ?_
      refine awp_ret ?_
      refine post_ret ⟨[(AV.lit (.bool false))], And.intro (AV.le_refl _) (trivial), rfl, ?_⟩
      exact bpn (fun o => h2 (posE_0.2 o.2.1))
    · refine awp_skip ?_
      refine hK1 _ ?_
      refine awp_seq fun K5 hK5 => ?_
      refine awp_region rfl ?_
      refine o_fieldRef 0 Gd.none Yc_tF52_0 rfl rfl ?_
      refine o_loadS (AV.lit (.string ((f).num))) Gd.none Yc_tS9 rfl rfl rfl ?_
      refine o_fieldRef 1 Gd.none Yc_tF52_1 rfl rfl ?_
      refine o_loadS (AV.lit (.string ((f).den))) Gd.none Yc_tS9 rfl rfl rfl ?_
      refine o_ct (c_nGcd ((f).num) ((f).den) (by first | assumption | decide | omega) (by first | assumption | decide | omega)) Gd.none Yc_tC76 rfl ?_
      refine o_mv (AV.tup [(AV.lit (.string ((if okS ((f).num) && okS ((f).den) then (toldS ((Int.gcd (numS ((f).num)) (numS ((f).den)) : Nat) : Int)) else (({ data := #[] } : ByteArray)))))), (nm .i64 ((if okS ((f).num) && okS ((f).den) then (toldE ((Int.gcd (numS ((f).num)) (numS ((f).den)) : Nat) : Int)) else (1))))]) rfl ?_
      refine o_extract (AV.lit (.string ((if okS ((f).num) && okS ((f).den) then (toldS ((Int.gcd (numS ((f).num)) (numS ((f).den)) : Nat) : Int)) else (({ data := #[] } : ByteArray)))))) Gd.none rfl rfl ?_
      refine o_extract (nm .i64 ((if okS ((f).num) && okS ((f).den) then (toldE ((Int.gcd (numS ((f).num)) (numS ((f).den)) : Nat) : Int)) else (1)))) Gd.none rfl rfl ?_
      refine o_as (AV.lit (.string ((if okS ((f).num) && okS ((f).den) then (toldS ((Int.gcd (numS ((f).num)) (numS ((f).den)) : Nat) : Int)) else (({ data := #[] } : ByteArray)))))) rfl ?_
      refine o_as (nm .i64 ((if okS ((f).num) && okS ((f).den) then (toldE ((Int.gcd (numS ((f).num)) (numS ((f).den)) : Nat) : Int)) else (1)))) rfl ?_
      refine aops_end ?_
      refine hK5 _ ?_
      refine awp_seq fun K6 hK6 => ?_
      refine awp_region rfl ?_
      refine o_mv (AV.lit (.string ((if okS ((f).num) && okS ((f).den) then (toldS ((Int.gcd (numS ((f).num)) (numS ((f).den)) : Nat) : Int)) else (({ data := #[] } : ByteArray)))))) rfl ?_
      refine o_eqlS (a := ((if okS ((f).num) && okS ((f).den) then (toldS ((Int.gcd (numS ((f).num)) (numS ((f).den)) : Nat) : Int)) else (({ data := #[] } : ByteArray))))) (c := (({data := #[49]} : ByteArray))) Gd.none rfl rfl ?_
      refine o_as (bp (((if okS ((f).num) && okS ((f).den) then (toldS ((Int.gcd (numS ((f).num)) (numS ((f).den)) : Nat) : Int)) else (({ data := #[] } : ByteArray)))).toList = (({data := #[49]} : ByteArray)).toList)) rfl ?_
      refine aops_end ?_
      refine hK6 _ ?_
      refine awp_ret ?_
      refine post_ret ⟨[(bp (((if okS ((f).num) && okS ((f).den) then (toldS ((Int.gcd (numS ((f).num)) (numS ((f).den)) : Nat) : Int)) else (({ data := #[] } : ByteArray)))).toList = (({data := #[49]} : ByteArray)).toList))], And.intro (AV.le_refl _) (trivial), rfl, ?_⟩
      exact bpc (by have g1 := posE_0.1 (Decidable.not_not.1 h1); have g2 := posE_0.1 (Decidable.not_not.1 h2); rw [gcd_one ⟨g1.1, g2.1⟩]; exact ⟨fun o => o.2.2, fun o => ⟨g1, g2, o⟩⟩)

theorem c_list1 (f : Frc) (hn : f.num.size ≤ 9223372036854775807) (hd : f.den.size ≤ 9223372036854775807) : ECalls cx 103 [(AV.agg [(AV.lit (.string ((f).num))), (AV.lit (.string ((f).den)))])] (bp (¬ redP f)) := by
  refine ecalls_of_awp Tryz.func103 (c := _) rfl (Nat.le_of_ble_eq_true rfl) ?_
  show awp cx 6 _ (postF cx Tryz.f103 _) ⟨[(0, (AV.agg [(AV.lit (.string ((f).num))), (AV.lit (.string ((f).den)))]))], []⟩
  refine awp_seq fun K0 hK0 => ?_
  refine awp_region rfl ?_
  refine o_box 2 [(AV.lit (.string ((f).num))), (AV.lit (.string ((f).den)))] Gd.none rfl rfl ?_
  refine o_as (AV.lit (.bool false)) rfl ?_
  refine aops_end ?_
  refine hK0 _ ?_
  refine awp_seq fun K1 hK1 => ?_
  refine awp_region rfl ?_
  refine o_loadA [(AV.lit (.string ((f).num))), (AV.lit (.string ((f).den)))] Gd.none Yc_tA52 rfl rfl rfl rfl rfl ?_
  refine o_ct (c_reduced (f) (by first | assumption | decide | omega) (by first | assumption | decide | omega)) Gd.none Yc_tC104 rfl ?_
  refine o_notP (q := redP (f)) Gd.none rfl ?_
  refine o_as (bp (¬ (redP (f)))) rfl ?_
  refine aops_end ?_
  refine hK1 _ ?_
  refine awp_ret ?_
  refine post_ret ⟨[(bp (¬ (redP (f))))], And.intro (AV.le_refl _) (trivial), rfl, ?_⟩
  rfl

theorem c_ixFrc (l : List Frc) (hl : l.length ≤ 100) (hS : ∀ f ∈ l, f.num.size ≤ 9223372036854775807 ∧ f.den.size ≤ 9223372036854775807) : ECalls cx 120 [(AV.sl 2 (gcells cF (l))), (AV.clo 103 [])] (.lit (.int .i64 (ixP (fun f => ¬ redP f) l))) := by
  refine ecalls_of_awp Tryz.func120 (c := _) rfl (Nat.le_of_ble_eq_true rfl) ?_
  show awp cx 19 _ (postF cx Tryz.f120 _) ⟨[(0, (AV.sl 2 (gcells cF (l)))), (1, (AV.clo 103 []))], []⟩
  refine awp_seq fun K0 hK0 => ?_
  refine awp_region rfl ?_
  refine o_as (nm .i64 (0)) rfl ?_
  refine aops_end ?_
  refine hK0 _ ?_
  refine awp_seq fun K1 hK1 => ?_
  refine awp_seq fun K2 hK2 => ?_
  refine awp_region rfl ?_
  refine o_mv (AV.sl 2 (gcells cF (l))) rfl ?_
  refine g_len cF (l) cF_len Gd.none Yc_tU26 rfl ?_
  refine o_mv (nm .i64 (0)) rfl ?_
  refine aops_end ?_
  refine hK2 _ ?_
  refine awp_block ?_
  refine awp_loopR (fun κ σ => ∃ (i : Nat), (i ≤ l.length) ∧ (∀ k, k < i → ¬ ((fun f => ¬ redP f) ((l).getD k default))) ∧ (l.length - i) = κ ∧ σ = ⟨[(0, (AV.sl 2 (gcells cF (l)))), (1, (AV.clo 103 [])), (7, (nm .i64 (l.length))), (8, (nm .i64 (i)))], []⟩) ⟨_, _, ⟨0, (by omega), (fun k hk => by omega), rfl, rfl⟩, ?wk0⟩ ?rd0
  case wk0 =>
    exact Wk.sub (And.intro rfl (And.intro rfl (And.intro (by first | rfl | exact congrArg (nm _) (by omega) | exact nm_int (by omega) | exact nm_int (by simp [IntKind.wrap, IntKind.bits, IntKind.signed]; omega)) (And.intro (by first | rfl | exact congrArg (nm _) (by omega) | exact nm_int (by omega) | exact nm_int (by simp [IntKind.wrap, IntKind.bits, IntKind.signed]; omega)) (trivial))))) (trivial)
  rintro κ _ ⟨i, hi, hb, rfl, rfl⟩
  refine awp_seq fun K3 hK3 => ?_
  refine awp_region rfl ?_
  refine n_lss (i) (l.length) Gd.none rfl rfl ?_
  refine aops_end ?_
  refine hK3 _ ?_
  refine awp_seq fun K4 hK4 => ?_
  refine awp_condQ (q := (i) < (l.length)) rfl (fun h1 => ?_) (fun h1 => ?_)
  · refine awp_skip ?_
    refine hK4 _ ?_
    refine awp_seq fun K5 hK5 => ?_
    refine awp_block ?_
    refine awp_seq fun K6 hK6 => ?_
    refine awp_region rfl ?_
    refine o_mv (nm .i64 (i)) rfl ?_
    refine o_as (nm .i64 (i)) rfl ?_
    refine aops_end ?_
    refine hK6 _ ?_
    refine awp_seq fun K7 hK7 => ?_
    refine awp_region rfl ?_
    refine o_mv (AV.clo 103 []) rfl ?_
    refine o_mv (AV.sl 2 (gcells cF (l))) rfl ?_
    refine o_mv (nm .i64 (i)) rfl ?_
    refine g_index cF (l) (i) cF_len rfl Gd.none Yc_tE26 rfl rfl (by omega) ?_
    refine g_loadA cF (l) (i) default cF_len Gd.none Yc_tA52 rfl (by omega) ?_
    refine o_callG [] [(AV.agg [(AV.lit (.string ((((l).getD (i) default)).num))), (AV.lit (.string ((((l).getD (i) default)).den)))])] _ (bp (¬ (redP (((l).getD (i) default))))) [] Gd.none Yc_tC103 rfl (trivial) rfl rfl (LeL.cons (AV.le_refl _) (LeL.nil)) (c_list1 (((l).getD (i) default)) (hS _ (gdm (by omega))).1 (hS _ (gdm (by omega))).2) rfl ?_
    refine aops_end ?_
    refine hK7 _ ?_
    refine awp_condQ (q := ¬ (redP (((l).getD (i) default)))) rfl (fun h2 => ?_) (fun h2 => ?_)
    · refine awp_seq fun K8 hK8 => ?_
      refine awp_region rfl ?_
      refine o_mv (nm .i64 (i)) rfl ?_
      refine o_as (nm .i64 (i)) rfl ?_
      refine aops_end ?_
      refine hK8 _ ?_
      refine awp_ret ?_
      refine post_ret ⟨[(nm .i64 (i))], And.intro (AV.le_refl _) (trivial), rfl, ?_⟩
      exact congrArg (fun z => AV.lit (.int .i64 z)) (ixP_hit (d := default) (by omega) (by assumption) hb)
    · refine awp_skip ?_
      refine hK5 _ ?_
      refine awp_region rfl ?_
      refine n_add (i) (1) Gd.none rfl rfl (by simp only [topOf]; omega) ?_
      refine o_mv (nm .i64 ((i) + (1))) rfl ?_
      refine aops_end ?_
      refine ⟨_, _, ?lt, ⟨i + 1, (by omega), (fun k hk => by rcases Nat.lt_or_ge k i with e | e; exact hb k e; rw [show k = i by omega]; assumption), rfl, rfl⟩, ?wk⟩
      case lt => omega
      case wk => exact Wk.sub (And.intro rfl (And.intro rfl (And.intro rfl (And.intro (by first | rfl | exact congrArg (nm _) (by omega) | exact nm_int (by omega) | exact nm_int (by simp [IntKind.wrap, IntKind.bits, IntKind.signed]; omega)) (trivial))))) (trivial)
  · refine awp_exit ?_
    refine hK1 _ ?_
    refine awp_seq fun K9 hK9 => ?_
    refine awp_region rfl ?_
    refine o_as (AV.lit (.int .i64 ((-1)))) rfl ?_
    refine aops_end ?_
    refine hK9 _ ?_
    refine awp_ret ?_
    refine post_ret ⟨[(AV.lit (.int .i64 ((-1))))], And.intro (AV.le_refl _) (trivial), rfl, ?_⟩
    exact congrArg (fun z => AV.lit (.int .i64 z)) (ixP_none (d := default) (by omega) hb)

theorem c_hasFrc (l : List Frc) (hl : l.length ≤ 100) (hS : ∀ f ∈ l, f.num.size ≤ 9223372036854775807 ∧ f.den.size ≤ 9223372036854775807) : ECalls cx 102 [(AV.sl 2 (gcells cF (l))), (AV.clo 103 [])] (bp (∃ x ∈ l, (fun f => ¬ redP f) x)) := by
  refine ecalls_of_awp Tryz.func102 (c := _) rfl (Nat.le_of_ble_eq_true rfl) ?_
  show awp cx 9 _ (postF cx Tryz.f102 _) ⟨[(0, (AV.sl 2 (gcells cF (l)))), (1, (AV.clo 103 []))], []⟩
  refine awp_seq fun K0 hK0 => ?_
  refine awp_region rfl ?_
  refine o_as (AV.lit (.bool false)) rfl ?_
  refine aops_end ?_
  refine hK0 _ ?_
  refine awp_seq fun K1 hK1 => ?_
  refine awp_region rfl ?_
  refine o_mv (AV.sl 2 (gcells cF (l))) rfl ?_
  refine o_mv (AV.clo 103 []) rfl ?_
  refine o_ct (c_ixFrc (l) (by omega) (by assumption)) Gd.none Yc_tC120 rfl ?_
  refine o_geq (a := (ixP (fun f => ¬ redP f) (l))) (c := (((0 : Nat) : Int))) Gd.none rfl rfl ?_
  refine o_as (bp ((((0 : Nat) : Int)) ≤ (ixP (fun f => ¬ redP f) (l)))) rfl ?_
  refine aops_end ?_
  refine hK1 _ ?_
  refine awp_ret ?_
  refine post_ret ⟨[(bp ((((0 : Nat) : Int)) ≤ (ixP (fun f => ¬ redP f) (l))))], And.intro (AV.le_refl _) (trivial), rfl, ?_⟩
  exact bpc (ixP_nn (p := fun f => ¬ redP f))

theorem c_list (l : List Frc) (hS : ∀ f ∈ l, f.num.size ≤ 9223372036854775807 ∧ f.den.size ≤ 9223372036854775807) : ECalls cx 75 [(AV.sl 2 (gcells cF (l)))] (bp (lstP l)) := by
  refine ecalls_of_awp Tryz.func75 (c := _) rfl (Nat.le_of_ble_eq_true rfl) ?_
  show awp cx 11 _ (postF cx Tryz.f75 _) ⟨[(0, (AV.sl 2 (gcells cF (l))))], []⟩
  refine awp_seq fun K0 hK0 => ?_
  refine awp_region rfl ?_
  refine o_as (AV.lit (.bool false)) rfl ?_
  refine aops_end ?_
  refine hK0 _ ?_
  refine awp_seq fun K1 hK1 => ?_
  refine awp_region rfl ?_
  refine o_mv (AV.sl 2 (gcells cF (l))) rfl ?_
  refine g_len cF (l) cF_len Gd.none Yc_tU26 rfl ?_
  refine n_leq ((l).length) (100) Gd.none rfl rfl ?_
  refine o_mv (bp (((l).length) ≤ (100))) rfl ?_
  refine o_splitP (q := ((l).length) ≤ (100)) 6 rfl (fun h1 => ?_) (fun h1 => ?_)
  · refine o_move (AV.sl 2 (gcells cF (l))) (Gd.yes rfl rfl (decide_eq_true h1)) rfl ?_
    refine o_ct (c_hasFrc (l) (by omega) (by assumption)) (Gd.yes rfl rfl (decide_eq_true h1)) Yc_tC102 rfl ?_
    refine o_notP (q := ∃ x ∈ (l), (fun f => ¬ redP f) x) (Gd.yes rfl rfl (decide_eq_true h1)) rfl ?_
    refine o_pickT (bp (¬ (∃ x ∈ (l), (fun f => ¬ redP f) x))) Gd.none rfl (decide_eq_true h1) rfl ?_
    refine o_as (bp (¬ (∃ x ∈ (l), (fun f => ¬ redP f) x))) rfl ?_
    refine aops_end ?_
    refine hK1 _ ?_
    refine awp_ret ?_
    refine post_ret ⟨[(bp (¬ (∃ x ∈ (l), (fun f => ¬ redP f) x)))], And.intro (AV.le_refl _) (trivial), rfl, ?_⟩
    first | exact bpn (fun o => absurd o.1 (by omega)) | exact bpc ⟨fun o => (by rintro ⟨x, hx, hn⟩; exact hn (o.2 x hx)), fun o => ⟨by omega, fun x hx => Decidable.not_not.1 fun hn => o ⟨x, hx, hn⟩⟩⟩
  · refine o_skip rfl rfl (decide_eq_false h1) ?_
    refine o_skip rfl rfl (decide_eq_false h1) ?_
    refine o_skip rfl rfl (decide_eq_false h1) ?_
    refine o_pickF (AV.lit (.bool false)) Gd.none rfl (decide_eq_false h1) rfl ?_
    refine o_as (AV.lit (.bool false)) rfl ?_
    refine aops_end ?_
    refine hK1 _ ?_
    refine awp_ret ?_
    refine post_ret ⟨[(AV.lit (.bool false))], And.intro (AV.le_refl _) (trivial), rfl, ?_⟩
    first | exact bpn (fun o => absurd o.1 (by omega)) | exact bpc ⟨fun o => (by rintro ⟨x, hx, hn⟩; exact hn (o.2 x hx)), fun o => ⟨by omega, fun x hx => Decidable.not_not.1 fun hn => o ⟨x, hx, hn⟩⟩⟩

theorem c_asks (l : List Frc) (n : ByteArray) (hS : ∀ f ∈ l, f.num.size ≤ 9223372036854775807 ∧ f.den.size ≤ 9223372036854775807) (hn : n.size ≤ 9223372036854775807) : ECalls cx 70 [(AV.sl 2 (gcells cF (l))), (AV.lit (.string (n)))] (nm .i64 (askE l n)) := by
  refine ecalls_of_awp Tryz.func70 (c := _) rfl (Nat.le_of_ble_eq_true rfl) ?_
  show awp cx 10 _ (postF cx Tryz.f70 _) ⟨[(0, (AV.sl 2 (gcells cF (l)))), (1, (AV.lit (.string (n))))], []⟩
  refine awp_seq fun K0 hK0 => ?_
  refine awp_region rfl ?_
  refine o_as (nm .i64 (0)) rfl ?_
  refine aops_end ?_
  refine hK0 _ ?_
  refine awp_seq fun K1 hK1 => ?_
  refine awp_seq fun K2 hK2 => ?_
  refine awp_region rfl ?_
  refine o_mv (AV.sl 2 (gcells cF (l))) rfl ?_
  refine o_ct (c_list (l) (by assumption)) Gd.none Yc_tC75 rfl ?_
  refine o_notP (q := lstP (l)) Gd.none rfl ?_
  refine aops_end ?_
  refine hK2 _ ?_
  refine awp_condQ (q := ¬ (lstP (l))) rfl (fun h1 => ?_) (fun h1 => ?_)
  · refine awp_seq fun K3 hK3 => ?_
    refine awp_region rfl ?_
    refine o_as (nm .i64 (1)) rfl ?_
    refine aops_end ?_
    refine hK3 _ ?_
    refine awp_ret ?_
    refine post_ret ⟨[(nm .i64 (1))], And.intro (AV.le_refl _) (trivial), rfl, ?_⟩
    exact congrArg (nm .i64) (if_neg (by assumption))
  · refine awp_skip ?_
    refine hK1 _ ?_
    refine awp_seq fun K4 hK4 => ?_
    refine awp_region rfl ?_
    refine o_mv (AV.lit (.string (n))) rfl ?_
    refine o_ct (c_positive (n) (by first | assumption | decide | omega)) Gd.none Yc_tC84 rfl ?_
    refine o_as (nm .i64 (posE (n))) rfl ?_
    refine aops_end ?_
    refine hK4 _ ?_
    refine awp_ret ?_
    refine post_ret ⟨[(nm .i64 (posE (n)))], And.intro (AV.le_refl _) (trivial), rfl, ?_⟩
    exact congrArg (nm .i64) (if_pos (Decidable.not_not.1 (by assumption)))

theorem c_first (l : List Frc) (n : ByteArray) (hS : ∀ f ∈ l, f.num.size ≤ 9223372036854775807 ∧ f.den.size ≤ 9223372036854775807) (hl : lstP l) (hk : okS n = true) (hn : n.size ≤ 9223372036854775807) : ECalls cx 71 [(AV.sl 2 (gcells cF (l))), (AV.lit (.string (n)))] (.tup [.lit (.int .i64 (fstI l (numS n))), .lit (.string (fstS l (numS n)))]) := by
  refine ecalls_of_awp Tryz.func71 (c := _) rfl (Nat.le_of_ble_eq_true rfl) ?_
  show awp cx 31 _ (postF cx Tryz.f71 _) ⟨[(0, (AV.sl 2 (gcells cF (l)))), (1, (AV.lit (.string (n))))], []⟩
  refine awp_seq fun K0 hK0 => ?_
  refine awp_region rfl ?_
  refine o_as (nm .i64 (0)) rfl ?_
  refine o_as (AV.lit (.string (({data := #[]} : ByteArray)))) rfl ?_
  refine aops_end ?_
  refine hK0 _ ?_
  refine awp_seq fun K1 hK1 => ?_
  refine awp_seq fun K2 hK2 => ?_
  refine awp_region rfl ?_
  refine o_mv (AV.sl 2 (gcells cF (l))) rfl ?_
  refine g_len cF (l) cF_len Gd.none Yc_tU26 rfl ?_
  refine o_mv (nm .i64 (0)) rfl ?_
  refine aops_end ?_
  refine hK2 _ ?_
  refine awp_block ?_
  refine awp_loopR (fun κ σ => ∃ (i : Nat), (i ≤ l.length) ∧ (∀ k, k < i → ¬ hitP (numS n) (l.getD k default)) ∧ (l.length - i) = κ ∧ σ = ⟨[(1, (AV.lit (.string (n)))), (11, (AV.sl 2 (gcells cF (l)))), (12, (nm .i64 (l.length))), (13, (nm .i64 (i)))], []⟩) ⟨_, _, ⟨0, (by omega), (fun k hk => by omega), rfl, rfl⟩, ?wk0⟩ ?rd0
  case wk0 =>
    exact Wk.sub (And.intro rfl (And.intro rfl (And.intro (by first | rfl | exact congrArg (nm _) (by omega) | exact nm_int (by omega) | exact nm_int (by simp [IntKind.wrap, IntKind.bits, IntKind.signed]; omega)) (And.intro (by first | rfl | exact congrArg (nm _) (by omega) | exact nm_int (by omega) | exact nm_int (by simp [IntKind.wrap, IntKind.bits, IntKind.signed]; omega)) (trivial))))) (trivial)
  rintro κ _ ⟨i, hi, hb, rfl, rfl⟩
  have hl1 := hl.1
  refine awp_seq fun K3 hK3 => ?_
  refine awp_region rfl ?_
  refine n_lss (i) (l.length) Gd.none rfl rfl ?_
  refine aops_end ?_
  refine hK3 _ ?_
  refine awp_seq fun K4 hK4 => ?_
  refine awp_condQ (q := (i) < (l.length)) rfl (fun h1 => ?_) (fun h1 => ?_)
  · have hq := hit_str hl hk h1
    have hSi := hS _ (gdm (d := default) h1)
    have hSd := hSi.2
    refine awp_skip ?_
    refine hK4 _ ?_
    refine awp_seq fun K5 hK5 => ?_
    refine awp_block ?_
    refine awp_seq fun K6 hK6 => ?_
    refine awp_region rfl ?_
    refine o_mv (nm .i64 (i)) rfl ?_
    refine g_index cF (l) (i) cF_len rfl Gd.none Yc_tE26 rfl rfl (by omega) ?_
    refine g_loadA cF (l) (i) default cF_len Gd.none Yc_tA52 rfl (by omega) ?_
    refine o_alloc 101 [(AV.lit (.string (({data := #[]} : ByteArray)))), (AV.lit (.string (({data := #[]} : ByteArray))))] Gd.none Yc_tO52 rfl rfl rfl ?_
    refine o_as (nm .i64 (i)) rfl ?_
    refine o_store [(101, (AO.var 52 [(AV.lit (.string ((((l).getD (i) default)).num))), (AV.lit (.string ((((l).getD (i) default)).den)))]))] Gd.none Yc_tZ52 rfl rfl rfl rfl rfl rfl ?_
    refine aops_end ?_
    refine hK6 _ ?_
    refine awp_seq fun K7 hK7 => ?_
    refine awp_region rfl ?_
    refine o_mv (AV.lit (.string (n))) rfl ?_
    refine o_fieldRef 1 Gd.none Yc_tF52_1 rfl rfl ?_
    refine o_loadS (AV.lit (.string ((((l).getD (i) default)).den))) Gd.none Yc_tS9 rfl rfl rfl ?_
    refine o_ct (c_nDivide (n) ((((l).getD (i) default)).den) (by first | assumption | decide | omega) (by first | assumption | decide | omega)) Gd.none Yc_tC77 rfl ?_
    refine o_mv (AV.tup [(AV.lit (.string (divQ (n) ((((l).getD (i) default)).den)))), (AV.lit (.string (divR (n) ((((l).getD (i) default)).den)))), (nm .i64 (divE (n) ((((l).getD (i) default)).den)))]) rfl ?_
    refine o_extract (AV.lit (.string (divQ (n) ((((l).getD (i) default)).den)))) Gd.none rfl rfl ?_
    refine o_extract (AV.lit (.string (divR (n) ((((l).getD (i) default)).den)))) Gd.none rfl rfl ?_
    refine o_extract (nm .i64 (divE (n) ((((l).getD (i) default)).den))) Gd.none rfl rfl ?_
    refine o_as (AV.lit (.string (divQ (n) ((((l).getD (i) default)).den)))) rfl ?_
    refine o_as (AV.lit (.string (divR (n) ((((l).getD (i) default)).den)))) rfl ?_
    refine o_as (nm .i64 (divE (n) ((((l).getD (i) default)).den))) rfl ?_
    refine aops_end ?_
    refine hK7 _ ?_
    refine awp_seq fun K8 hK8 => ?_
    refine awp_region rfl ?_
    refine o_mv (AV.lit (.string (divR (n) ((((l).getD (i) default)).den)))) rfl ?_
    refine o_eqlS (a := (divR (n) ((((l).getD (i) default)).den))) (c := (({data := #[48]} : ByteArray))) Gd.none rfl rfl ?_
    refine aops_end ?_
    refine hK8 _ ?_
    refine awp_condQ (q := (divR (n) ((((l).getD (i) default)).den)).toList = (({data := #[48]} : ByteArray)).toList) rfl (fun h2 => ?_) (fun h2 => ?_)
    · have hx := fst_hit h1 (hq.2.1 h2) hb
      refine awp_seq fun K9 hK9 => ?_
      refine awp_region rfl ?_
      refine o_mv (nm .i64 (i)) rfl ?_
      refine o_mv (AV.lit (.string (divQ (n) ((((l).getD (i) default)).den)))) rfl ?_
      refine o_as (nm .i64 (i)) rfl ?_
      refine o_as (AV.lit (.string (divQ (n) ((((l).getD (i) default)).den)))) rfl ?_
      refine aops_end ?_
      refine hK9 _ ?_
      refine awp_ret ?_
      refine post_ret ⟨[(nm .i64 (i)), (AV.lit (.string (divQ (n) ((((l).getD (i) default)).den))))], And.intro (AV.le_refl _) (And.intro (AV.le_refl _) (trivial)), rfl, ?_⟩
      rw [hx.1, hx.2, hq.1]; rfl
    · replace h2 := fun e => h2 (hq.2.2 e)
      refine awp_skip ?_
      refine hK5 _ ?_
      refine awp_region rfl ?_
      refine n_add (i) (1) Gd.none rfl rfl (by simp only [topOf]; omega) ?_
      refine o_mv (nm .i64 ((i) + (1))) rfl ?_
      refine aops_end ?_
      refine ⟨_, _, ?lt, ⟨i + 1, (by omega), (fun k hk => by rcases Nat.lt_or_ge k i with e | e; exact hb k e; rw [show k = i by omega]; assumption), rfl, rfl⟩, ?wk⟩
      case lt => omega
      case wk => exact Wk.sub (And.intro rfl (And.intro rfl (And.intro rfl (And.intro (by first | rfl | exact congrArg (nm _) (by omega) | exact nm_int (by omega) | exact nm_int (by simp [IntKind.wrap, IntKind.bits, IntKind.signed]; omega)) (trivial))))) (trivial)
  · have hx := fst_none (by omega) hb
    refine awp_exit ?_
    refine hK1 _ ?_
    refine awp_seq fun K10 hK10 => ?_
    refine awp_region rfl ?_
    refine o_as (AV.lit (.int .i64 ((-1)))) rfl ?_
    refine o_as (AV.lit (.string (({data := #[]} : ByteArray)))) rfl ?_
    refine aops_end ?_
    refine hK10 _ ?_
    refine awp_ret ?_
    refine post_ret ⟨[(AV.lit (.int .i64 ((-1)))), (AV.lit (.string (({data := #[]} : ByteArray))))], And.intro (AV.le_refl _) (And.intro (AV.le_refl _) (trivial)), rfl, ?_⟩
    rw [hx.1, hx.2]; rfl

end Go.Proofs.YtnejjdcbbminaaaGreatDoor

set_option linter.unusedVariables false
set_option linter.unusedSimpArgs false
namespace Go.Proofs.YtnejjdcbbminaaaGreatDoor
open Go Go.Ab Go.Mth
theorem Yd_tC70 : callable cx.P 70 = true := by kernel_rfl
theorem Yd_tC71 : callable cx.P 71 = true := by kernel_rfl
theorem Yd_tE26 : tyElem cx.P 26 = some (52, 2, 32) := by kernel_rfl
theorem Yd_tF52_0 : tyField cx.P 52 0 = some (0, 9) := by kernel_rfl
theorem Yd_tS9 : tySc cx.P 9 = true := by kernel_rfl
theorem Yd_tC72 : callable cx.P 72 = true := by kernel_rfl
theorem c_Play (l : List Frc) (n : ByteArray) (k : Int) (hS : ∀ f ∈ l, f.num.size ≤ 9223372036854775807 ∧ f.den.size ≤ 9223372036854775807) (hn : n.size ≤ 9223372036854775807) : ECalls cx 26 [(AV.sl 2 (gcells cF (l))), (AV.lit (.string (n))), (AV.lit (.int .i64 (k)))] (.tup [.lit (.string (plyA l n k).1), nm .i64 (plyA l n k).2.1, nm .i64 (plyA l n k).2.2]) := by
  refine ecalls_of_awp Tryz.func26 (c := _) rfl (Nat.le_of_ble_eq_true rfl) ?_
  show awp cx 58 _ (postF cx Tryz.f26 _) ⟨[(0, (AV.sl 2 (gcells cF (l)))), (1, (AV.lit (.string (n)))), (2, (AV.lit (.int .i64 (k))))], []⟩
  refine awp_seq fun K0 hK0 => ?_
  refine awp_region rfl ?_
  refine o_as (AV.lit (.string (({data := #[]} : ByteArray)))) rfl ?_
  refine o_as (nm .i64 (0)) rfl ?_
  refine o_as (nm .i64 (0)) rfl ?_
  refine aops_end ?_
  refine hK0 _ ?_
  refine awp_seq fun K1 hK1 => ?_
  refine awp_seq fun K2 hK2 => ?_
  refine awp_region rfl ?_
  refine o_mv (AV.sl 2 (gcells cF (l))) rfl ?_
  refine o_mv (AV.lit (.string (n))) rfl ?_
  refine o_ct (c_asks (l) (n) (by assumption) (by first | assumption | decide | omega)) Gd.none Yd_tC70 rfl ?_
  refine o_as (nm .i64 (askE (l) (n))) rfl ?_
  refine aops_end ?_
  refine hK2 _ ?_
  refine awp_seq fun K3 hK3 => ?_
  refine awp_region rfl ?_
  refine o_mv (nm .i64 (askE (l) (n))) rfl ?_
  refine n_neq (askE (l) (n)) (0) Gd.none rfl rfl ?_
  refine aops_end ?_
  refine hK3 _ ?_
  refine awp_condQ (q := (askE (l) (n)) ≠ (0)) rfl (fun h1 => ?_) (fun h1 => ?_)
  · refine awp_seq fun K4 hK4 => ?_
    refine awp_region rfl ?_
    refine o_mv (nm .i64 (askE (l) (n))) rfl ?_
    refine o_as (AV.lit (.string (({data := #[]} : ByteArray)))) rfl ?_
    refine o_as (nm .i64 (0)) rfl ?_
    refine o_as (nm .i64 (askE (l) (n))) rfl ?_
    refine aops_end ?_
    refine hK4 _ ?_
    refine awp_ret ?_
    refine post_ret ⟨[(AV.lit (.string (({data := #[]} : ByteArray)))), (nm .i64 (0)), (nm .i64 (askE (l) (n)))], And.intro (AV.le_refl _) (And.intro (AV.le_refl _) (And.intro (AV.le_refl _) (trivial))), rfl, ?_⟩
    first | (rw [plyA_1 h1]; rfl) | (rw [plyA_2 hA0 (by omega)]; rfl) | (rw [hp, ply_stop (by omega) (by omega), txt_numS (okS_iff.1 ho)]; rfl) | (rw [hp, ply_big (by omega) (by omega) (tld_big h6), tld_3 (tld_big h6)]; rfl) | (rw [hp, show k.toNat - i = 0 by omega, show i = k.toNat by omega]; show AV.tup [.lit (.string (txt (numS s))), _, _] = _; rw [txt_numS (okS_iff.1 ho)]; rfl)
  · have hA0 := Decidable.not_not.1 h1
    have hA := askE_0.1 hA0
    have hA1 := hA.1
    have hA2 := hA.2.1
    refine awp_skip ?_
    refine hK1 _ ?_
    refine awp_seq fun K5 hK5 => ?_
    refine awp_seq fun K6 hK6 => ?_
    refine awp_region rfl ?_
    refine o_mv (AV.lit (.int .i64 (k))) rfl ?_
    refine o_lss (a := (k)) (c := (((0 : Nat) : Int))) Gd.none rfl rfl ?_
    refine o_mv (bp ((k) < (((0 : Nat) : Int)))) rfl ?_
    refine o_splitP (q := (k) < (((0 : Nat) : Int))) 23 rfl (fun h2 => ?_) (fun h2 => ?_)
    · refine o_skip rfl rfl (decide_eq_true h2) ?_
      refine o_skip rfl rfl (decide_eq_true h2) ?_
      refine o_pickT (AV.lit (.bool true)) Gd.none rfl (decide_eq_true h2) rfl ?_
      refine aops_end ?_
      refine hK6 _ ?_
      refine awp_condB (b := true) rfl (fun _ => ?_) (fun hh => absurd (hh.symm.trans rfl) (by decide))
      refine awp_seq fun K7 hK7 => ?_
      refine awp_region rfl ?_
      refine o_as (AV.lit (.string (({data := #[]} : ByteArray)))) rfl ?_
      refine o_as (nm .i64 (0)) rfl ?_
      refine o_as (nm .i64 (2)) rfl ?_
      refine aops_end ?_
      refine hK7 _ ?_
      refine awp_ret ?_
      refine post_ret ⟨[(AV.lit (.string (({data := #[]} : ByteArray)))), (nm .i64 (0)), (nm .i64 (2))], And.intro (AV.le_refl _) (And.intro (AV.le_refl _) (And.intro (AV.le_refl _) (trivial))), rfl, ?_⟩
      first | (rw [plyA_1 h1]; rfl) | (rw [plyA_2 hA0 (by omega)]; rfl) | (rw [hp, ply_stop (by omega) (by omega), txt_numS (okS_iff.1 ho)]; rfl) | (rw [hp, ply_big (by omega) (by omega) (tld_big h6), tld_3 (tld_big h6)]; rfl) | (rw [hp, show k.toNat - i = 0 by omega, show i = k.toNat by omega]; show AV.tup [.lit (.string (txt (numS s))), _, _] = _; rw [txt_numS (okS_iff.1 ho)]; rfl)
    · refine o_move (AV.lit (.int .i64 (k))) (Gd.yes rfl rfl (decide_eq_false h2)) rfl ?_
      refine o_gtr (a := (k)) (c := (((20000 : Nat) : Int))) (Gd.yes rfl rfl (decide_eq_false h2)) rfl rfl ?_
      refine o_pickF (bp ((((20000 : Nat) : Int)) < (k))) Gd.none rfl (decide_eq_false h2) rfl ?_
      refine aops_end ?_
      refine hK6 _ ?_
      refine awp_condQ (q := (((20000 : Nat) : Int)) < (k)) rfl (fun h3 => ?_) (fun h3 => ?_)
      · refine awp_seq fun K8 hK8 => ?_
        refine awp_region rfl ?_
        refine o_as (AV.lit (.string (({data := #[]} : ByteArray)))) rfl ?_
        refine o_as (nm .i64 (0)) rfl ?_
        refine o_as (nm .i64 (2)) rfl ?_
        refine aops_end ?_
        refine hK8 _ ?_
        refine awp_ret ?_
        refine post_ret ⟨[(AV.lit (.string (({data := #[]} : ByteArray)))), (nm .i64 (0)), (nm .i64 (2))], And.intro (AV.le_refl _) (And.intro (AV.le_refl _) (And.intro (AV.le_refl _) (trivial))), rfl, ?_⟩
        first | (rw [plyA_1 h1]; rfl) | (rw [plyA_2 hA0 (by omega)]; rfl) | (rw [hp, ply_stop (by omega) (by omega), txt_numS (okS_iff.1 ho)]; rfl) | (rw [hp, ply_big (by omega) (by omega) (tld_big h6), tld_3 (tld_big h6)]; rfl) | (rw [hp, show k.toNat - i = 0 by omega, show i = k.toNat by omega]; show AV.tup [.lit (.string (txt (numS s))), _, _] = _; rw [txt_numS (okS_iff.1 ho)]; rfl)
      · refine awp_skip ?_
        refine hK5 _ ?_
        refine awp_seq fun K9 hK9 => ?_
        refine awp_seq fun K10 hK10 => ?_
        refine awp_region rfl ?_
        refine o_mv (AV.lit (.int .i64 (k))) rfl ?_
        refine n_as (v' := (nm .i64 (k.toNat))) (nm_int (by omega)) ?_
        refine o_mv (nm .i64 (0)) rfl ?_
        refine aops_end ?_
        refine hK10 _ ?_
        refine awp_block ?_
        refine awp_loopR (fun κ σ => ∃ (i : Nat), ∃ (s : ByteArray), (i ≤ k.toNat) ∧ (plyA l n k = ply l (k.toNat - i) (numS s) i) ∧ (okS s = true) ∧ (0 < numS s) ∧ (s.size ≤ 9223372036854775807) ∧ (k.toNat - i) = κ ∧ σ = ⟨[(0, (AV.sl 2 (gcells cF (l)))), (1, (AV.lit (.string (s)))), (2, (AV.lit (.int .i64 (k)))), (27, (nm .i64 (k.toNat))), (28, (nm .i64 (i)))], []⟩) ⟨_, _, ⟨0, n, (by omega), (plyA_0 hA0 (by omega)), hA.2.1, hA.2.2, hn, rfl, rfl⟩, ?wk0⟩ ?rd0
        case wk0 =>
          exact Wk.sub (And.intro rfl (And.intro (by first | rfl | (simp)) (And.intro rfl (And.intro rfl (And.intro (by first | rfl | exact congrArg (nm _) (by omega) | exact nm_int (by omega) | exact nm_int (by simp [IntKind.wrap, IntKind.bits, IntKind.signed]; omega)) (trivial)))))) (trivial)
        rintro κ _ ⟨i, s, hi, hp, ho, hz, hs, rfl, rfl⟩
        refine awp_seq fun K11 hK11 => ?_
        refine awp_region rfl ?_
        refine n_lss (i) (k.toNat) Gd.none rfl rfl ?_
        refine aops_end ?_
        refine hK11 _ ?_
        refine awp_seq fun K12 hK12 => ?_
        refine awp_condQ (q := (i) < (k.toNat)) rfl (fun h4 => ?_) (fun h4 => ?_)
        · refine awp_skip ?_
          refine hK12 _ ?_
          refine awp_seq fun K13 hK13 => ?_
          refine awp_block ?_
          refine awp_seq fun K14 hK14 => ?_
          refine awp_region rfl ?_
          refine o_mv (nm .i64 (i)) rfl ?_
          refine o_as (nm .i64 (i)) rfl ?_
          refine aops_end ?_
          refine hK14 _ ?_
          refine awp_seq fun K15 hK15 => ?_
          refine awp_region rfl ?_
          refine o_mv (AV.sl 2 (gcells cF (l))) rfl ?_
          refine o_mv (AV.lit (.string (s))) rfl ?_
          refine o_ct (c_first (l) (s) (by assumption) (by assumption) (by assumption) (by first | assumption | decide | omega)) Gd.none Yd_tC71 rfl ?_
          refine o_mv (AV.tup [(AV.lit (.int .i64 (fstI (l) (numS (s))))), (AV.lit (.string (fstS (l) (numS (s)))))]) rfl ?_
          refine o_extract (AV.lit (.int .i64 (fstI (l) (numS (s))))) Gd.none rfl rfl ?_
          refine o_extract (AV.lit (.string (fstS (l) (numS (s))))) Gd.none rfl rfl ?_
          refine o_as (AV.lit (.int .i64 (fstI (l) (numS (s))))) rfl ?_
          refine o_as (AV.lit (.string (fstS (l) (numS (s))))) rfl ?_
          refine aops_end ?_
          refine hK15 _ ?_
          refine awp_seq fun K16 hK16 => ?_
          refine awp_seq fun K17 hK17 => ?_
          refine awp_region rfl ?_
          refine o_mv (AV.lit (.int .i64 (fstI (l) (numS (s))))) rfl ?_
          refine o_lss (a := (fstI (l) (numS (s)))) (c := (((0 : Nat) : Int))) Gd.none rfl rfl ?_
          refine aops_end ?_
          refine hK17 _ ?_
          refine awp_condQ (q := (fstI (l) (numS (s))) < (((0 : Nat) : Int))) rfl (fun h5 => ?_) (fun h5 => ?_)
          · refine awp_seq fun K18 hK18 => ?_
            refine awp_region rfl ?_
            refine o_mv (AV.lit (.string (s))) rfl ?_
            refine o_mv (nm .i64 (i)) rfl ?_
            refine o_as (AV.lit (.string (s))) rfl ?_
            refine o_as (nm .i64 (i)) rfl ?_
            refine o_as (nm .i64 (0)) rfl ?_
            refine aops_end ?_
            refine hK18 _ ?_
            refine awp_ret ?_
            refine post_ret ⟨[(AV.lit (.string (s))), (nm .i64 (i)), (nm .i64 (0))], And.intro (AV.le_refl _) (And.intro (AV.le_refl _) (And.intro (AV.le_refl _) (trivial))), rfl, ?_⟩
            first | (rw [plyA_1 h1]; rfl) | (rw [plyA_2 hA0 (by omega)]; rfl) | (rw [hp, ply_stop (by omega) (by omega), txt_numS (okS_iff.1 ho)]; rfl) | (rw [hp, ply_big (by omega) (by omega) (tld_big h6), tld_3 (tld_big h6)]; rfl) | (rw [hp, show k.toNat - i = 0 by omega, show i = k.toNat by omega]; show AV.tup [.lit (.string (txt (numS s))), _, _] = _; rw [txt_numS (okS_iff.1 ho)]; rfl)
          · have hf := fst_str hA1 (show 0 ≤ (fstI l (numS s)) by omega) hz (fit_numS (okS_iff.1 ho))
            have hd := fstI_bd (l := l) (z := numS s) (by omega)
            have hd1 := hd.1
            have hSi := (hS _ (gdm (d := default) hd1)).1
            have hr := (hA1.2 _ (gdm (d := default) hd1)).1
            have qs := txt_sz2 hf.2.1
            have hm := mul_str (a := txt (numS s / numS (l.getD (fstI l (numS s)).toNat default).den)) (b := (l.getD (fstI l (numS s)).toNat default).num) ⟨okS_iff.2 (okS_txt hf.2.1), hr.1⟩
            refine awp_skip ?_
            refine hK16 _ ?_
            refine awp_seq fun K19 hK19 => ?_
            refine awp_region rfl ?_
            refine o_mv (AV.lit (.string (fstS (l) (numS (s))))) rfl ?_
            refine n_as (v' := (AV.lit (.string (txt (numS s / numS (l.getD (fstI l (numS s)).toNat default).den))))) (by exact str_as2 hf.1) ?_
            refine o_mv (AV.sl 2 (gcells cF (l))) rfl ?_
            refine o_mv (AV.lit (.int .i64 (fstI (l) (numS (s))))) rfl ?_
            refine n_as (v' := (nm .i64 ((fstI l (numS s)).toNat))) (nm_int (by omega)) ?_
            refine g_index cF (l) ((fstI l (numS s)).toNat) cF_len rfl Gd.none Yd_tE26 rfl rfl (by omega) ?_
            refine g_field cF (l) ((fstI l (numS s)).toNat) cF_len Gd.none Yd_tF52_0 rfl (by omega) rfl ?_
            refine g_loadS cF (l) ((fstI l (numS s)).toNat) default (AV.lit (.string ((((l).getD ((fstI l (numS s)).toNat) default)).num))) cF_len Gd.none Yd_tS9 rfl (by omega) rfl ?_
            refine o_ct (c_nMul (txt (numS s / numS (l.getD (fstI l (numS s)).toNat default).den)) ((((l).getD ((fstI l (numS s)).toNat) default)).num) (by first | assumption | decide | omega) (by first | assumption | decide | omega)) Gd.none Yd_tC72 rfl ?_
            refine o_mv (AV.tup [(AV.lit (.string ((if okS (txt (numS s / numS (l.getD (fstI l (numS s)).toNat default).den)) && okS ((((l).getD ((fstI l (numS s)).toNat) default)).num) then (toldS (numS (txt (numS s / numS (l.getD (fstI l (numS s)).toNat default).den)) * numS ((((l).getD ((fstI l (numS s)).toNat) default)).num))) else (({ data := #[] } : ByteArray)))))), (nm .i64 ((if okS (txt (numS s / numS (l.getD (fstI l (numS s)).toNat default).den)) && okS ((((l).getD ((fstI l (numS s)).toNat) default)).num) then (toldE (numS (txt (numS s / numS (l.getD (fstI l (numS s)).toNat default).den)) * numS ((((l).getD ((fstI l (numS s)).toNat) default)).num))) else (1))))]) rfl ?_
            refine o_extract (AV.lit (.string ((if okS (txt (numS s / numS (l.getD (fstI l (numS s)).toNat default).den)) && okS ((((l).getD ((fstI l (numS s)).toNat) default)).num) then (toldS (numS (txt (numS s / numS (l.getD (fstI l (numS s)).toNat default).den)) * numS ((((l).getD ((fstI l (numS s)).toNat) default)).num))) else (({ data := #[] } : ByteArray)))))) Gd.none rfl rfl ?_
            refine n_as (v' := (AV.lit (.string (toldS (nxF l (numS s)))))) (by exact str_as2 (hm.1.trans (by rw [numS_txt]; rfl))) ?_
            refine o_extract (nm .i64 ((if okS (txt (numS s / numS (l.getD (fstI l (numS s)).toNat default).den)) && okS ((((l).getD ((fstI l (numS s)).toNat) default)).num) then (toldE (numS (txt (numS s / numS (l.getD (fstI l (numS s)).toNat default).den)) * numS ((((l).getD ((fstI l (numS s)).toNat) default)).num))) else (1)))) Gd.none rfl rfl ?_
            refine n_as (v' := (nm .i64 (toldE (nxF l (numS s))))) (by exact congrArg (nm _) (hm.2.trans (by rw [numS_txt]; rfl))) ?_
            refine o_as (AV.lit (.string (toldS (nxF l (numS s))))) rfl ?_
            refine o_as (nm .i64 (toldE (nxF l (numS s)))) rfl ?_
            refine aops_end ?_
            refine hK19 _ ?_
            refine awp_seq fun K20 hK20 => ?_
            refine awp_seq fun K21 hK21 => ?_
            refine awp_region rfl ?_
            refine o_mv (nm .i64 (toldE (nxF l (numS s)))) rfl ?_
            refine n_neq (toldE (nxF l (numS s))) (0) Gd.none rfl rfl ?_
            refine aops_end ?_
            refine hK21 _ ?_
            refine awp_condQ (q := (toldE (nxF l (numS s))) ≠ (0)) rfl (fun h6 => ?_) (fun h6 => ?_)
            · refine awp_seq fun K22 hK22 => ?_
              refine awp_region rfl ?_
              refine o_mv (nm .i64 (toldE (nxF l (numS s)))) rfl ?_
              refine o_as (AV.lit (.string (({data := #[]} : ByteArray)))) rfl ?_
              refine o_as (nm .i64 (0)) rfl ?_
              refine o_as (nm .i64 (toldE (nxF l (numS s)))) rfl ?_
              refine aops_end ?_
              refine hK22 _ ?_
              refine awp_ret ?_
              refine post_ret ⟨[(AV.lit (.string (({data := #[]} : ByteArray)))), (nm .i64 (0)), (nm .i64 (toldE (nxF l (numS s))))], And.intro (AV.le_refl _) (And.intro (AV.le_refl _) (And.intro (AV.le_refl _) (trivial))), rfl, ?_⟩
              first | (rw [plyA_1 h1]; rfl) | (rw [plyA_2 hA0 (by omega)]; rfl) | (rw [hp, ply_stop (by omega) (by omega), txt_numS (okS_iff.1 ho)]; rfl) | (rw [hp, ply_big (by omega) (by omega) (tld_big h6), tld_3 (tld_big h6)]; rfl) | (rw [hp, show k.toNat - i = 0 by omega, show i = k.toNat by omega]; show AV.tup [.lit (.string (txt (numS s))), _, _] = _; rw [txt_numS (okS_iff.1 ho)]; rfl)
            · have hF := tld_ok h6
              obtain ⟨w1, w2⟩ := told_fit hF
              refine awp_skip ?_
              refine hK20 _ ?_
              refine awp_region rfl ?_
              refine o_mv (AV.lit (.string (toldS (nxF l (numS s))))) rfl ?_
              refine o_as (AV.lit (.string (toldS (nxF l (numS s))))) rfl ?_
              refine aops_end ?_
              refine hK13 _ ?_
              refine awp_region rfl ?_
              refine n_add (i) (1) Gd.none rfl rfl (by simp only [topOf]; omega) ?_
              refine o_mv (nm .i64 ((i) + (1))) rfl ?_
              refine aops_end ?_
              refine ⟨_, _, ?lt, ⟨i + 1, toldS (nxF l (numS s)), (by omega), (by rw [hp, ply_next (by omega) (by omega) hF, w1, numS_txt]), (by rw [w1]; exact okS_iff.2 (okS_txt hF)), (by rw [w1, numS_txt]; exact Int.mul_pos hf.2.2 hr.2), (by rw [w1]; exact txt_sz2 hF), rfl, rfl⟩, ?wk⟩
              case lt => omega
              case wk => exact Wk.sub (And.intro rfl (And.intro (by first | rfl | (simp)) (And.intro rfl (And.intro rfl (And.intro (by first | rfl | exact congrArg (nm _) (by omega) | exact nm_int (by omega) | exact nm_int (by simp [IntKind.wrap, IntKind.bits, IntKind.signed]; omega)) (trivial)))))) (trivial)
        · refine awp_exit ?_
          refine hK9 _ ?_
          refine awp_seq fun K23 hK23 => ?_
          refine awp_region rfl ?_
          refine o_mv (AV.lit (.string (s))) rfl ?_
          refine o_mv (AV.lit (.int .i64 (k))) rfl ?_
          refine n_as (v' := (nm .i64 (k.toNat))) (nm_int (by omega)) ?_
          refine o_as (AV.lit (.string (s))) rfl ?_
          refine o_as (nm .i64 (k.toNat)) rfl ?_
          refine o_as (nm .i64 (0)) rfl ?_
          refine aops_end ?_
          refine hK23 _ ?_
          refine awp_ret ?_
          refine post_ret ⟨[(AV.lit (.string (s))), (nm .i64 (k.toNat)), (nm .i64 (0))], And.intro (AV.le_refl _) (And.intro (AV.le_refl _) (And.intro (AV.le_refl _) (trivial))), rfl, ?_⟩
          first | (rw [plyA_1 h1]; rfl) | (rw [plyA_2 hA0 (by omega)]; rfl) | (rw [hp, ply_stop (by omega) (by omega), txt_numS (okS_iff.1 ho)]; rfl) | (rw [hp, ply_big (by omega) (by omega) (tld_big h6), tld_3 (tld_big h6)]; rfl) | (rw [hp, show k.toNat - i = 0 by omega, show i = k.toNat by omega]; show AV.tup [.lit (.string (txt (numS s))), _, _] = _; rw [txt_numS (okS_iff.1 ho)]; rfl)

end Go.Proofs.YtnejjdcbbminaaaGreatDoor

set_option linter.unusedVariables false
set_option linter.unusedSimpArgs false
namespace Go.Proofs.YtnejjdcbbminaaaGreatDoor
open Go Go.Ab Go.Mth
theorem Ye_tA24 : tyAgg cx.P 24 = some 2 := by kernel_rfl
theorem Ye_tC46 : callable cx.P 46 = true := by kernel_rfl
theorem Ye_tF24_1 : tyField cx.P 24 1 = some (1, 22) := by kernel_rfl
theorem Ye_tS22 : tySc cx.P 22 = true := by kernel_rfl
theorem Ye_tU22 : cx.P.underlying 22 = some (.slice 88) := by kernel_rfl
theorem Ye_tE22 : tyElem cx.P 22 = some (88, 4, 32) := by kernel_rfl
theorem Ye_tA88 : tyAgg cx.P 88 = some 4 := by kernel_rfl
theorem Ye_tO88 : tyZero cx.P 88 = some [(Go.Value.int IntKind.i64 0), (Go.Value.int IntKind.i64 0), (Go.Value.int IntKind.i64 0), (Go.Value.int IntKind.i64 0)] := by kernel_rfl
theorem Ye_tZ88 : tySize cx.P 88 = some 4 := by kernel_rfl
theorem Ye_tC56 : callable cx.P 56 = true := by kernel_rfl
theorem Ye_tF88_1 : tyField cx.P 88 1 = some (1, 3) := by kernel_rfl
theorem Ye_tS3 : tySc cx.P 3 = true := by kernel_rfl
theorem Ye_tR89 : tyArr cx.P 89 = some (30, 3, 1) := by kernel_rfl
theorem Ye_tF88_0 : tyField cx.P 88 0 = some (0, 3) := by kernel_rfl
theorem Ye_tF88_2 : tyField cx.P 88 2 = some (2, 3) := by kernel_rfl
theorem Ye_tC58 : callable cx.P 58 = true := by kernel_rfl
theorem Ye_tC59 : callable cx.P 59 = true := by kernel_rfl
theorem Ye_tC57 : callable cx.P 57 = true := by kernel_rfl
theorem Ye_tE26 : tyElem cx.P 26 = some (52, 2, 32) := by kernel_rfl
theorem Ye_tO52 : tyZero cx.P 52 = some [(Go.Value.string {data := #[]}), (Go.Value.string {data := #[]})] := by kernel_rfl
theorem Ye_tF88_3 : tyField cx.P 88 3 = some (3, 3) := by kernel_rfl
theorem Ye_tA65 : tyAgg cx.P 65 = some 2 := by kernel_rfl
theorem Ye_tC47 : callable cx.P 47 = true := by kernel_rfl
theorem Ye_tF65_0 : tyField cx.P 65 0 = some (0, 3) := by kernel_rfl
theorem Ye_tC82 : callable cx.P 82 = true := by kernel_rfl
theorem Ye_tF65_1 : tyField cx.P 65 1 = some (1, 37) := by kernel_rfl
theorem Ye_tS37 : tySc cx.P 37 = true := by kernel_rfl
theorem Ye_tU37 : cx.P.underlying 37 = some (.slice 3) := by kernel_rfl
theorem Ye_tE37 : tyElem cx.P 37 = some (3, 1, 8) := by kernel_rfl
theorem Ye_tC83 : callable cx.P 83 = true := by kernel_rfl
theorem Ye_tC72 : callable cx.P 72 = true := by kernel_rfl
theorem c_Compile (m : Mac) : ECalls cx 13 [(macV m)] (.tup [.sl 2 (gcells cF (cmpR m)), nm .i64 (cmpE m)]) := by
  refine ecalls_of_awp Tryz.func13 (c := _) rfl (Nat.le_of_ble_eq_true rfl) ?_
  show awp cx 81 _ (postF cx Tryz.f13 _) ⟨[(0, (macV m))], []⟩
  refine awp_seq fun K0 hK0 => ?_
  refine awp_region rfl ?_
  refine o_box 2 [(AV.lit (.int .i64 (m.regs))), (AV.sl 4 (gcells cI (m.code)))] Gd.none rfl rfl ?_
  refine o_as (AV.lit (.slice none 0 0)) rfl ?_
  refine o_as (nm .i64 (0)) rfl ?_
  refine aops_end ?_
  refine hK0 _ ?_
  refine awp_seq fun K1 hK1 => ?_
  refine awp_seq fun K2 hK2 => ?_
  refine awp_region rfl ?_
  refine o_loadA [(AV.lit (.int .i64 (m.regs))), (AV.sl 4 (gcells cI (m.code)))] Gd.none Ye_tA24 rfl rfl rfl rfl rfl ?_
  refine o_ct (c_fValid m) Gd.none Ye_tC46 rfl ?_
  refine o_notP (q := okMac m) Gd.none rfl ?_
  refine aops_end ?_
  refine hK2 _ ?_
  refine awp_condQ (q := ¬ (okMac m)) rfl (fun h1 => ?_) (fun h1 => ?_)
  · refine awp_seq fun K3 hK3 => ?_
    refine awp_region rfl ?_
    refine o_as (AV.lit (.slice none 0 0)) rfl ?_
    refine o_as (nm .i64 (1)) rfl ?_
    refine aops_end ?_
    refine hK3 _ ?_
    refine awp_ret ?_
    refine post_ret ⟨[(AV.sl 2 (gcells cF ([]))), (nm .i64 (1))], And.intro (AV.le_nil' (by decide) (by first | rfl | simp [digs_zero, ns, is])) (And.intro (AV.le_refl _) (trivial)), rfl, ?_⟩
    rw [cmpR, cmpE, if_neg (by assumption), if_neg (by assumption)]; rfl
  · have hM := Decidable.not_not.1 h1
    have hM2 := hM
    obtain ⟨o1, o2, o3, o4, o5⟩ := hM2
    refine awp_skip ?_
    refine hK1 _ ?_
    refine awp_seq fun K4 hK4 => ?_
    refine awp_region rfl ?_
    refine o_as (AV.lit (.slice none 0 0)) rfl ?_
    refine aops_end ?_
    refine hK4 _ ?_
    refine awp_seq fun K5 hK5 => ?_
    refine awp_seq fun K6 hK6 => ?_
    refine awp_region rfl ?_
    refine o_fieldRef 1 Gd.none Ye_tF24_1 rfl rfl ?_
    refine o_loadS (AV.sl 4 (gcells cI (m.code))) Gd.none Ye_tS22 rfl rfl rfl ?_
    refine g_len cI (m.code) cI_len Gd.none Ye_tU22 rfl ?_
    refine o_mv (nm .i64 (0)) rfl ?_
    refine aops_end ?_
    refine hK6 _ ?_
    refine awp_block ?_
    refine awp_loopR (fun κ σ => ∃ (i : Nat), (i ≤ m.code.length) ∧ (m.code.length - i) = κ ∧ σ = ⟨[(1, (AV.ref 2 (0))), (4, (AV.row 50)), (13, (AV.sl 4 (gcells cI (m.code)))), (14, (nm .i64 (m.code.length))), (15, (nm .i64 (i)))], [(2, (AO.var 24 [(AV.lit (.int .i64 (m.regs))), (AV.sl 4 (gcells cI (m.code)))])), (50, (AO.row 52 2 (gcells cF (cmp1 m i))))]⟩) ⟨_, _, ⟨0, (by omega), rfl, rfl⟩, ?wk0⟩ ?rd0
    case wk0 =>
      exact Wk.trans (Wk.newNil (i := 4) (id := 503) (e := 52) (sz := 2) rfl rfl (by decide)) (Wk.trans (Wk.sub (σ' := ⟨[(1, (AV.ref 2 (0))), (4, (AV.row 503)), (13, (AV.sl 4 (gcells cI (m.code)))), (14, (nm .i64 ((m.code).length))), (15, (nm .i64 (0)))], [(2, (AO.var 24 [(AV.lit (.int .i64 (m.regs))), (AV.sl 4 (gcells cI (m.code)))])), (503, (AO.row 52 2 (gcells cF ([]))))]⟩) (And.intro rfl (And.intro rfl (And.intro rfl (And.intro rfl (And.intro rfl (trivial)))))) (And.intro rfl (And.intro rfl (trivial)))) (Wk.trans (Wk.ren (id := 503) (id' := 50) rfl) (Wk.sub (And.intro rfl (And.intro (by first | rfl | (simp)) (And.intro rfl (And.intro (by first | rfl | exact congrArg (nm _) (by omega) | exact nm_int (by omega) | exact nm_int (by simp [IntKind.wrap, IntKind.bits, IntKind.signed]; omega)) (And.intro (by first | rfl | exact congrArg (nm _) (by omega) | exact nm_int (by omega) | exact nm_int (by simp [IntKind.wrap, IntKind.bits, IntKind.signed]; omega)) (trivial)))))) (And.intro (by first | rfl | (exact row_gs (by first | exact cmp1_a rfl (by omega) | exact cmp1_b rfl (by omega) | rfl | (rw [show i = m.code.length by omega]; rfl)))) (And.intro (by first | rfl | exact row_ns (by simp) | (exact row_gs (by first | exact cmp1_a rfl (by omega) | exact cmp1_b rfl (by omega) | rfl | (rw [show i = m.code.length by omega]; rfl)))) (trivial))))))
    rintro κ _ ⟨i, hi, rfl, rfl⟩
    have hle := cmp1_len m i
    refine awp_seq fun K7 hK7 => ?_
    refine awp_region rfl ?_
    refine n_lss (i) (m.code.length) Gd.none rfl rfl ?_
    refine aops_end ?_
    refine hK7 _ ?_
    refine awp_seq fun K8 hK8 => ?_
    refine awp_condQ (q := (i) < (m.code.length)) rfl (fun h2 => ?_) (fun h2 => ?_)
    · have hx := o5 _ (gdm (d := default) h2)
      obtain ⟨⟨x1, x2, x3⟩, x4⟩ := hx
      unfold plc at x3 x4
      have b1 := p30_bd ((m.code).getD (i) default).reg.toNat
      have b2 := twnP_bd m ((m.code).getD (i) default).next
      have b3 := ownP_bd m ((i : Nat) : Int)
      have b4 := Nat.mul_le_mul b2 b1
      have b5 := Nat.mul_le_mul b3 b1
      have b6 := twnP_bd m ((m.code).getD (i) default).els
      refine awp_skip ?_
      refine hK8 _ ?_
      refine awp_seq fun K9 hK9 => ?_
      refine awp_block ?_
      refine awp_seq fun K10 hK10 => ?_
      refine awp_region rfl ?_
      refine o_mv (nm .i64 (i)) rfl ?_
      refine g_index cI (m.code) (i) cI_len rfl Gd.none Ye_tE22 rfl rfl (by omega) ?_
      refine g_loadA cI (m.code) (i) default cI_len Gd.none Ye_tA88 rfl (by omega) ?_
      refine o_alloc 101 [(nm .i64 (0)), (nm .i64 (0)), (nm .i64 (0)), (nm .i64 (0))] Gd.none Ye_tO88 rfl rfl rfl ?_
      refine o_as (nm .i64 (i)) rfl ?_
      refine o_store [(101, (AO.var 88 [(AV.lit (.int .i64 ((((m.code).getD (i) default)).kind))), (AV.lit (.int .i64 ((((m.code).getD (i) default)).reg))), (AV.lit (.int .i64 ((((m.code).getD (i) default)).next))), (AV.lit (.int .i64 ((((m.code).getD (i) default)).els)))])), (2, (AO.var 24 [(AV.lit (.int .i64 (m.regs))), (AV.sl 4 (gcells cI (m.code)))])), (50, (AO.row 52 2 (gcells cF (cmp1 m i))))] Gd.none Ye_tZ88 rfl rfl rfl rfl rfl rfl ?_
      refine aops_end ?_
      refine hK10 _ ?_
      refine awp_seq fun K11 hK11 => ?_
      refine awp_regionD rfl ?_
      refine o_ct c_primes Gd.none Ye_tC56 rfl ?_
      refine o_fieldRef 1 Gd.none Ye_tF88_1 rfl rfl ?_
      refine o_loadS (AV.lit (.int .i64 ((((m.code).getD (i) default)).reg))) Gd.none Ye_tS3 rfl rfl rfl ?_
      refine n_as (v' := (nm .i64 (((m.code).getD (i) default).reg.toNat))) (nm_int (by omega)) ?_
      refine n_indexAgg (P30) (((m.code).getD (i) default).reg.toNat) Gd.none Ye_tR89 Ye_tS3 rfl rfl (by rfl) (by omega) ?_
      refine o_as (nm .i64 ((P30).getD (((m.code).getD (i) default).reg.toNat) 0)) rfl ?_
      refine aops_end ⟨by kernel_rfl, ?_⟩
      refine hK11 _ ?_
      refine awp_seq fun K12 hK12 => ?_
      refine awp_seq fun K13 hK13 => ?_
      refine awp_region rfl ?_
      refine o_fieldRef 0 Gd.none Ye_tF88_0 rfl rfl ?_
      refine o_loadS (AV.lit (.int .i64 ((((m.code).getD (i) default)).kind))) Gd.none Ye_tS3 rfl rfl rfl ?_
      refine o_eql (a := ((((m.code).getD (i) default)).kind)) (c := (((0 : Nat) : Int))) Gd.none rfl rfl ?_
      refine aops_end ?_
      refine hK13 _ ?_
      refine awp_condQ (q := ((((m.code).getD (i) default)).kind) = (((0 : Nat) : Int))) rfl (fun h3 => ?_) (fun h3 => ?_)
      · refine awp_seq fun K14 hK14 => ?_
        refine awp_regionD rfl ?_
        refine o_mv (AV.row 50) rfl ?_
        refine o_loadA [(AV.lit (.int .i64 (m.regs))), (AV.sl 4 (gcells cI (m.code)))] Gd.none Ye_tA24 rfl rfl rfl rfl rfl ?_
        refine o_fieldRef 2 Gd.none Ye_tF88_2 rfl rfl ?_
        refine o_loadS (AV.lit (.int .i64 ((((m.code).getD (i) default)).next))) Gd.none Ye_tS3 rfl rfl rfl ?_
        refine o_ct (c_twin m ((((m.code).getD (i) default)).next) (by omega) (by omega) (by omega) (by omega)) Gd.none Ye_tC58 rfl ?_
        refine o_mv (nm .i64 ((P30).getD (((m.code).getD (i) default).reg.toNat) 0)) rfl ?_
        refine n_mul (twnP m ((((m.code).getD (i) default)).next)) ((P30).getD (((m.code).getD (i) default).reg.toNat) 0) Gd.none rfl rfl (by simp only [topOf]; omega) ?_
        refine o_loadA [(AV.lit (.int .i64 (m.regs))), (AV.sl 4 (gcells cI (m.code)))] Gd.none Ye_tA24 rfl rfl rfl rfl rfl ?_
        refine o_mv (nm .i64 (i)) rfl ?_
        refine o_ct (c_own m (((i : Nat) : Int)) (by omega) (by omega) (by omega) (by omega)) Gd.none Ye_tC59 rfl ?_
        refine o_ct (c_frac ((twnP m ((((m.code).getD (i) default)).next)) * ((P30).getD (((m.code).getD (i) default).reg.toNat) 0)) (ownP m (((i : Nat) : Int))) (by omega) (by omega)) Gd.none Ye_tC57 rfl ?_
        refine o_buildSlice 102 (gcells cF ([(Frc.mk (txt (((twnP m ((((m.code).getD (i) default)).next)) * ((P30).getD (((m.code).getD (i) default).reg.toNat) 0) : Nat) : Int)) (txt ((ownP m (((i : Nat) : Int)) : Nat) : Int)))])) [(0, [(AV.lit (.string (txt (((twnP m ((((m.code).getD (i) default)).next)) * ((P30).getD (((m.code).getD (i) default).reg.toNat) 0) : Nat) : Int)))), (AV.lit (.string (txt ((ownP m (((i : Nat) : Int)) : Nat) : Int))))])] Gd.none Ye_tE26 rfl Ye_tO52 rfl rfl rfl rfl rfl rfl rfl ?_
        refine g_append cF 103 (cmp1 m i) ([(Frc.mk (txt (((twnP m ((((m.code).getD (i) default)).next)) * ((P30).getD (((m.code).getD (i) default).reg.toNat) 0) : Nat) : Int)) (txt ((ownP m (((i : Nat) : Int)) : Nat) : Int)))]) [(102, (AO.row 52 2 (gcells cF ([(Frc.mk (txt (((twnP m ((((m.code).getD (i) default)).next)) * ((P30).getD (((m.code).getD (i) default).reg.toNat) 0) : Nat) : Int)) (txt ((ownP m (((i : Nat) : Int)) : Nat) : Int)))])))), (101, (AO.var 88 [(AV.lit (.int .i64 ((((m.code).getD (i) default)).kind))), (AV.lit (.int .i64 ((((m.code).getD (i) default)).reg))), (AV.lit (.int .i64 ((((m.code).getD (i) default)).next))), (AV.lit (.int .i64 ((((m.code).getD (i) default)).els)))])), (2, (AO.var 24 [(AV.lit (.int .i64 (m.regs))), (AV.sl 4 (gcells cI (m.code)))]))] cF_len rfl Gd.none Ye_tE26 Ye_tO52 rfl rfl rfl rfl rfl (by simp only [List.length_append, List.length_cons, List.length_nil]; omega) (by simp only [List.length_append, List.length_cons, List.length_nil]; omega) rfl rfl ?_
        refine o_as (AV.row 103) rfl ?_
        refine aops_end ⟨by kernel_rfl, ?_⟩
        refine hK14 _ ?_
        refine awp_exit ?_
        refine hK9 _ ?_
        refine awp_region rfl ?_
        refine n_add (i) (1) Gd.none rfl rfl (by simp only [topOf]; omega) ?_
        refine o_mv (nm .i64 ((i) + (1))) rfl ?_
        refine aops_end ?_
        refine ⟨_, _, ?lt, ⟨i + 1, (by omega), rfl, rfl⟩, ?wk⟩
        case lt => omega
        case wk => exact Wk.trans (Wk.sub (σ' := ⟨[(1, (AV.ref 2 (0))), (4, (AV.row 103)), (13, (AV.sl 4 (gcells cI (m.code)))), (14, (nm .i64 (m.code.length))), (15, (nm .i64 ((i) + (1))))], [(2, (AO.var 24 [(AV.lit (.int .i64 (m.regs))), (AV.sl 4 (gcells cI (m.code)))])), (103, (AO.row 52 2 (gcells cF ((cmp1 m i) ++ ([(Frc.mk (txt (((twnP m ((((m.code).getD (i) default)).next)) * ((P30).getD (((m.code).getD (i) default).reg.toNat) 0) : Nat) : Int)) (txt ((ownP m (((i : Nat) : Int)) : Nat) : Int)))])))))]⟩) (And.intro rfl (And.intro rfl (And.intro rfl (And.intro rfl (And.intro rfl (trivial)))))) (And.intro rfl (And.intro rfl (trivial)))) (Wk.trans (Wk.ren (id := 103) (id' := 50) rfl) (Wk.sub (And.intro rfl (And.intro (by first | rfl | (simp)) (And.intro rfl (And.intro rfl (And.intro (by first | rfl | exact congrArg (nm _) (by omega) | exact nm_int (by omega) | exact nm_int (by simp [IntKind.wrap, IntKind.bits, IntKind.signed]; omega)) (trivial)))))) (And.intro rfl (And.intro (by first | rfl | exact row_ns (by simp) | (exact row_gs (by first | exact cmp1_a rfl (by omega) | exact cmp1_b rfl (by omega) | rfl | (rw [show i = m.code.length by omega]; rfl)))) (trivial)))))
      · refine awp_skip ?_
        refine hK12 _ ?_
        refine awp_regionD rfl ?_
        refine o_mv (AV.row 50) rfl ?_
        refine o_loadA [(AV.lit (.int .i64 (m.regs))), (AV.sl 4 (gcells cI (m.code)))] Gd.none Ye_tA24 rfl rfl rfl rfl rfl ?_
        refine o_fieldRef 2 Gd.none Ye_tF88_2 rfl rfl ?_
        refine o_loadS (AV.lit (.int .i64 ((((m.code).getD (i) default)).next))) Gd.none Ye_tS3 rfl rfl rfl ?_
        refine o_ct (c_twin m ((((m.code).getD (i) default)).next) (by omega) (by omega) (by omega) (by omega)) Gd.none Ye_tC58 rfl ?_
        refine o_loadA [(AV.lit (.int .i64 (m.regs))), (AV.sl 4 (gcells cI (m.code)))] Gd.none Ye_tA24 rfl rfl rfl rfl rfl ?_
        refine o_mv (nm .i64 (i)) rfl ?_
        refine o_ct (c_own m (((i : Nat) : Int)) (by omega) (by omega) (by omega) (by omega)) Gd.none Ye_tC59 rfl ?_
        refine o_mv (nm .i64 ((P30).getD (((m.code).getD (i) default).reg.toNat) 0)) rfl ?_
        refine n_mul (ownP m (((i : Nat) : Int))) ((P30).getD (((m.code).getD (i) default).reg.toNat) 0) Gd.none rfl rfl (by simp only [topOf]; omega) ?_
        refine o_ct (c_frac (twnP m ((((m.code).getD (i) default)).next)) ((ownP m (((i : Nat) : Int))) * ((P30).getD (((m.code).getD (i) default).reg.toNat) 0)) (by omega) (by omega)) Gd.none Ye_tC57 rfl ?_
        refine o_loadA [(AV.lit (.int .i64 (m.regs))), (AV.sl 4 (gcells cI (m.code)))] Gd.none Ye_tA24 rfl rfl rfl rfl rfl ?_
        refine o_fieldRef 3 Gd.none Ye_tF88_3 rfl rfl ?_
        refine o_loadS (AV.lit (.int .i64 ((((m.code).getD (i) default)).els))) Gd.none Ye_tS3 rfl rfl rfl ?_
        refine o_ct (c_twin m ((((m.code).getD (i) default)).els) (by omega) (by omega) (by omega) (by omega)) Gd.none Ye_tC58 rfl ?_
        refine o_loadA [(AV.lit (.int .i64 (m.regs))), (AV.sl 4 (gcells cI (m.code)))] Gd.none Ye_tA24 rfl rfl rfl rfl rfl ?_
        refine o_mv (nm .i64 (i)) rfl ?_
        refine o_ct (c_own m (((i : Nat) : Int)) (by omega) (by omega) (by omega) (by omega)) Gd.none Ye_tC59 rfl ?_
        refine o_ct (c_frac (twnP m ((((m.code).getD (i) default)).els)) (ownP m (((i : Nat) : Int))) (by omega) (by omega)) Gd.none Ye_tC57 rfl ?_
        refine o_buildSlice 102 (gcells cF ([(Frc.mk (txt ((twnP m ((((m.code).getD (i) default)).next) : Nat) : Int)) (txt (((ownP m (((i : Nat) : Int))) * ((P30).getD (((m.code).getD (i) default).reg.toNat) 0) : Nat) : Int))), (Frc.mk (txt ((twnP m ((((m.code).getD (i) default)).els) : Nat) : Int)) (txt ((ownP m (((i : Nat) : Int)) : Nat) : Int)))])) [(0, [(AV.lit (.string (txt ((twnP m ((((m.code).getD (i) default)).next) : Nat) : Int)))), (AV.lit (.string (txt (((ownP m (((i : Nat) : Int))) * ((P30).getD (((m.code).getD (i) default).reg.toNat) 0) : Nat) : Int))))]), (1, [(AV.lit (.string (txt ((twnP m ((((m.code).getD (i) default)).els) : Nat) : Int)))), (AV.lit (.string (txt ((ownP m (((i : Nat) : Int)) : Nat) : Int))))])] Gd.none Ye_tE26 rfl Ye_tO52 rfl rfl rfl rfl rfl rfl rfl ?_
        refine g_append cF 103 (cmp1 m i) ([(Frc.mk (txt ((twnP m ((((m.code).getD (i) default)).next) : Nat) : Int)) (txt (((ownP m (((i : Nat) : Int))) * ((P30).getD (((m.code).getD (i) default).reg.toNat) 0) : Nat) : Int))), (Frc.mk (txt ((twnP m ((((m.code).getD (i) default)).els) : Nat) : Int)) (txt ((ownP m (((i : Nat) : Int)) : Nat) : Int)))]) [(102, (AO.row 52 2 (gcells cF ([(Frc.mk (txt ((twnP m ((((m.code).getD (i) default)).next) : Nat) : Int)) (txt (((ownP m (((i : Nat) : Int))) * ((P30).getD (((m.code).getD (i) default).reg.toNat) 0) : Nat) : Int))), (Frc.mk (txt ((twnP m ((((m.code).getD (i) default)).els) : Nat) : Int)) (txt ((ownP m (((i : Nat) : Int)) : Nat) : Int)))])))), (101, (AO.var 88 [(AV.lit (.int .i64 ((((m.code).getD (i) default)).kind))), (AV.lit (.int .i64 ((((m.code).getD (i) default)).reg))), (AV.lit (.int .i64 ((((m.code).getD (i) default)).next))), (AV.lit (.int .i64 ((((m.code).getD (i) default)).els)))])), (2, (AO.var 24 [(AV.lit (.int .i64 (m.regs))), (AV.sl 4 (gcells cI (m.code)))]))] cF_len rfl Gd.none Ye_tE26 Ye_tO52 rfl rfl rfl rfl rfl (by simp only [List.length_append, List.length_cons, List.length_nil]; omega) (by simp only [List.length_append, List.length_cons, List.length_nil]; omega) rfl rfl ?_
        refine o_as (AV.row 103) rfl ?_
        refine aops_end ⟨by kernel_rfl, ?_⟩
        refine hK9 _ ?_
        refine awp_region rfl ?_
        refine n_add (i) (1) Gd.none rfl rfl (by simp only [topOf]; omega) ?_
        refine o_mv (nm .i64 ((i) + (1))) rfl ?_
        refine aops_end ?_
        refine ⟨_, _, ?lt, ⟨i + 1, (by omega), rfl, rfl⟩, ?wk⟩
        case lt => omega
        case wk => exact Wk.trans (Wk.sub (σ' := ⟨[(1, (AV.ref 2 (0))), (4, (AV.row 103)), (13, (AV.sl 4 (gcells cI (m.code)))), (14, (nm .i64 (m.code.length))), (15, (nm .i64 ((i) + (1))))], [(2, (AO.var 24 [(AV.lit (.int .i64 (m.regs))), (AV.sl 4 (gcells cI (m.code)))])), (103, (AO.row 52 2 (gcells cF ((cmp1 m i) ++ ([(Frc.mk (txt ((twnP m ((((m.code).getD (i) default)).next) : Nat) : Int)) (txt (((ownP m (((i : Nat) : Int))) * ((P30).getD (((m.code).getD (i) default).reg.toNat) 0) : Nat) : Int))), (Frc.mk (txt ((twnP m ((((m.code).getD (i) default)).els) : Nat) : Int)) (txt ((ownP m (((i : Nat) : Int)) : Nat) : Int)))])))))]⟩) (And.intro rfl (And.intro rfl (And.intro rfl (And.intro rfl (And.intro rfl (trivial)))))) (And.intro rfl (And.intro rfl (trivial)))) (Wk.trans (Wk.ren (id := 103) (id' := 50) rfl) (Wk.sub (And.intro rfl (And.intro (by first | rfl | (simp)) (And.intro rfl (And.intro rfl (And.intro (by first | rfl | exact congrArg (nm _) (by omega) | exact nm_int (by omega) | exact nm_int (by simp [IntKind.wrap, IntKind.bits, IntKind.signed]; omega)) (trivial)))))) (And.intro rfl (And.intro (by first | rfl | exact row_ns (by simp) | (exact row_gs (by first | exact cmp1_a rfl (by omega) | exact cmp1_b rfl (by omega) | rfl | (rw [show i = m.code.length by omega]; rfl)))) (trivial)))))
    · refine awp_exit ?_
      refine hK5 _ ?_
      refine awp_seq fun K15 hK15 => ?_
      refine awp_seq fun K16 hK16 => ?_
      refine awp_region rfl ?_
      refine o_fieldRef 1 Gd.none Ye_tF24_1 rfl rfl ?_
      refine o_loadS (AV.sl 4 (gcells cI (m.code))) Gd.none Ye_tS22 rfl rfl rfl ?_
      refine g_len cI (m.code) cI_len Gd.none Ye_tU22 rfl ?_
      refine n_add ((m.code).length) (1) Gd.none rfl rfl (by simp only [topOf]; omega) ?_
      refine o_mv (nm .i64 (0)) rfl ?_
      refine aops_end ?_
      refine hK16 _ ?_
      refine awp_block ?_
      refine awp_loopR (fun κ σ => ∃ (j : Nat), (j ≤ m.code.length + 1) ∧ (m.code.length + 1 - j) = κ ∧ σ = ⟨[(1, (AV.ref 2 (0))), (4, (AV.row 50)), (65, (nm .i64 (m.code.length + 1))), (66, (nm .i64 (j)))], [(2, (AO.var 24 [(AV.lit (.int .i64 (m.regs))), (AV.sl 4 (gcells cI (m.code)))])), (50, (AO.row 52 2 (gcells cF (cmp2 m j))))]⟩) ⟨_, _, ⟨0, (by omega), rfl, rfl⟩, ?wk1⟩ ?rd1
      case wk1 =>
        exact Wk.sub (And.intro rfl (And.intro rfl (And.intro (by first | rfl | exact congrArg (nm _) (by omega) | exact nm_int (by omega) | exact nm_int (by simp [IntKind.wrap, IntKind.bits, IntKind.signed]; omega)) (And.intro (by first | rfl | exact congrArg (nm _) (by omega) | exact nm_int (by omega) | exact nm_int (by simp [IntKind.wrap, IntKind.bits, IntKind.signed]; omega)) (trivial))))) (And.intro rfl (And.intro (by first | rfl | exact row_ns (by simp) | (exact row_gs (by first | exact cmp1_a rfl (by omega) | exact cmp1_b rfl (by omega) | rfl | (rw [show i = m.code.length by omega]; rfl)))) (trivial)))
      rintro κ _ ⟨j, hj, rfl, rfl⟩
      have hle := cmp2_len m j
      refine awp_seq fun K17 hK17 => ?_
      refine awp_region rfl ?_
      refine n_lss (j) (m.code.length + 1) Gd.none rfl rfl ?_
      refine aops_end ?_
      refine hK17 _ ?_
      refine awp_seq fun K18 hK18 => ?_
      refine awp_condQ (q := (j) < (m.code.length + 1)) rfl (fun h4 => ?_) (fun h4 => ?_)
      · have b7 := ownP_bd m ((j : Nat) : Int)
        have b8 := twnP_bd m ((j : Nat) : Int)
        refine awp_skip ?_
        refine hK18 _ ?_
        refine awp_seq fun K19 hK19 => ?_
        refine awp_block ?_
        refine awp_seq fun K20 hK20 => ?_
        refine awp_region rfl ?_
        refine o_mv (nm .i64 (j)) rfl ?_
        refine o_as (nm .i64 (j)) rfl ?_
        refine aops_end ?_
        refine hK20 _ ?_
        refine awp_regionD rfl ?_
        refine o_mv (AV.row 50) rfl ?_
        refine o_loadA [(AV.lit (.int .i64 (m.regs))), (AV.sl 4 (gcells cI (m.code)))] Gd.none Ye_tA24 rfl rfl rfl rfl rfl ?_
        refine o_mv (nm .i64 (j)) rfl ?_
        refine o_ct (c_own m (((j : Nat) : Int)) (by omega) (by omega) (by omega) (by omega)) Gd.none Ye_tC59 rfl ?_
        refine o_loadA [(AV.lit (.int .i64 (m.regs))), (AV.sl 4 (gcells cI (m.code)))] Gd.none Ye_tA24 rfl rfl rfl rfl rfl ?_
        refine o_mv (nm .i64 (j)) rfl ?_
        refine o_ct (c_twin m (((j : Nat) : Int)) (by omega) (by omega) (by omega) (by omega)) Gd.none Ye_tC58 rfl ?_
        refine o_ct (c_frac (ownP m (((j : Nat) : Int))) (twnP m (((j : Nat) : Int))) (by omega) (by omega)) Gd.none Ye_tC57 rfl ?_
        refine o_buildSlice 201 (gcells cF ([(Frc.mk (txt ((ownP m (((j : Nat) : Int)) : Nat) : Int)) (txt ((twnP m (((j : Nat) : Int)) : Nat) : Int)))])) [(0, [(AV.lit (.string (txt ((ownP m (((j : Nat) : Int)) : Nat) : Int)))), (AV.lit (.string (txt ((twnP m (((j : Nat) : Int)) : Nat) : Int))))])] Gd.none Ye_tE26 rfl Ye_tO52 rfl rfl rfl rfl rfl rfl rfl ?_
        refine g_append cF 202 (cmp2 m j) ([(Frc.mk (txt ((ownP m (((j : Nat) : Int)) : Nat) : Int)) (txt ((twnP m (((j : Nat) : Int)) : Nat) : Int)))]) [(201, (AO.row 52 2 (gcells cF ([(Frc.mk (txt ((ownP m (((j : Nat) : Int)) : Nat) : Int)) (txt ((twnP m (((j : Nat) : Int)) : Nat) : Int)))])))), (2, (AO.var 24 [(AV.lit (.int .i64 (m.regs))), (AV.sl 4 (gcells cI (m.code)))]))] cF_len rfl Gd.none Ye_tE26 Ye_tO52 rfl rfl rfl rfl rfl (by simp only [List.length_append, List.length_cons, List.length_nil]; omega) (by simp only [List.length_append, List.length_cons, List.length_nil]; omega) rfl rfl ?_
        refine o_as (AV.row 202) rfl ?_
        refine aops_end ⟨by kernel_rfl, ?_⟩
        refine hK19 _ ?_
        refine awp_region rfl ?_
        refine n_add (j) (1) Gd.none rfl rfl (by simp only [topOf]; omega) ?_
        refine o_mv (nm .i64 ((j) + (1))) rfl ?_
        refine aops_end ?_
        refine ⟨_, _, ?lt, ⟨j + 1, (by omega), rfl, rfl⟩, ?wk⟩
        case lt => omega
        case wk => exact Wk.trans (Wk.sub (σ' := ⟨[(1, (AV.ref 2 (0))), (4, (AV.row 202)), (65, (nm .i64 (m.code.length + 1))), (66, (nm .i64 ((j) + (1))))], [(2, (AO.var 24 [(AV.lit (.int .i64 (m.regs))), (AV.sl 4 (gcells cI (m.code)))])), (202, (AO.row 52 2 (gcells cF ((cmp2 m j) ++ ([(Frc.mk (txt ((ownP m (((j : Nat) : Int)) : Nat) : Int)) (txt ((twnP m (((j : Nat) : Int)) : Nat) : Int)))])))))]⟩) (And.intro rfl (And.intro rfl (And.intro rfl (And.intro rfl (trivial))))) (And.intro rfl (And.intro rfl (trivial)))) (Wk.trans (Wk.ren (id := 202) (id' := 50) rfl) (Wk.sub (And.intro rfl (And.intro (by first | rfl | (simp)) (And.intro rfl (And.intro (by first | rfl | exact congrArg (nm _) (by omega) | exact nm_int (by omega) | exact nm_int (by simp [IntKind.wrap, IntKind.bits, IntKind.signed]; omega)) (trivial))))) (And.intro rfl (And.intro (by first | rfl | exact row_ns (by simp) | (exact row_gs (by first | exact cmp1_a rfl (by omega) | exact cmp1_b rfl (by omega) | rfl | (rw [show i = m.code.length by omega]; rfl)))) (trivial)))))
      · refine awp_exit ?_
        refine hK15 _ ?_
        refine awp_seq fun K21 hK21 => ?_
        refine awp_region rfl ?_
        refine o_mv (AV.row 50) rfl ?_
        refine o_as (AV.row 50) rfl ?_
        refine o_as (nm .i64 (0)) rfl ?_
        refine aops_end ?_
        refine hK21 _ ?_
        refine awp_wk (σ' := ⟨[(2, (AV.row 50)), (3, (nm .i64 (0)))], [(50, (AO.row 52 2 (gcells cF (cmp2 m j))))]⟩) (Wk.sub (And.intro rfl (And.intro rfl (trivial))) (And.intro rfl (trivial))) ?_
        refine awp_wk (σ' := ⟨[(2, (AV.sl 2 (gcells cF (cmp2 m j)))), (3, (nm .i64 (0)))], []⟩) (Wk.freeze (id := 50) (e := 52) (sz := 2) (cs := (gcells cF (cmp2 m j))) rfl) ?_
        refine awp_ret ?_
        refine post_ret ⟨[(AV.sl 2 (gcells cF (cmp2 m j))), (nm .i64 (0))], And.intro (AV.le_refl _) (And.intro (AV.le_refl _) (trivial)), rfl, ?_⟩
        rw [cmpR, cmpE, if_pos hM, if_pos hM, show m.code.length + 1 = j by omega]; rfl

theorem c_Encode (m : Mac) (c : Cfg) : ECalls cx 37 [(macV m), (cfgV c)] (.tup [.lit (.string (encS m c)), nm .i64 (encE m c)]) := by
  refine ecalls_of_awp Tryz.func37 (c := _) rfl (Nat.le_of_ble_eq_true rfl) ?_
  show awp cx 50 _ (postF cx Tryz.f37 _) ⟨[(0, (macV m)), (1, (cfgV c))], []⟩
  refine awp_seq fun K0 hK0 => ?_
  refine awp_region rfl ?_
  refine o_box 2 [(AV.lit (.int .i64 (m.regs))), (AV.sl 4 (gcells cI (m.code)))] Gd.none rfl rfl ?_
  refine o_box 3 [(AV.lit (.int .i64 (c.at'))), (AV.sl 1 (is .i64 (c.regs)))] Gd.none rfl rfl ?_
  refine o_as (AV.lit (.string (({data := #[]} : ByteArray)))) rfl ?_
  refine o_as (nm .i64 (0)) rfl ?_
  refine aops_end ?_
  refine hK0 _ ?_
  refine awp_seq fun K1 hK1 => ?_
  refine awp_seq fun K2 hK2 => ?_
  refine awp_region rfl ?_
  refine o_loadA [(AV.lit (.int .i64 (m.regs))), (AV.sl 4 (gcells cI (m.code)))] Gd.none Ye_tA24 rfl rfl rfl rfl rfl ?_
  refine o_loadA [(AV.lit (.int .i64 (c.at'))), (AV.sl 1 (is .i64 (c.regs)))] Gd.none Ye_tA65 rfl rfl rfl rfl rfl ?_
  refine o_ct (c_fFits m c) Gd.none Ye_tC47 rfl ?_
  refine o_notP (q := okCfg m c) Gd.none rfl ?_
  refine aops_end ?_
  refine hK2 _ ?_
  refine awp_condQ (q := ¬ (okCfg m c)) rfl (fun h1 => ?_) (fun h1 => ?_)
  · refine awp_seq fun K3 hK3 => ?_
    refine awp_region rfl ?_
    refine o_as (AV.lit (.string (({data := #[]} : ByteArray)))) rfl ?_
    refine o_as (nm .i64 (1)) rfl ?_
    refine aops_end ?_
    refine hK3 _ ?_
    refine awp_ret ?_
    refine post_ret ⟨[(AV.lit (.string (({data := #[]} : ByteArray)))), (nm .i64 (1))], And.intro (AV.le_refl _) (And.intro (AV.le_refl _) (trivial)), rfl, ?_⟩
    first | (rw [encS, encE, if_neg (by assumption), if_neg (by assumption)]; rfl) | (have hN : ¬ Fit (numC m c) := (by rw [hp, hdr]; intro hf; first | exact tld_big (by assumption) (fit_mul_le pp pr (fit_mul_le hz (Int.mul_pos pp pr) hf).2).1 | exact tld_big (by assumption) (fit_mul_le (Int.mul_pos hz pp) pr (by rw [Int.mul_assoc]; exact hf)).1); rw [encS, encE, if_pos hC, if_pos hC, tld_3 hN, show toldS (numC m c) = { data := #[] } from if_neg hN]; rw [tld_3 (tld_big (by assumption))]; rfl) | (have hE : numC m c = numS s := (by rw [hp, List.drop_of_length_le (by omega)]; exact Int.mul_one _); have hf := fit_numS (okS_iff.1 ho); rw [encS, encE, if_pos hC, if_pos hC, hE, (told_fit hf).1, (told_fit hf).2, txt_numS (okS_iff.1 ho)]; rfl)
  · have hC := Decidable.not_not.1 h1
    have hC2 := hC
    obtain ⟨⟨o1, o2, o3, o4, o5⟩, q1, q2, q3⟩ := hC2
    unfold plc at q1
    have b0 := ownP_bd m c.at'
    have os := txt_sz2 (fit_113 b0)
    have ow : 2 ≤ ownP m c.at' := p30_ge _ (by omega)
    refine awp_skip ?_
    refine hK1 _ ?_
    refine awp_seq fun K4 hK4 => ?_
    refine awp_region rfl ?_
    refine o_loadA [(AV.lit (.int .i64 (m.regs))), (AV.sl 4 (gcells cI (m.code)))] Gd.none Ye_tA24 rfl rfl rfl rfl rfl ?_
    refine o_fieldRef 0 Gd.none Ye_tF65_0 rfl rfl ?_
    refine o_loadS (AV.lit (.int .i64 (c.at'))) Gd.none Ye_tS3 rfl rfl rfl ?_
    refine o_ct (c_own m (c.at') (by omega) (by omega) (by omega) (by omega)) Gd.none Ye_tC59 rfl ?_
    refine o_ct (c_itoa (ownP m (c.at')) (by omega)) Gd.none Ye_tC82 rfl ?_
    refine o_as (AV.lit (.string (txt ((ownP m (c.at') : Nat) : Int)))) rfl ?_
    refine aops_end ?_
    refine hK4 _ ?_
    refine awp_seq fun K5 hK5 => ?_
    refine awp_seq fun K6 hK6 => ?_
    refine awp_region rfl ?_
    refine o_fieldRef 1 Gd.none Ye_tF65_1 rfl rfl ?_
    refine o_loadS (AV.sl 1 (is .i64 (c.regs))) Gd.none Ye_tS37 rfl rfl rfl ?_
    refine i_len (c.regs) Gd.none Ye_tU37 rfl ?_
    refine o_mv (nm .i64 (0)) rfl ?_
    refine aops_end ?_
    refine hK6 _ ?_
    refine awp_block ?_
    refine awp_loopR (fun κ σ => ∃ (i : Nat), ∃ (s : ByteArray), (i ≤ c.regs.length) ∧ (numC m c = numS s * prdZ i (c.regs.drop i)) ∧ (okS s = true) ∧ (0 < numS s) ∧ (s.size ≤ 9223372036854775807) ∧ (c.regs.length - i) = κ ∧ σ = ⟨[(6, (AV.lit (.string (s)))), (21, (AV.sl 1 (is .i64 (c.regs)))), (22, (nm .i64 (c.regs.length))), (23, (nm .i64 (i)))], []⟩) ⟨_, _, ⟨0, txt ((ownP m c.at' : Nat) : Int), (by omega), (by rw [numS_txt]; rfl), (okS_iff.2 (okS_txt (fit_113 b0))), (by rw [numS_txt]; omega), os, rfl, rfl⟩, ?wk0⟩ ?rd0
    case wk0 =>
      exact Wk.sub (And.intro (by first | rfl | (simp)) (And.intro rfl (And.intro (by first | rfl | exact congrArg (nm _) (by omega) | exact nm_int (by omega) | exact nm_int (by simp [IntKind.wrap, IntKind.bits, IntKind.signed]; omega)) (And.intro (by first | rfl | exact congrArg (nm _) (by omega) | exact nm_int (by omega) | exact nm_int (by simp [IntKind.wrap, IntKind.bits, IntKind.signed]; omega)) (trivial))))) (trivial)
    rintro κ _ ⟨i, s, hi, hp, ho, hz, hs, rfl, rfl⟩
    refine awp_seq fun K7 hK7 => ?_
    refine awp_region rfl ?_
    refine n_lss (i) (c.regs.length) Gd.none rfl rfl ?_
    refine aops_end ?_
    refine hK7 _ ?_
    refine awp_seq fun K8 hK8 => ?_
    refine awp_condQ (q := (i) < (c.regs.length)) rfl (fun h2 => ?_) (fun h2 => ?_)
    · have hr := q3 _ (gdm (d := 0) h2)
      unfold regP at hr
      have b1 := p30_bd i
      have ps := txt_sz2 (fit_113 b1)
      have hw := pow_str b1 hr
      have p2 := p30_ge i (by omega)
      have pp : 0 < (((P30.getD (i) 0 : Nat) : Int) ^ ((c.regs).getD (i) 0).toNat) := Int.pow_pos (by omega)
      have tz := told_sz (((P30.getD (i) 0 : Nat) : Int) ^ ((c.regs).getD (i) 0).toNat)
      have hdr := prd_drop (j := i) h2
      have pr := prd_pos (c.regs.drop (i + 1)) (i + 1) (by rw [List.length_drop]; omega)
      refine awp_skip ?_
      refine hK8 _ ?_
      refine awp_seq fun K9 hK9 => ?_
      refine awp_block ?_
      refine awp_seq fun K10 hK10 => ?_
      refine awp_region rfl ?_
      refine o_mv (nm .i64 (i)) rfl ?_
      refine i_index (c.regs) (i) Gd.none Ye_tE37 rfl rfl (by omega) ?_
      refine i_loadI (c.regs) (i) Gd.none Ye_tS3 rfl (by omega) ?_
      refine o_as (nm .i64 (i)) rfl ?_
      refine o_as (AV.lit (.int .i64 ((c.regs).getD (i) 0))) rfl ?_
      refine aops_end ?_
      refine hK10 _ ?_
      refine awp_seq fun K11 hK11 => ?_
      refine awp_region rfl ?_
      refine o_ct c_primes Gd.none Ye_tC56 rfl ?_
      refine o_mv (nm .i64 (i)) rfl ?_
      refine n_indexAgg (P30) (i) Gd.none Ye_tR89 Ye_tS3 rfl rfl (by rfl) (by omega) ?_
      refine o_ct (c_itoa ((P30).getD (i) 0) (by omega)) Gd.none Ye_tC82 rfl ?_
      refine o_mv (AV.lit (.int .i64 ((c.regs).getD (i) 0))) rfl ?_
      refine o_ct (c_nPower (txt (((P30).getD (i) 0 : Nat) : Int)) ((c.regs).getD (i) 0) (by first | assumption | decide | omega)) Gd.none Ye_tC83 rfl ?_
      refine o_mv (AV.tup [(AV.lit (.string (powS (txt (((P30).getD (i) 0 : Nat) : Int)) ((c.regs).getD (i) 0)))), (nm .i64 (powE (txt (((P30).getD (i) 0 : Nat) : Int)) ((c.regs).getD (i) 0)))]) rfl ?_
      refine o_extract (AV.lit (.string (powS (txt (((P30).getD (i) 0 : Nat) : Int)) ((c.regs).getD (i) 0)))) Gd.none rfl rfl ?_
      refine n_as (v' := (AV.lit (.string (toldS (((P30.getD (i) 0 : Nat) : Int) ^ ((c.regs).getD (i) 0).toNat))))) (by exact str_as2 hw.1) ?_
      refine o_extract (nm .i64 (powE (txt (((P30).getD (i) 0 : Nat) : Int)) ((c.regs).getD (i) 0))) Gd.none rfl rfl ?_
      refine n_as (v' := (nm .i64 (toldE (((P30.getD (i) 0 : Nat) : Int) ^ ((c.regs).getD (i) 0).toNat)))) (by exact congrArg (nm _) hw.2) ?_
      refine o_as (AV.lit (.string (toldS (((P30.getD (i) 0 : Nat) : Int) ^ ((c.regs).getD (i) 0).toNat)))) rfl ?_
      refine o_as (nm .i64 (toldE (((P30.getD (i) 0 : Nat) : Int) ^ ((c.regs).getD (i) 0).toNat))) rfl ?_
      refine aops_end ?_
      refine hK11 _ ?_
      refine awp_seq fun K12 hK12 => ?_
      refine awp_seq fun K13 hK13 => ?_
      refine awp_region rfl ?_
      refine o_mv (nm .i64 (toldE (((P30.getD (i) 0 : Nat) : Int) ^ ((c.regs).getD (i) 0).toNat))) rfl ?_
      refine n_eql (toldE (((P30.getD (i) 0 : Nat) : Int) ^ ((c.regs).getD (i) 0).toNat)) (0) Gd.none rfl rfl ?_
      refine aops_end ?_
      refine hK13 _ ?_
      refine awp_condQ (q := (toldE (((P30.getD (i) 0 : Nat) : Int) ^ ((c.regs).getD (i) 0).toNat)) = (0)) rfl (fun h3 => ?_) (fun h3 => ?_)
      · have hF : Fit (((P30.getD (i) 0 : Nat) : Int) ^ ((c.regs).getD (i) 0).toNat) := tld_ok (fun e => e (by assumption))
        obtain ⟨w1, w2⟩ := told_fit hF
        have hm := mul_str (a := s) (b := toldS (((P30.getD (i) 0 : Nat) : Int) ^ ((c.regs).getD (i) 0).toNat)) ⟨ho, by rw [w1]; exact okS_iff.2 (okS_txt hF)⟩
        have hn1 : numS (toldS (((P30.getD (i) 0 : Nat) : Int) ^ ((c.regs).getD (i) 0).toNat)) = (((P30.getD (i) 0 : Nat) : Int) ^ ((c.regs).getD (i) 0).toNat) := by rw [w1, numS_txt]
        refine awp_region rfl ?_
        refine o_mv (AV.lit (.string (s))) rfl ?_
        refine o_mv (AV.lit (.string (toldS (((P30.getD (i) 0 : Nat) : Int) ^ ((c.regs).getD (i) 0).toNat)))) rfl ?_
        refine o_ct (c_nMul (s) (toldS (((P30.getD (i) 0 : Nat) : Int) ^ ((c.regs).getD (i) 0).toNat)) (by first | assumption | decide | omega) (by first | assumption | decide | omega)) Gd.none Ye_tC72 rfl ?_
        refine o_mv (AV.tup [(AV.lit (.string ((if okS (s) && okS (toldS (((P30.getD (i) 0 : Nat) : Int) ^ ((c.regs).getD (i) 0).toNat)) then (toldS (numS (s) * numS (toldS (((P30.getD (i) 0 : Nat) : Int) ^ ((c.regs).getD (i) 0).toNat)))) else (({ data := #[] } : ByteArray)))))), (nm .i64 ((if okS (s) && okS (toldS (((P30.getD (i) 0 : Nat) : Int) ^ ((c.regs).getD (i) 0).toNat)) then (toldE (numS (s) * numS (toldS (((P30.getD (i) 0 : Nat) : Int) ^ ((c.regs).getD (i) 0).toNat)))) else (1))))]) rfl ?_
        refine o_extract (AV.lit (.string ((if okS (s) && okS (toldS (((P30.getD (i) 0 : Nat) : Int) ^ ((c.regs).getD (i) 0).toNat)) then (toldS (numS (s) * numS (toldS (((P30.getD (i) 0 : Nat) : Int) ^ ((c.regs).getD (i) 0).toNat)))) else (({ data := #[] } : ByteArray)))))) Gd.none rfl rfl ?_
        refine n_as (v' := (AV.lit (.string (toldS (numS s * (((P30.getD (i) 0 : Nat) : Int) ^ ((c.regs).getD (i) 0).toNat)))))) (by exact str_as2 (hm.1.trans (by rw [hn1]))) ?_
        refine o_extract (nm .i64 ((if okS (s) && okS (toldS (((P30.getD (i) 0 : Nat) : Int) ^ ((c.regs).getD (i) 0).toNat)) then (toldE (numS (s) * numS (toldS (((P30.getD (i) 0 : Nat) : Int) ^ ((c.regs).getD (i) 0).toNat)))) else (1)))) Gd.none rfl rfl ?_
        refine n_as (v' := (nm .i64 (toldE (numS s * (((P30.getD (i) 0 : Nat) : Int) ^ ((c.regs).getD (i) 0).toNat))))) (by exact congrArg (nm _) (hm.2.trans (by rw [hn1]))) ?_
        refine o_as (AV.lit (.string (toldS (numS s * (((P30.getD (i) 0 : Nat) : Int) ^ ((c.regs).getD (i) 0).toNat))))) rfl ?_
        refine o_as (nm .i64 (toldE (numS s * (((P30.getD (i) 0 : Nat) : Int) ^ ((c.regs).getD (i) 0).toNat)))) rfl ?_
        refine aops_end ?_
        refine hK12 _ ?_
        refine awp_seq fun K14 hK14 => ?_
        refine awp_region rfl ?_
        refine o_mv (nm .i64 (toldE (numS s * (((P30.getD (i) 0 : Nat) : Int) ^ ((c.regs).getD (i) 0).toNat)))) rfl ?_
        refine n_neq (toldE (numS s * (((P30.getD (i) 0 : Nat) : Int) ^ ((c.regs).getD (i) 0).toNat))) (0) Gd.none rfl rfl ?_
        refine aops_end ?_
        refine hK14 _ ?_
        refine awp_condQ (q := (toldE (numS s * (((P30.getD (i) 0 : Nat) : Int) ^ ((c.regs).getD (i) 0).toNat))) ≠ (0)) rfl (fun h4 => ?_) (fun h4 => ?_)
        · refine awp_seq fun K15 hK15 => ?_
          refine awp_region rfl ?_
          refine o_mv (nm .i64 (toldE (numS s * (((P30.getD (i) 0 : Nat) : Int) ^ ((c.regs).getD (i) 0).toNat)))) rfl ?_
          refine o_as (AV.lit (.string (({data := #[]} : ByteArray)))) rfl ?_
          refine o_as (nm .i64 (toldE (numS s * (((P30.getD (i) 0 : Nat) : Int) ^ ((c.regs).getD (i) 0).toNat)))) rfl ?_
          refine aops_end ?_
          refine hK15 _ ?_
          refine awp_ret ?_
          refine post_ret ⟨[(AV.lit (.string (({data := #[]} : ByteArray)))), (nm .i64 (toldE (numS s * (((P30.getD (i) 0 : Nat) : Int) ^ ((c.regs).getD (i) 0).toNat))))], And.intro (AV.le_refl _) (And.intro (AV.le_refl _) (trivial)), rfl, ?_⟩
          first | (rw [encS, encE, if_neg (by assumption), if_neg (by assumption)]; rfl) | (have hN : ¬ Fit (numC m c) := (by rw [hp, hdr]; intro hf; first | exact tld_big (by assumption) (fit_mul_le pp pr (fit_mul_le hz (Int.mul_pos pp pr) hf).2).1 | exact tld_big (by assumption) (fit_mul_le (Int.mul_pos hz pp) pr (by rw [Int.mul_assoc]; exact hf)).1); rw [encS, encE, if_pos hC, if_pos hC, tld_3 hN, show toldS (numC m c) = { data := #[] } from if_neg hN]; rw [tld_3 (tld_big (by assumption))]; rfl) | (have hE : numC m c = numS s := (by rw [hp, List.drop_of_length_le (by omega)]; exact Int.mul_one _); have hf := fit_numS (okS_iff.1 ho); rw [encS, encE, if_pos hC, if_pos hC, hE, (told_fit hf).1, (told_fit hf).2, txt_numS (okS_iff.1 ho)]; rfl)
        · refine awp_skip ?_
          refine hK9 _ ?_
          refine awp_region rfl ?_
          refine n_add (i) (1) Gd.none rfl rfl (by simp only [topOf]; omega) ?_
          refine o_mv (nm .i64 ((i) + (1))) rfl ?_
          refine aops_end ?_
          have hG := tld_ok (by assumption)
          obtain ⟨v1, v2⟩ := told_fit hG
          refine ⟨_, _, ?lt, ⟨i + 1, toldS (numS s * (((P30.getD (i) 0 : Nat) : Int) ^ ((c.regs).getD (i) 0).toNat)), (by omega), (by rw [hp, hdr, v1, numS_txt, Int.mul_assoc]), (by rw [v1]; exact okS_iff.2 (okS_txt hG)), (by rw [v1, numS_txt]; exact Int.mul_pos hz pp), (told_sz _), rfl, rfl⟩, ?wk⟩
          case lt => omega
          case wk => exact Wk.sub (And.intro (by first | rfl | (simp)) (And.intro rfl (And.intro rfl (And.intro (by first | rfl | exact congrArg (nm _) (by omega) | exact nm_int (by omega) | exact nm_int (by simp [IntKind.wrap, IntKind.bits, IntKind.signed]; omega)) (trivial))))) (trivial)
      · refine awp_skip ?_
        refine hK12 _ ?_
        refine awp_seq fun K16 hK16 => ?_
        refine awp_region rfl ?_
        refine o_mv (nm .i64 (toldE (((P30.getD (i) 0 : Nat) : Int) ^ ((c.regs).getD (i) 0).toNat))) rfl ?_
        refine n_neq (toldE (((P30.getD (i) 0 : Nat) : Int) ^ ((c.regs).getD (i) 0).toNat)) (0) Gd.none rfl rfl ?_
        refine aops_end ?_
        refine hK16 _ ?_
        refine awp_condB (b := decide ((toldE (((P30.getD (i) 0 : Nat) : Int) ^ ((c.regs).getD (i) 0).toNat)) ≠ (0))) rfl (fun _ => ?_) (fun hh => absurd (hh.symm.trans (decide_eq_true h3)) (by decide))
        refine awp_seq fun K17 hK17 => ?_
        refine awp_region rfl ?_
        refine o_mv (nm .i64 (toldE (((P30.getD (i) 0 : Nat) : Int) ^ ((c.regs).getD (i) 0).toNat))) rfl ?_
        refine o_as (AV.lit (.string (({data := #[]} : ByteArray)))) rfl ?_
        refine o_as (nm .i64 (toldE (((P30.getD (i) 0 : Nat) : Int) ^ ((c.regs).getD (i) 0).toNat))) rfl ?_
        refine aops_end ?_
        refine hK17 _ ?_
        refine awp_ret ?_
        refine post_ret ⟨[(AV.lit (.string (({data := #[]} : ByteArray)))), (nm .i64 (toldE (((P30.getD (i) 0 : Nat) : Int) ^ ((c.regs).getD (i) 0).toNat)))], And.intro (AV.le_refl _) (And.intro (AV.le_refl _) (trivial)), rfl, ?_⟩
        first | (rw [encS, encE, if_neg (by assumption), if_neg (by assumption)]; rfl) | (have hN : ¬ Fit (numC m c) := (by rw [hp, hdr]; intro hf; first | exact tld_big (by assumption) (fit_mul_le pp pr (fit_mul_le hz (Int.mul_pos pp pr) hf).2).1 | exact tld_big (by assumption) (fit_mul_le (Int.mul_pos hz pp) pr (by rw [Int.mul_assoc]; exact hf)).1); rw [encS, encE, if_pos hC, if_pos hC, tld_3 hN, show toldS (numC m c) = { data := #[] } from if_neg hN]; rw [tld_3 (tld_big (by assumption))]; rfl) | (have hE : numC m c = numS s := (by rw [hp, List.drop_of_length_le (by omega)]; exact Int.mul_one _); have hf := fit_numS (okS_iff.1 ho); rw [encS, encE, if_pos hC, if_pos hC, hE, (told_fit hf).1, (told_fit hf).2, txt_numS (okS_iff.1 ho)]; rfl)
    · refine awp_exit ?_
      refine hK5 _ ?_
      refine awp_seq fun K18 hK18 => ?_
      refine awp_region rfl ?_
      refine o_mv (AV.lit (.string (s))) rfl ?_
      refine o_as (AV.lit (.string (s))) rfl ?_
      refine o_as (nm .i64 (0)) rfl ?_
      refine aops_end ?_
      refine hK18 _ ?_
      refine awp_ret ?_
      refine post_ret ⟨[(AV.lit (.string (s))), (nm .i64 (0))], And.intro (AV.le_refl _) (And.intro (AV.le_refl _) (trivial)), rfl, ?_⟩
      first | (rw [encS, encE, if_neg (by assumption), if_neg (by assumption)]; rfl) | (have hN : ¬ Fit (numC m c) := (by rw [hp, hdr]; intro hf; first | exact tld_big (by assumption) (fit_mul_le pp pr (fit_mul_le hz (Int.mul_pos pp pr) hf).2).1 | exact tld_big (by assumption) (fit_mul_le (Int.mul_pos hz pp) pr (by rw [Int.mul_assoc]; exact hf)).1); rw [encS, encE, if_pos hC, if_pos hC, tld_3 hN, show toldS (numC m c) = { data := #[] } from if_neg hN]; rw [tld_3 (tld_big (by assumption))]; rfl) | (have hE : numC m c = numS s := (by rw [hp, List.drop_of_length_le (by omega)]; exact Int.mul_one _); have hf := fit_numS (okS_iff.1 ho); rw [encS, encE, if_pos hC, if_pos hC, hE, (told_fit hf).1, (told_fit hf).2, txt_numS (okS_iff.1 ho)]; rfl)

end Go.Proofs.YtnejjdcbbminaaaGreatDoor

set_option linter.unusedVariables false
set_option linter.unusedSimpArgs false
namespace Go.Proofs.YtnejjdcbbminaaaGreatDoor
open Go Go.Ab Go.Mth
theorem fieldsFrac : Tryz.prog.fieldsOf 52 = #[{ name := "Num", type := 9, offset := 0, embedded := false, tag := "", pkgPath := "", byteOffset := 0 }, { name := "Den", type := 9, offset := 1, embedded := false, tag := "", pkgPath := "", byteOffset := 16 }] := by kernel_rfl
theorem eq_api_Frac (a1 a2 b1 b2 : ByteArray) : AggEq cx.P 52 [.string a1, .string a2] [.string b1, .string b2] (decide (a1 = b1 ∧ a2 = b2)) := by
  refine ⟨by kernel_rfl, fun w => ?_⟩
  have hS : Tryz.prog.underlying 52 = some (.struct (Tryz.prog.fieldsOf 52)) := by kernel_rfl
  show (Op.equalIn 10000 52 _ _).run Tryz.prog w = _
  rw [show (10000 : Nat) = 9998 + 1 + 1 from rfl, run_equalIn_agg w (9998 + 1) _ _ _ hS (by kernel_rfl), fieldsFrac]
  have uS : Tryz.prog.underlying 9 = some .string := by kernel_rfl
  simp only [Op.eqFields, part_str uS, Sem.run_bind, Sem.run_ite, run_equalIn_string _ _ _ _ _ uS]
  by_cases h1 : a1 = b1 <;> by_cases h2 : a2 = b2 <;> simp [ba_eq, run_equalIn_string _ _ _ _ _ uS, h1, h2]
theorem fieldsInstr : Tryz.prog.fieldsOf 88 = #[{ name := "Kind", type := 3, offset := 0, embedded := false, tag := "", pkgPath := "", byteOffset := 0 }, { name := "Reg", type := 3, offset := 1, embedded := false, tag := "", pkgPath := "", byteOffset := 8 }, { name := "Next", type := 3, offset := 2, embedded := false, tag := "", pkgPath := "", byteOffset := 16 }, { name := "Else", type := 3, offset := 3, embedded := false, tag := "", pkgPath := "", byteOffset := 24 }] := by kernel_rfl
theorem eq_api_Instr (a1 a2 a3 a4 b1 b2 b3 b4 : Int) : AggEq cx.P 88 [.int .i64 a1, .int .i64 a2, .int .i64 a3, .int .i64 a4] [.int .i64 b1, .int .i64 b2, .int .i64 b3, .int .i64 b4] (decide (a1 = b1 ∧ a2 = b2 ∧ a3 = b3 ∧ a4 = b4)) := by
  refine ⟨by kernel_rfl, fun w => ?_⟩
  have hS : Tryz.prog.underlying 88 = some (.struct (Tryz.prog.fieldsOf 88)) := by kernel_rfl
  show (Op.equalIn 10000 88 _ _).run Tryz.prog w = _
  rw [show (10000 : Nat) = 9998 + 1 + 1 from rfl, run_equalIn_agg w (9998 + 1) _ _ _ hS (by kernel_rfl), fieldsInstr]
  have uS : Tryz.prog.underlying 3 = some (.int .i64) := by kernel_rfl
  simp only [Op.eqFields, part_int uS, Sem.run_bind, Sem.run_ite, run_equalIn_int _ _ _ _ _ _ _ uS]
  by_cases h1 : a1 = b1 <;> by_cases h2 : a2 = b2 <;> by_cases h3 : a3 = b3 <;> by_cases h4 : a4 = b4 <;> simp [run_equalIn_int _ _ _ _ _ _ _ uS, h1, h2, h3, h4]
end Go.Proofs.YtnejjdcbbminaaaGreatDoor

set_option linter.unusedVariables false
set_option linter.unusedSimpArgs false
namespace Go.Proofs.YtnejjdcbbminaaaGreatDoor
open Go Go.Ab Go.Mth
theorem Yf_tO24 : tyZero cx.P 24 = some [(Go.Value.int IntKind.i64 0), (Go.Value.slice none 0 0)] := by kernel_rfl
theorem Yf_tP88 : tyPlaces cx.P 88 = some (fun i => (#[(0, 1), (1, 1), (2, 1), (3, 1)] : Array (Nat × Nat))[i]?) := by kernel_rfl
theorem Yf_tO88 : tyZero cx.P 88 = some [(Go.Value.int IntKind.i64 0), (Go.Value.int IntKind.i64 0), (Go.Value.int IntKind.i64 0), (Go.Value.int IntKind.i64 0)] := by kernel_rfl
theorem Yf_tE22 : tyElem cx.P 22 = some (88, 4, 32) := by kernel_rfl
theorem Yf_tP24 : tyPlaces cx.P 24 = some (fun i => (#[(0, 1), (1, 1)] : Array (Nat × Nat))[i]?) := by kernel_rfl
theorem Yf_tZ24 : tySize cx.P 24 = some 2 := by kernel_rfl
theorem Yf_tA24 : tyAgg cx.P 24 = some 2 := by kernel_rfl
theorem Yf_tF24_0 : tyField cx.P 24 0 = some (0, 3) := by kernel_rfl
theorem Yf_tS3 : tySc cx.P 3 = true := by kernel_rfl
theorem Yf_tF24_1 : tyField cx.P 24 1 = some (1, 22) := by kernel_rfl
theorem Yf_tS22 : tySc cx.P 22 = true := by kernel_rfl
theorem Yf_tU22 : cx.P.underlying 22 = some (.slice 88) := by kernel_rfl
theorem Yf_tA88 : tyAgg cx.P 88 = some 4 := by kernel_rfl
theorem Yf_tU26 : cx.P.underlying 26 = some (.slice 52) := by kernel_rfl
theorem Yf_tE26 : tyElem cx.P 26 = some (52, 2, 32) := by kernel_rfl
theorem Yf_tA52 : tyAgg cx.P 52 = some 2 := by kernel_rfl
theorem Yf_tC60 : callable cx.P 60 = true := by kernel_rfl
theorem Yf_tC13 : callable cx.P 13 = true := by kernel_rfl
theorem Yf_tE37 : tyElem cx.P 37 = some (3, 1, 8) := by kernel_rfl
theorem Yf_tO3 : tyZero cx.P 3 = some [(Go.Value.int IntKind.i64 0)] := by kernel_rfl
theorem Yf_tP65 : tyPlaces cx.P 65 = some (fun i => (#[(0, 1), (1, 1)] : Array (Nat × Nat))[i]?) := by kernel_rfl
theorem Yf_tO65 : tyZero cx.P 65 = some [(Go.Value.int IntKind.i64 0), (Go.Value.slice none 0 0)] := by kernel_rfl
theorem Yf_tC37 : callable cx.P 37 = true := by kernel_rfl
theorem Yf_tC26 : callable cx.P 26 = true := by kernel_rfl
theorem Yf_tP52 : tyPlaces cx.P 52 = some (fun i => (#[(0, 1), (1, 1)] : Array (Nat × Nat))[i]?) := by kernel_rfl
theorem Yf_tO52 : tyZero cx.P 52 = some [(Go.Value.string {data := #[]}), (Go.Value.string {data := #[]})] := by kernel_rfl
theorem Yf_tC17 : callable cx.P 17 = true := by kernel_rfl
theorem c_adder  : ECalls cx 60 [] (macV adM) := by
  refine ecalls_of_awp Tryz.func60 (c := _) rfl (Nat.le_of_ble_eq_true rfl) ?_
  show awp cx 5 _ (postF cx Tryz.f60 _) ⟨[], []⟩
  refine awp_seq fun K0 hK0 => ?_
  refine awp_region rfl ?_
  refine o_alloc 2 [(nm .i64 (0)), (AV.lit (.slice none 0 0))] Gd.none Yf_tO24 rfl rfl rfl ?_
  refine aops_end ?_
  refine hK0 _ ?_
  refine awp_seq fun K1 hK1 => ?_
  refine awp_region rfl ?_
  refine o_build [(nm .i64 (1)), (nm .i64 (0)), (nm .i64 (1)), (nm .i64 (2))] [(0, [(nm .i64 (1))]), (2, [(nm .i64 (1))]), (3, [(nm .i64 (2))])] Gd.none Yf_tP88 Yf_tO88 rfl rfl rfl ?_
  refine o_build [(nm .i64 (0)), (nm .i64 (1)), (nm .i64 (0)), (nm .i64 (0))] [(0, [(nm .i64 (0))]), (1, [(nm .i64 (1))])] Gd.none Yf_tP88 Yf_tO88 rfl rfl rfl ?_
  refine o_buildSlice 3 (gcells cI ([(Ins.mk (((1 : Nat) : Int)) (((0 : Nat) : Int)) (((1 : Nat) : Int)) (((2 : Nat) : Int))), (Ins.mk (((0 : Nat) : Int)) (((1 : Nat) : Int)) (((0 : Nat) : Int)) (((0 : Nat) : Int)))])) [(0, [(nm .i64 (1)), (nm .i64 (0)), (nm .i64 (1)), (nm .i64 (2))]), (1, [(nm .i64 (0)), (nm .i64 (1)), (nm .i64 (0)), (nm .i64 (0))])] Gd.none Yf_tE22 rfl Yf_tO88 rfl rfl rfl rfl rfl rfl rfl ?_
  refine o_build [(nm .i64 (2)), (AV.row 3)] [(0, [(nm .i64 (2))]), (1, [(AV.row 3)])] Gd.none Yf_tP24 Yf_tO24 rfl rfl rfl ?_
  refine o_store [(3, (AO.row 88 4 (gcells cI ([(Ins.mk (((1 : Nat) : Int)) (((0 : Nat) : Int)) (((1 : Nat) : Int)) (((2 : Nat) : Int))), (Ins.mk (((0 : Nat) : Int)) (((1 : Nat) : Int)) (((0 : Nat) : Int)) (((0 : Nat) : Int)))])))), (2, (AO.var 24 [(nm .i64 (2)), (AV.row 3)]))] Gd.none Yf_tZ24 rfl rfl rfl rfl rfl rfl ?_
  refine aops_end ?_
  refine hK1 _ ?_
  refine awp_wk (σ' := ⟨[(0, (AV.ref 2 (0)))], [(2, (AO.var 24 [(nm .i64 (2)), (AV.row 3)])), (3, (AO.row 88 4 (gcells cI ([(Ins.mk (((1 : Nat) : Int)) (((0 : Nat) : Int)) (((1 : Nat) : Int)) (((2 : Nat) : Int))), (Ins.mk (((0 : Nat) : Int)) (((1 : Nat) : Int)) (((0 : Nat) : Int)) (((0 : Nat) : Int)))]))))]⟩) (Wk.sub (And.intro rfl (trivial)) (And.intro rfl (And.intro rfl (trivial)))) ?_
  refine awp_wk (σ' := ⟨[(0, (AV.ref 2 (0)))], [(2, (AO.var 24 [(nm .i64 (2)), (AV.sl 4 (gcells cI ([(Ins.mk (((1 : Nat) : Int)) (((0 : Nat) : Int)) (((1 : Nat) : Int)) (((2 : Nat) : Int))), (Ins.mk (((0 : Nat) : Int)) (((1 : Nat) : Int)) (((0 : Nat) : Int)) (((0 : Nat) : Int)))])))]))]⟩) (Wk.freeze (id := 3) (e := 88) (sz := 4) (cs := (gcells cI ([(Ins.mk (((1 : Nat) : Int)) (((0 : Nat) : Int)) (((1 : Nat) : Int)) (((2 : Nat) : Int))), (Ins.mk (((0 : Nat) : Int)) (((1 : Nat) : Int)) (((0 : Nat) : Int)) (((0 : Nat) : Int)))]))) rfl) ?_
  refine awp_ret ?_
  refine post_ret ⟨[(AV.agg [(nm .i64 (2)), (AV.sl 4 (gcells cI ([(Ins.mk (((1 : Nat) : Int)) (((0 : Nat) : Int)) (((1 : Nat) : Int)) (((2 : Nat) : Int))), (Ins.mk (((0 : Nat) : Int)) (((1 : Nat) : Int)) (((0 : Nat) : Int)) (((0 : Nat) : Int)))])))])], And.intro ⟨2, (AO.var 24 [(nm .i64 (2)), (AV.sl 4 (gcells cI ([(Ins.mk (((1 : Nat) : Int)) (((0 : Nat) : Int)) (((1 : Nat) : Int)) (((2 : Nat) : Int))), (Ins.mk (((0 : Nat) : Int)) (((1 : Nat) : Int)) (((0 : Nat) : Int)) (((0 : Nat) : Int)))])))]), rfl, rfl, rfl, Or.inl ⟨Yf_tA24, AV.le_refl _⟩⟩ (trivial), rfl, ?_⟩
  rfl

theorem c_vTwinMac (m : Mac) (hb : m.code.length ≤ 4398046511104) : ECalls cx 12 [(macV m)] (macV m) := by
  refine ecalls_of_awp Tryz.func12 (c := _) rfl (Nat.le_of_ble_eq_true rfl) ?_
  show awp cx 10 _ (postF cx Tryz.f12 _) ⟨[(0, (macV m))], []⟩
  refine awp_seq fun K0 hK0 => ?_
  refine awp_region rfl ?_
  refine o_box 2 [(AV.lit (.int .i64 (m.regs))), (AV.sl 4 (gcells cI (m.code)))] Gd.none rfl rfl ?_
  refine o_alloc 3 [(nm .i64 (0)), (AV.lit (.slice none 0 0))] Gd.none Yf_tO24 rfl rfl rfl ?_
  refine aops_end ?_
  refine hK0 _ ?_
  refine awp_seq fun K1 hK1 => ?_
  refine awp_regionD rfl ?_
  refine o_fieldRef 0 Gd.none Yf_tF24_0 rfl rfl ?_
  refine o_loadS (AV.lit (.int .i64 (m.regs))) Gd.none Yf_tS3 rfl rfl rfl ?_
  refine o_buildSlice 4 (gcells cI ([])) [] Gd.none Yf_tE22 rfl Yf_tO88 rfl rfl rfl rfl rfl rfl rfl ?_
  refine o_fieldRef 1 Gd.none Yf_tF24_1 rfl rfl ?_
  refine o_loadS (AV.sl 4 (gcells cI (m.code))) Gd.none Yf_tS22 rfl rfl rfl ?_
  refine g_appendSl cI 5 ([]) (m.code) [(3, (AO.var 24 [(nm .i64 (0)), (AV.lit (.slice none 0 0))])), (2, (AO.var 24 [(AV.lit (.int .i64 (m.regs))), (AV.sl 4 (gcells cI (m.code)))]))] cI_len rfl Gd.none Yf_tE22 Yf_tO88 rfl rfl rfl rfl (by simp only [List.length_append, List.length_cons, List.length_nil]; omega) (by simp only [List.length_append, List.length_cons, List.length_nil]; omega) rfl rfl ?_
  refine o_build [(AV.lit (.int .i64 (m.regs))), (AV.row 5)] [(0, [(AV.lit (.int .i64 (m.regs)))]), (1, [(AV.row 5)])] Gd.none Yf_tP24 Yf_tO24 rfl rfl rfl ?_
  refine o_store [(5, (AO.row 88 4 (gcells cI (([]) ++ (m.code))))), (3, (AO.var 24 [(AV.lit (.int .i64 (m.regs))), (AV.row 5)])), (2, (AO.var 24 [(AV.lit (.int .i64 (m.regs))), (AV.sl 4 (gcells cI (m.code)))]))] Gd.none Yf_tZ24 rfl rfl rfl rfl rfl rfl ?_
  refine aops_end ⟨by kernel_rfl, ?_⟩
  refine hK1 _ ?_
  refine awp_wk (σ' := ⟨[(2, (AV.ref 3 (0)))], [(3, (AO.var 24 [(AV.lit (.int .i64 (m.regs))), (AV.row 5)])), (5, (AO.row 88 4 (gcells cI (([]) ++ (m.code)))))]⟩) (Wk.sub (And.intro rfl (trivial)) (And.intro rfl (And.intro rfl (trivial)))) ?_
  refine awp_wk (σ' := ⟨[(2, (AV.ref 3 (0)))], [(3, (AO.var 24 [(AV.lit (.int .i64 (m.regs))), (AV.sl 4 (gcells cI (([]) ++ (m.code))))]))]⟩) (Wk.freeze (id := 5) (e := 88) (sz := 4) (cs := (gcells cI (([]) ++ (m.code)))) rfl) ?_
  refine awp_ret ?_
  refine post_ret ⟨[(AV.agg [(AV.lit (.int .i64 (m.regs))), (AV.sl 4 (gcells cI (([]) ++ (m.code))))])], And.intro ⟨3, (AO.var 24 [(AV.lit (.int .i64 (m.regs))), (AV.sl 4 (gcells cI (([]) ++ (m.code))))]), rfl, rfl, rfl, Or.inl ⟨Yf_tA24, AV.le_refl _⟩⟩ (trivial), rfl, ?_⟩
  rfl

theorem c_vSameMac (m : Mac) (hb : m.code.length ≤ 4398046511104) : ECalls cx 15 [(macV m), (macV m)] (.lit (.bool true)) := by
  refine ecalls_of_awp Tryz.func15 (c := _) rfl (Nat.le_of_ble_eq_true rfl) ?_
  show awp cx 38 _ (postF cx Tryz.f15 _) ⟨[(0, (macV m)), (1, (macV m))], []⟩
  refine awp_seq fun K0 hK0 => ?_
  refine awp_region rfl ?_
  refine o_box 2 [(AV.lit (.int .i64 (m.regs))), (AV.sl 4 (gcells cI (m.code)))] Gd.none rfl rfl ?_
  refine o_box 3 [(AV.lit (.int .i64 (m.regs))), (AV.sl 4 (gcells cI (m.code)))] Gd.none rfl rfl ?_
  refine o_as (AV.lit (.bool false)) rfl ?_
  refine aops_end ?_
  refine hK0 _ ?_
  refine awp_seq fun K1 hK1 => ?_
  refine awp_seq fun K2 hK2 => ?_
  refine awp_region rfl ?_
  refine o_fieldRef 0 Gd.none Yf_tF24_0 rfl rfl ?_
  refine o_loadS (AV.lit (.int .i64 (m.regs))) Gd.none Yf_tS3 rfl rfl rfl ?_
  refine o_fieldRef 0 Gd.none Yf_tF24_0 rfl rfl ?_
  refine o_loadS (AV.lit (.int .i64 (m.regs))) Gd.none Yf_tS3 rfl rfl rfl ?_
  refine o_neq (a := (m.regs)) (c := (m.regs)) Gd.none rfl rfl ?_
  refine o_mv (bp ((m.regs) ≠ (m.regs))) rfl ?_
  refine o_fieldRef 1 (Gd.yes rfl rfl (decide_eq_false (fun h => h rfl))) Yf_tF24_1 rfl rfl ?_
  refine o_loadS (AV.sl 4 (gcells cI (m.code))) (Gd.yes rfl rfl (decide_eq_false (fun h => h rfl))) Yf_tS22 rfl rfl rfl ?_
  refine g_len cI (m.code) cI_len (Gd.yes rfl rfl (decide_eq_false (fun h => h rfl))) Yf_tU22 rfl ?_
  refine o_fieldRef 1 (Gd.yes rfl rfl (decide_eq_false (fun h => h rfl))) Yf_tF24_1 rfl rfl ?_
  refine o_loadS (AV.sl 4 (gcells cI (m.code))) (Gd.yes rfl rfl (decide_eq_false (fun h => h rfl))) Yf_tS22 rfl rfl rfl ?_
  refine g_len cI (m.code) cI_len (Gd.yes rfl rfl (decide_eq_false (fun h => h rfl))) Yf_tU22 rfl ?_
  refine n_neq ((m.code).length) ((m.code).length) (Gd.yes rfl rfl (decide_eq_false (fun h => h rfl))) rfl rfl ?_
  refine o_pickF (bp (((m.code).length) ≠ ((m.code).length))) Gd.none rfl (decide_eq_false (fun h => h rfl)) rfl ?_
  refine aops_end ?_
  refine hK2 _ ?_
  refine awp_condB (b := decide (((m.code).length) ≠ ((m.code).length))) rfl (fun hh => absurd (hh.symm.trans (decide_eq_false (fun h => h rfl))) (by decide)) (fun _ => ?_)
  refine awp_skip ?_
  refine hK1 _ ?_
  refine awp_seq fun K3 hK3 => ?_
  refine awp_seq fun K4 hK4 => ?_
  refine awp_region rfl ?_
  refine o_as (nm .i64 (0)) rfl ?_
  refine aops_end ?_
  refine hK4 _ ?_
  refine awp_block ?_
  refine awp_loopR (fun κ σ => ∃ (i : Nat), (i ≤ m.code.length) ∧ (m.code.length - i) = κ ∧ σ = ⟨[(2, (AV.ref 2 (0))), (3, (AV.ref 3 (0))), (5, (nm .i64 (i)))], [(2, (AO.var 24 [(AV.lit (.int .i64 (m.regs))), (AV.sl 4 (gcells cI (m.code)))])), (3, (AO.var 24 [(AV.lit (.int .i64 (m.regs))), (AV.sl 4 (gcells cI (m.code)))]))]⟩) ⟨_, _, ⟨0, (by omega), rfl, rfl⟩, ?wk0⟩ ?rd0
  case wk0 =>
    exact Wk.sub (And.intro rfl (And.intro rfl (And.intro (by first | rfl | exact congrArg (nm _) (by omega) | exact nm_int (by omega) | exact nm_int (by simp [IntKind.wrap, IntKind.bits, IntKind.signed]; omega)) (trivial)))) (And.intro rfl (And.intro rfl (trivial)))
  rintro κ _ ⟨i, hi, rfl, rfl⟩
  refine awp_seq fun K5 hK5 => ?_
  refine awp_seq fun K6 hK6 => ?_
  refine awp_region rfl ?_
  refine o_mv (nm .i64 (i)) rfl ?_
  refine o_fieldRef 1 Gd.none Yf_tF24_1 rfl rfl ?_
  refine o_loadS (AV.sl 4 (gcells cI (m.code))) Gd.none Yf_tS22 rfl rfl rfl ?_
  refine g_len cI (m.code) cI_len Gd.none Yf_tU22 rfl ?_
  refine n_lss (i) ((m.code).length) Gd.none rfl rfl ?_
  refine aops_end ?_
  refine hK6 _ ?_
  refine awp_condQ (q := (i) < ((m.code).length)) rfl (fun h1 => ?_) (fun h1 => ?_)
  · refine awp_skip ?_
    refine hK5 _ ?_
    refine awp_seq fun K7 hK7 => ?_
    refine awp_block ?_
    refine awp_seq fun K8 hK8 => ?_
    refine awp_regionD rfl ?_
    refine o_fieldRef 1 Gd.none Yf_tF24_1 rfl rfl ?_
    refine o_loadS (AV.sl 4 (gcells cI (m.code))) Gd.none Yf_tS22 rfl rfl rfl ?_
    refine o_mv (nm .i64 (i)) rfl ?_
    refine g_index cI (m.code) (i) cI_len rfl Gd.none Yf_tE22 rfl rfl (by omega) ?_
    refine g_loadA cI (m.code) (i) default cI_len Gd.none Yf_tA88 rfl (by omega) ?_
    refine o_fieldRef 1 Gd.none Yf_tF24_1 rfl rfl ?_
    refine o_loadS (AV.sl 4 (gcells cI (m.code))) Gd.none Yf_tS22 rfl rfl rfl ?_
    refine o_mv (nm .i64 (i)) rfl ?_
    refine g_index cI (m.code) (i) cI_len rfl Gd.none Yf_tE22 rfl rfl (by omega) ?_
    refine g_loadA cI (m.code) (i) default cI_len Gd.none Yf_tA88 rfl (by omega) ?_
    refine o_neqA [.int .i64 ((((m.code).getD (i) default)).kind), .int .i64 ((((m.code).getD (i) default)).reg), .int .i64 ((((m.code).getD (i) default)).next), .int .i64 ((((m.code).getD (i) default)).els)] [.int .i64 ((((m.code).getD (i) default)).kind), .int .i64 ((((m.code).getD (i) default)).reg), .int .i64 ((((m.code).getD (i) default)).next), .int .i64 ((((m.code).getD (i) default)).els)] (((((m.code).getD (i) default)).kind) = ((((m.code).getD (i) default)).kind) ∧ ((((m.code).getD (i) default)).reg) = ((((m.code).getD (i) default)).reg) ∧ ((((m.code).getD (i) default)).next) = ((((m.code).getD (i) default)).next) ∧ ((((m.code).getD (i) default)).els) = ((((m.code).getD (i) default)).els)) Gd.none rfl rfl (eq_api_Instr _ _ _ _ _ _ _ _) ?_
    refine aops_end ⟨by kernel_rfl, ?_⟩
    refine hK8 _ ?_
    refine awp_condB (b := decide (¬ (((((m.code).getD (i) default)).kind) = ((((m.code).getD (i) default)).kind) ∧ ((((m.code).getD (i) default)).reg) = ((((m.code).getD (i) default)).reg) ∧ ((((m.code).getD (i) default)).next) = ((((m.code).getD (i) default)).next) ∧ ((((m.code).getD (i) default)).els) = ((((m.code).getD (i) default)).els)))) rfl (fun hh => absurd (hh.symm.trans (decide_eq_false (fun h => h ⟨rfl, rfl, rfl, rfl⟩))) (by decide)) (fun _ => ?_)
    refine awp_skip ?_
    refine hK7 _ ?_
    refine awp_region rfl ?_
    refine o_mv (nm .i64 (i)) rfl ?_
    refine n_add (i) (1) Gd.none rfl rfl (by simp only [topOf]; omega) ?_
    refine o_as (nm .i64 ((i) + (1))) rfl ?_
    refine aops_end ?_
    refine ⟨_, _, ?lt, ⟨i + 1, (by omega), rfl, rfl⟩, ?wk⟩
    case lt => omega
    case wk => exact Wk.sub (And.intro rfl (And.intro rfl (And.intro (by first | rfl | exact congrArg (nm _) (by omega) | exact nm_int (by omega) | exact nm_int (by simp [IntKind.wrap, IntKind.bits, IntKind.signed]; omega)) (trivial)))) (And.intro rfl (And.intro rfl (trivial)))
  · refine awp_exit ?_
    refine hK3 _ ?_
    refine awp_seq fun K9 hK9 => ?_
    refine awp_region rfl ?_
    refine o_as (AV.lit (.bool true)) rfl ?_
    refine aops_end ?_
    refine hK9 _ ?_
    refine awp_ret ?_
    refine post_ret ⟨[(AV.lit (.bool true))], And.intro (AV.le_refl _) (trivial), rfl, ?_⟩
    rfl

theorem c_vSameList (l : List Frc) (hb : l.length ≤ 4398046511104) : ECalls cx 17 [(AV.sl 2 (gcells cF (l))), (AV.sl 2 (gcells cF (l)))] (.lit (.bool true)) := by
  refine ecalls_of_awp Tryz.func17 (c := _) rfl (Nat.le_of_ble_eq_true rfl) ?_
  show awp cx 26 _ (postF cx Tryz.f17 _) ⟨[(0, (AV.sl 2 (gcells cF (l)))), (1, (AV.sl 2 (gcells cF (l))))], []⟩
  refine awp_seq fun K0 hK0 => ?_
  refine awp_region rfl ?_
  refine o_as (AV.lit (.bool false)) rfl ?_
  refine aops_end ?_
  refine hK0 _ ?_
  refine awp_seq fun K1 hK1 => ?_
  refine awp_seq fun K2 hK2 => ?_
  refine awp_region rfl ?_
  refine o_mv (AV.sl 2 (gcells cF (l))) rfl ?_
  refine g_len cF (l) cF_len Gd.none Yf_tU26 rfl ?_
  refine o_mv (AV.sl 2 (gcells cF (l))) rfl ?_
  refine g_len cF (l) cF_len Gd.none Yf_tU26 rfl ?_
  refine n_neq ((l).length) ((l).length) Gd.none rfl rfl ?_
  refine aops_end ?_
  refine hK2 _ ?_
  refine awp_condB (b := decide (((l).length) ≠ ((l).length))) rfl (fun hh => absurd (hh.symm.trans (decide_eq_false (fun h => h rfl))) (by decide)) (fun _ => ?_)
  refine awp_skip ?_
  refine hK1 _ ?_
  refine awp_seq fun K3 hK3 => ?_
  refine awp_seq fun K4 hK4 => ?_
  refine awp_region rfl ?_
  refine o_as (nm .i64 (0)) rfl ?_
  refine aops_end ?_
  refine hK4 _ ?_
  refine awp_block ?_
  refine awp_loopR (fun κ σ => ∃ (i : Nat), (i ≤ l.length) ∧ (l.length - i) = κ ∧ σ = ⟨[(0, (AV.sl 2 (gcells cF (l)))), (1, (AV.sl 2 (gcells cF (l)))), (5, (nm .i64 (i)))], []⟩) ⟨_, _, ⟨0, (by omega), rfl, rfl⟩, ?wk0⟩ ?rd0
  case wk0 =>
    exact Wk.sub (And.intro rfl (And.intro rfl (And.intro (by first | rfl | exact congrArg (nm _) (by omega) | exact nm_int (by omega) | exact nm_int (by simp [IntKind.wrap, IntKind.bits, IntKind.signed]; omega)) (trivial)))) (trivial)
  rintro κ _ ⟨i, hi, rfl, rfl⟩
  refine awp_seq fun K5 hK5 => ?_
  refine awp_seq fun K6 hK6 => ?_
  refine awp_region rfl ?_
  refine o_mv (nm .i64 (i)) rfl ?_
  refine o_mv (AV.sl 2 (gcells cF (l))) rfl ?_
  refine g_len cF (l) cF_len Gd.none Yf_tU26 rfl ?_
  refine n_lss (i) ((l).length) Gd.none rfl rfl ?_
  refine aops_end ?_
  refine hK6 _ ?_
  refine awp_condQ (q := (i) < ((l).length)) rfl (fun h1 => ?_) (fun h1 => ?_)
  · refine awp_skip ?_
    refine hK5 _ ?_
    refine awp_seq fun K7 hK7 => ?_
    refine awp_block ?_
    refine awp_seq fun K8 hK8 => ?_
    refine awp_regionD rfl ?_
    refine o_mv (AV.sl 2 (gcells cF (l))) rfl ?_
    refine o_mv (nm .i64 (i)) rfl ?_
    refine g_index cF (l) (i) cF_len rfl Gd.none Yf_tE26 rfl rfl (by omega) ?_
    refine g_loadA cF (l) (i) default cF_len Gd.none Yf_tA52 rfl (by omega) ?_
    refine o_mv (AV.sl 2 (gcells cF (l))) rfl ?_
    refine o_mv (nm .i64 (i)) rfl ?_
    refine g_index cF (l) (i) cF_len rfl Gd.none Yf_tE26 rfl rfl (by omega) ?_
    refine g_loadA cF (l) (i) default cF_len Gd.none Yf_tA52 rfl (by omega) ?_
    refine o_neqA [.string ((((l).getD (i) default)).num), .string ((((l).getD (i) default)).den)] [.string ((((l).getD (i) default)).num), .string ((((l).getD (i) default)).den)] (((((l).getD (i) default)).num) = ((((l).getD (i) default)).num) ∧ ((((l).getD (i) default)).den) = ((((l).getD (i) default)).den)) Gd.none rfl rfl (eq_api_Frac _ _ _ _) ?_
    refine aops_end ⟨by kernel_rfl, ?_⟩
    refine hK8 _ ?_
    refine awp_condB (b := decide (¬ (((((l).getD (i) default)).num) = ((((l).getD (i) default)).num) ∧ ((((l).getD (i) default)).den) = ((((l).getD (i) default)).den)))) rfl (fun hh => absurd (hh.symm.trans (decide_eq_false (fun h => h ⟨rfl, rfl⟩))) (by decide)) (fun _ => ?_)
    refine awp_skip ?_
    refine hK7 _ ?_
    refine awp_region rfl ?_
    refine o_mv (nm .i64 (i)) rfl ?_
    refine n_add (i) (1) Gd.none rfl rfl (by simp only [topOf]; omega) ?_
    refine o_as (nm .i64 ((i) + (1))) rfl ?_
    refine aops_end ?_
    refine ⟨_, _, ?lt, ⟨i + 1, (by omega), rfl, rfl⟩, ?wk⟩
    case lt => omega
    case wk => exact Wk.sub (And.intro rfl (And.intro rfl (And.intro (by first | rfl | exact congrArg (nm _) (by omega) | exact nm_int (by omega) | exact nm_int (by simp [IntKind.wrap, IntKind.bits, IntKind.signed]; omega)) (trivial)))) (trivial)
  · refine awp_exit ?_
    refine hK3 _ ?_
    refine awp_seq fun K9 hK9 => ?_
    refine awp_region rfl ?_
    refine o_as (AV.lit (.bool true)) rfl ?_
    refine aops_end ?_
    refine hK9 _ ?_
    refine awp_ret ?_
    refine post_ret ⟨[(AV.lit (.bool true))], And.intro (AV.le_refl _) (trivial), rfl, ?_⟩
    rfl

theorem c_awake10  : ECalls cx 16 [] (.lit (.bool true)) := by
  refine ecalls_of_awp Tryz.func16 (c := _) rfl (Nat.le_of_ble_eq_true rfl) ?_
  show awp cx 59 _ (postF cx Tryz.f16 _) ⟨[], []⟩
  refine awp_seq fun K0 hK0 => ?_
  refine awp_region rfl ?_
  refine o_as (AV.lit (.bool false)) rfl ?_
  refine aops_end ?_
  refine hK0 _ ?_
  refine awp_seq fun K1 hK1 => ?_
  refine awp_region rfl ?_
  refine o_ct c_adder Gd.none Yf_tC60 rfl ?_
  refine o_ct (c_Compile adM) Gd.none Yf_tC13 rfl ?_
  refine o_mv (AV.tup [(AV.sl 2 (gcells cF (cmpR adM))), (nm .i64 (cmpE adM))]) rfl ?_
  refine o_extract (AV.sl 2 (gcells cF (cmpR adM))) Gd.none rfl rfl ?_
  refine n_as (v' := (AV.sl 2 (gcells cF ([(Frc.mk (({data := #[49, 51]} : ByteArray)) (({data := #[49, 48]} : ByteArray))), (Frc.mk (({data := #[49, 57]} : ByteArray)) (({data := #[53]} : ByteArray))), (Frc.mk (({data := #[50, 49]} : ByteArray)) (({data := #[49, 49]} : ByteArray))), (Frc.mk (({data := #[53]} : ByteArray)) (({data := #[55]} : ByteArray))), (Frc.mk (({data := #[49, 49]} : ByteArray)) (({data := #[49, 51]} : ByteArray))), (Frc.mk (({data := #[49, 55]} : ByteArray)) (({data := #[49, 57]} : ByteArray)))])))) (by exact congrArg (fun l => AV.sl 2 (gcells cF l)) ex_cmp.1) ?_
  refine o_extract (nm .i64 (cmpE adM)) Gd.none rfl rfl ?_
  refine n_as (v' := (nm .i64 (0))) (by exact congrArg (nm _) ex_cmp.2) ?_
  refine o_as (AV.sl 2 (gcells cF ([(Frc.mk (({data := #[49, 51]} : ByteArray)) (({data := #[49, 48]} : ByteArray))), (Frc.mk (({data := #[49, 57]} : ByteArray)) (({data := #[53]} : ByteArray))), (Frc.mk (({data := #[50, 49]} : ByteArray)) (({data := #[49, 49]} : ByteArray))), (Frc.mk (({data := #[53]} : ByteArray)) (({data := #[55]} : ByteArray))), (Frc.mk (({data := #[49, 49]} : ByteArray)) (({data := #[49, 51]} : ByteArray))), (Frc.mk (({data := #[49, 55]} : ByteArray)) (({data := #[49, 57]} : ByteArray)))]))) rfl ?_
  refine o_as (nm .i64 (0)) rfl ?_
  refine aops_end ?_
  refine hK1 _ ?_
  refine awp_seq fun K2 hK2 => ?_
  refine awp_region rfl ?_
  refine o_ct c_adder Gd.none Yf_tC60 rfl ?_
  refine o_buildSlice 2 (is .i64 ([((2 : Nat) : Int), ((1 : Nat) : Int)])) [(0, [(nm .i64 (2))]), (1, [(nm .i64 (1))])] Gd.none Yf_tE37 rfl Yf_tO3 rfl rfl rfl rfl rfl rfl rfl ?_
  refine o_build [(nm .i64 (0)), (AV.row 2)] [(1, [(AV.row 2)])] Gd.none Yf_tP65 Yf_tO65 rfl rfl rfl ?_
  refine o_callG [(2, 1, (is .i64 ([((2 : Nat) : Int), ((1 : Nat) : Int)])))] [(macV adM), (AV.agg [(nm .i64 (0)), (AV.sl 1 (is .i64 ([((2 : Nat) : Int), ((1 : Nat) : Int)])))])] _ (AV.tup [(AV.lit (.string (encS adM exC))), (nm .i64 (encE adM exC))]) [] Gd.none Yf_tC37 rfl (And.intro ⟨_, rfl⟩ (trivial)) rfl rfl (LeL.cons (AV.le_refl _) (LeL.cons (AV.le_refl _) (LeL.nil))) (c_Encode adM exC) rfl ?_
  refine o_mv (AV.tup [(AV.lit (.string (encS adM exC))), (nm .i64 (encE adM exC))]) rfl ?_
  refine o_extract (AV.lit (.string (encS adM exC))) Gd.none rfl rfl ?_
  refine n_as (v' := (AV.lit (.string (({data := #[54, 48]} : ByteArray))))) (by exact str_as2 ex_enc.1) ?_
  refine o_extract (nm .i64 (encE adM exC)) Gd.none rfl rfl ?_
  refine n_as (v' := (nm .i64 (0))) (by exact congrArg (nm _) ex_enc.2) ?_
  refine o_as (AV.lit (.string (({data := #[54, 48]} : ByteArray)))) rfl ?_
  refine o_as (nm .i64 (0)) rfl ?_
  refine aops_end ?_
  refine hK2 _ ?_
  refine awp_seq fun K3 hK3 => ?_
  refine awp_region rfl ?_
  refine o_mv (AV.sl 2 (gcells cF ([(Frc.mk (({data := #[49, 51]} : ByteArray)) (({data := #[49, 48]} : ByteArray))), (Frc.mk (({data := #[49, 57]} : ByteArray)) (({data := #[53]} : ByteArray))), (Frc.mk (({data := #[50, 49]} : ByteArray)) (({data := #[49, 49]} : ByteArray))), (Frc.mk (({data := #[53]} : ByteArray)) (({data := #[55]} : ByteArray))), (Frc.mk (({data := #[49, 49]} : ByteArray)) (({data := #[49, 51]} : ByteArray))), (Frc.mk (({data := #[49, 55]} : ByteArray)) (({data := #[49, 57]} : ByteArray)))]))) rfl ?_
  refine o_ct (c_Play ([(Frc.mk (({data := #[49, 51]} : ByteArray)) (({data := #[49, 48]} : ByteArray))), (Frc.mk (({data := #[49, 57]} : ByteArray)) (({data := #[53]} : ByteArray))), (Frc.mk (({data := #[50, 49]} : ByteArray)) (({data := #[49, 49]} : ByteArray))), (Frc.mk (({data := #[53]} : ByteArray)) (({data := #[55]} : ByteArray))), (Frc.mk (({data := #[49, 49]} : ByteArray)) (({data := #[49, 51]} : ByteArray))), (Frc.mk (({data := #[49, 55]} : ByteArray)) (({data := #[49, 57]} : ByteArray)))]) (({data := #[54, 48]} : ByteArray)) ((4 : Int)) (by first | assumption | exact ex_sz) (by first | assumption | decide | omega)) Gd.none Yf_tC26 rfl ?_
  refine o_mv (AV.tup [(AV.lit (.string ((plyA ([(Frc.mk (({data := #[49, 51]} : ByteArray)) (({data := #[49, 48]} : ByteArray))), (Frc.mk (({data := #[49, 57]} : ByteArray)) (({data := #[53]} : ByteArray))), (Frc.mk (({data := #[50, 49]} : ByteArray)) (({data := #[49, 49]} : ByteArray))), (Frc.mk (({data := #[53]} : ByteArray)) (({data := #[55]} : ByteArray))), (Frc.mk (({data := #[49, 49]} : ByteArray)) (({data := #[49, 51]} : ByteArray))), (Frc.mk (({data := #[49, 55]} : ByteArray)) (({data := #[49, 57]} : ByteArray)))]) (({data := #[54, 48]} : ByteArray)) ((4 : Int))).1))), (nm .i64 ((plyA ([(Frc.mk (({data := #[49, 51]} : ByteArray)) (({data := #[49, 48]} : ByteArray))), (Frc.mk (({data := #[49, 57]} : ByteArray)) (({data := #[53]} : ByteArray))), (Frc.mk (({data := #[50, 49]} : ByteArray)) (({data := #[49, 49]} : ByteArray))), (Frc.mk (({data := #[53]} : ByteArray)) (({data := #[55]} : ByteArray))), (Frc.mk (({data := #[49, 49]} : ByteArray)) (({data := #[49, 51]} : ByteArray))), (Frc.mk (({data := #[49, 55]} : ByteArray)) (({data := #[49, 57]} : ByteArray)))]) (({data := #[54, 48]} : ByteArray)) ((4 : Int))).2.1)), (nm .i64 ((plyA ([(Frc.mk (({data := #[49, 51]} : ByteArray)) (({data := #[49, 48]} : ByteArray))), (Frc.mk (({data := #[49, 57]} : ByteArray)) (({data := #[53]} : ByteArray))), (Frc.mk (({data := #[50, 49]} : ByteArray)) (({data := #[49, 49]} : ByteArray))), (Frc.mk (({data := #[53]} : ByteArray)) (({data := #[55]} : ByteArray))), (Frc.mk (({data := #[49, 49]} : ByteArray)) (({data := #[49, 51]} : ByteArray))), (Frc.mk (({data := #[49, 55]} : ByteArray)) (({data := #[49, 57]} : ByteArray)))]) (({data := #[54, 48]} : ByteArray)) ((4 : Int))).2.2))]) rfl ?_
  refine o_extract (AV.lit (.string ((plyA ([(Frc.mk (({data := #[49, 51]} : ByteArray)) (({data := #[49, 48]} : ByteArray))), (Frc.mk (({data := #[49, 57]} : ByteArray)) (({data := #[53]} : ByteArray))), (Frc.mk (({data := #[50, 49]} : ByteArray)) (({data := #[49, 49]} : ByteArray))), (Frc.mk (({data := #[53]} : ByteArray)) (({data := #[55]} : ByteArray))), (Frc.mk (({data := #[49, 49]} : ByteArray)) (({data := #[49, 51]} : ByteArray))), (Frc.mk (({data := #[49, 55]} : ByteArray)) (({data := #[49, 57]} : ByteArray)))]) (({data := #[54, 48]} : ByteArray)) ((4 : Int))).1))) Gd.none rfl rfl ?_
  refine n_as (v' := (AV.lit (.string (({data := #[57, 48]} : ByteArray))))) (by exact str_as2 (congrArg Prod.fst ex_play)) ?_
  refine o_extract (nm .i64 ((plyA ([(Frc.mk (({data := #[49, 51]} : ByteArray)) (({data := #[49, 48]} : ByteArray))), (Frc.mk (({data := #[49, 57]} : ByteArray)) (({data := #[53]} : ByteArray))), (Frc.mk (({data := #[50, 49]} : ByteArray)) (({data := #[49, 49]} : ByteArray))), (Frc.mk (({data := #[53]} : ByteArray)) (({data := #[55]} : ByteArray))), (Frc.mk (({data := #[49, 49]} : ByteArray)) (({data := #[49, 51]} : ByteArray))), (Frc.mk (({data := #[49, 55]} : ByteArray)) (({data := #[49, 57]} : ByteArray)))]) (({data := #[54, 48]} : ByteArray)) ((4 : Int))).2.1)) Gd.none rfl rfl ?_
  refine n_as (v' := (nm .i64 (4))) (by exact congrArg (nm _) (congrArg (fun x => x.2.1) ex_play)) ?_
  refine o_extract (nm .i64 ((plyA ([(Frc.mk (({data := #[49, 51]} : ByteArray)) (({data := #[49, 48]} : ByteArray))), (Frc.mk (({data := #[49, 57]} : ByteArray)) (({data := #[53]} : ByteArray))), (Frc.mk (({data := #[50, 49]} : ByteArray)) (({data := #[49, 49]} : ByteArray))), (Frc.mk (({data := #[53]} : ByteArray)) (({data := #[55]} : ByteArray))), (Frc.mk (({data := #[49, 49]} : ByteArray)) (({data := #[49, 51]} : ByteArray))), (Frc.mk (({data := #[49, 55]} : ByteArray)) (({data := #[49, 57]} : ByteArray)))]) (({data := #[54, 48]} : ByteArray)) ((4 : Int))).2.2)) Gd.none rfl rfl ?_
  refine n_as (v' := (nm .i64 (0))) (by exact congrArg (nm _) (congrArg (fun x => x.2.2) ex_play)) ?_
  refine o_as (AV.lit (.string (({data := #[57, 48]} : ByteArray)))) rfl ?_
  refine o_as (nm .i64 (4)) rfl ?_
  refine o_as (nm .i64 (0)) rfl ?_
  refine aops_end ?_
  refine hK3 _ ?_
  refine awp_seq fun K4 hK4 => ?_
  refine awp_region rfl ?_
  refine o_mv (nm .i64 (0)) rfl ?_
  refine n_eql (0) (0) Gd.none rfl rfl ?_
  refine o_mv (bp ((0) = (0))) rfl ?_
  refine o_move (nm .i64 (0)) (Gd.yes rfl rfl (decide_eq_true (by decide))) rfl ?_
  refine n_eql (0) (0) (Gd.yes rfl rfl (decide_eq_true (by decide))) rfl rfl ?_
  refine o_pickT (bp ((0) = (0))) Gd.none rfl (decide_eq_true (by decide)) rfl ?_
  refine o_mv (bp ((0) = (0))) rfl ?_
  refine o_move (nm .i64 (0)) (Gd.yes rfl rfl (decide_eq_true (by decide))) rfl ?_
  refine n_eql (0) (0) (Gd.yes rfl rfl (decide_eq_true (by decide))) rfl rfl ?_
  refine o_pickT (bp ((0) = (0))) Gd.none rfl (decide_eq_true (by decide)) rfl ?_
  refine o_mv (bp ((0) = (0))) rfl ?_
  refine o_move (AV.lit (.string (({data := #[54, 48]} : ByteArray)))) (Gd.yes rfl rfl (decide_eq_true (by decide))) rfl ?_
  refine o_eqlS (a := (({data := #[54, 48]} : ByteArray))) (c := (({data := #[54, 48]} : ByteArray))) (Gd.yes rfl rfl (decide_eq_true (by decide))) rfl rfl ?_
  refine o_pickT (bp ((({data := #[54, 48]} : ByteArray)).toList = (({data := #[54, 48]} : ByteArray)).toList)) Gd.none rfl (decide_eq_true (by decide)) rfl ?_
  refine o_mv (bp ((({data := #[54, 48]} : ByteArray)).toList = (({data := #[54, 48]} : ByteArray)).toList)) rfl ?_
  refine o_move (AV.lit (.string (({data := #[57, 48]} : ByteArray)))) (Gd.yes rfl rfl (decide_eq_true rfl)) rfl ?_
  refine o_eqlS (a := (({data := #[57, 48]} : ByteArray))) (c := (({data := #[57, 48]} : ByteArray))) (Gd.yes rfl rfl (decide_eq_true rfl)) rfl rfl ?_
  refine o_pickT (bp ((({data := #[57, 48]} : ByteArray)).toList = (({data := #[57, 48]} : ByteArray)).toList)) Gd.none rfl (decide_eq_true rfl) rfl ?_
  refine o_mv (bp ((({data := #[57, 48]} : ByteArray)).toList = (({data := #[57, 48]} : ByteArray)).toList)) rfl ?_
  refine o_move (nm .i64 (4)) (Gd.yes rfl rfl (decide_eq_true rfl)) rfl ?_
  refine n_eql (4) (4) (Gd.yes rfl rfl (decide_eq_true rfl)) rfl rfl ?_
  refine o_pickT (bp ((4) = (4))) Gd.none rfl (decide_eq_true rfl) rfl ?_
  refine o_mv (bp ((4) = (4))) rfl ?_
  refine o_move (AV.sl 2 (gcells cF ([(Frc.mk (({data := #[49, 51]} : ByteArray)) (({data := #[49, 48]} : ByteArray))), (Frc.mk (({data := #[49, 57]} : ByteArray)) (({data := #[53]} : ByteArray))), (Frc.mk (({data := #[50, 49]} : ByteArray)) (({data := #[49, 49]} : ByteArray))), (Frc.mk (({data := #[53]} : ByteArray)) (({data := #[55]} : ByteArray))), (Frc.mk (({data := #[49, 49]} : ByteArray)) (({data := #[49, 51]} : ByteArray))), (Frc.mk (({data := #[49, 55]} : ByteArray)) (({data := #[49, 57]} : ByteArray)))]))) (Gd.yes rfl rfl (decide_eq_true (by decide))) rfl ?_
  refine o_build [(AV.lit (.string (({data := #[49, 51]} : ByteArray)))), (AV.lit (.string (({data := #[49, 48]} : ByteArray))))] [(0, [(AV.lit (.string (({data := #[49, 51]} : ByteArray))))]), (1, [(AV.lit (.string (({data := #[49, 48]} : ByteArray))))])] (Gd.yes rfl rfl (decide_eq_true (by decide))) Yf_tP52 Yf_tO52 rfl rfl rfl ?_
  refine o_build [(AV.lit (.string (({data := #[49, 57]} : ByteArray)))), (AV.lit (.string (({data := #[53]} : ByteArray))))] [(0, [(AV.lit (.string (({data := #[49, 57]} : ByteArray))))]), (1, [(AV.lit (.string (({data := #[53]} : ByteArray))))])] (Gd.yes rfl rfl (decide_eq_true (by decide))) Yf_tP52 Yf_tO52 rfl rfl rfl ?_
  refine o_build [(AV.lit (.string (({data := #[50, 49]} : ByteArray)))), (AV.lit (.string (({data := #[49, 49]} : ByteArray))))] [(0, [(AV.lit (.string (({data := #[50, 49]} : ByteArray))))]), (1, [(AV.lit (.string (({data := #[49, 49]} : ByteArray))))])] (Gd.yes rfl rfl (decide_eq_true (by decide))) Yf_tP52 Yf_tO52 rfl rfl rfl ?_
  refine o_build [(AV.lit (.string (({data := #[53]} : ByteArray)))), (AV.lit (.string (({data := #[55]} : ByteArray))))] [(0, [(AV.lit (.string (({data := #[53]} : ByteArray))))]), (1, [(AV.lit (.string (({data := #[55]} : ByteArray))))])] (Gd.yes rfl rfl (decide_eq_true (by decide))) Yf_tP52 Yf_tO52 rfl rfl rfl ?_
  refine o_build [(AV.lit (.string (({data := #[49, 49]} : ByteArray)))), (AV.lit (.string (({data := #[49, 51]} : ByteArray))))] [(0, [(AV.lit (.string (({data := #[49, 49]} : ByteArray))))]), (1, [(AV.lit (.string (({data := #[49, 51]} : ByteArray))))])] (Gd.yes rfl rfl (decide_eq_true (by decide))) Yf_tP52 Yf_tO52 rfl rfl rfl ?_
  refine o_build [(AV.lit (.string (({data := #[49, 55]} : ByteArray)))), (AV.lit (.string (({data := #[49, 57]} : ByteArray))))] [(0, [(AV.lit (.string (({data := #[49, 55]} : ByteArray))))]), (1, [(AV.lit (.string (({data := #[49, 57]} : ByteArray))))])] (Gd.yes rfl rfl (decide_eq_true (by decide))) Yf_tP52 Yf_tO52 rfl rfl rfl ?_
  refine o_buildSlice 3 (gcells cF ([(Frc.mk (({data := #[49, 51]} : ByteArray)) (({data := #[49, 48]} : ByteArray))), (Frc.mk (({data := #[49, 57]} : ByteArray)) (({data := #[53]} : ByteArray))), (Frc.mk (({data := #[50, 49]} : ByteArray)) (({data := #[49, 49]} : ByteArray))), (Frc.mk (({data := #[53]} : ByteArray)) (({data := #[55]} : ByteArray))), (Frc.mk (({data := #[49, 49]} : ByteArray)) (({data := #[49, 51]} : ByteArray))), (Frc.mk (({data := #[49, 55]} : ByteArray)) (({data := #[49, 57]} : ByteArray)))])) [(0, [(AV.lit (.string (({data := #[49, 51]} : ByteArray)))), (AV.lit (.string (({data := #[49, 48]} : ByteArray))))]), (1, [(AV.lit (.string (({data := #[49, 57]} : ByteArray)))), (AV.lit (.string (({data := #[53]} : ByteArray))))]), (2, [(AV.lit (.string (({data := #[50, 49]} : ByteArray)))), (AV.lit (.string (({data := #[49, 49]} : ByteArray))))]), (3, [(AV.lit (.string (({data := #[53]} : ByteArray)))), (AV.lit (.string (({data := #[55]} : ByteArray))))]), (4, [(AV.lit (.string (({data := #[49, 49]} : ByteArray)))), (AV.lit (.string (({data := #[49, 51]} : ByteArray))))]), (5, [(AV.lit (.string (({data := #[49, 55]} : ByteArray)))), (AV.lit (.string (({data := #[49, 57]} : ByteArray))))])] (Gd.yes rfl rfl (decide_eq_true (by decide))) Yf_tE26 rfl Yf_tO52 rfl rfl rfl rfl rfl rfl rfl ?_
  refine o_callG [(3, 2, (gcells cF ([(Frc.mk (({data := #[49, 51]} : ByteArray)) (({data := #[49, 48]} : ByteArray))), (Frc.mk (({data := #[49, 57]} : ByteArray)) (({data := #[53]} : ByteArray))), (Frc.mk (({data := #[50, 49]} : ByteArray)) (({data := #[49, 49]} : ByteArray))), (Frc.mk (({data := #[53]} : ByteArray)) (({data := #[55]} : ByteArray))), (Frc.mk (({data := #[49, 49]} : ByteArray)) (({data := #[49, 51]} : ByteArray))), (Frc.mk (({data := #[49, 55]} : ByteArray)) (({data := #[49, 57]} : ByteArray)))])))] [(AV.sl 2 (gcells cF ([(Frc.mk (({data := #[49, 51]} : ByteArray)) (({data := #[49, 48]} : ByteArray))), (Frc.mk (({data := #[49, 57]} : ByteArray)) (({data := #[53]} : ByteArray))), (Frc.mk (({data := #[50, 49]} : ByteArray)) (({data := #[49, 49]} : ByteArray))), (Frc.mk (({data := #[53]} : ByteArray)) (({data := #[55]} : ByteArray))), (Frc.mk (({data := #[49, 49]} : ByteArray)) (({data := #[49, 51]} : ByteArray))), (Frc.mk (({data := #[49, 55]} : ByteArray)) (({data := #[49, 57]} : ByteArray)))]))), (AV.sl 2 (gcells cF ([(Frc.mk (({data := #[49, 51]} : ByteArray)) (({data := #[49, 48]} : ByteArray))), (Frc.mk (({data := #[49, 57]} : ByteArray)) (({data := #[53]} : ByteArray))), (Frc.mk (({data := #[50, 49]} : ByteArray)) (({data := #[49, 49]} : ByteArray))), (Frc.mk (({data := #[53]} : ByteArray)) (({data := #[55]} : ByteArray))), (Frc.mk (({data := #[49, 49]} : ByteArray)) (({data := #[49, 51]} : ByteArray))), (Frc.mk (({data := #[49, 55]} : ByteArray)) (({data := #[49, 57]} : ByteArray)))])))] _ (AV.lit (.bool true)) [] (Gd.yes rfl rfl (decide_eq_true (by decide))) Yf_tC17 rfl (And.intro ⟨_, rfl⟩ (trivial)) rfl rfl (LeL.cons (AV.le_refl _) (LeL.cons (AV.le_refl _) (LeL.nil))) (c_vSameList ([(Frc.mk (({data := #[49, 51]} : ByteArray)) (({data := #[49, 48]} : ByteArray))), (Frc.mk (({data := #[49, 57]} : ByteArray)) (({data := #[53]} : ByteArray))), (Frc.mk (({data := #[50, 49]} : ByteArray)) (({data := #[49, 49]} : ByteArray))), (Frc.mk (({data := #[53]} : ByteArray)) (({data := #[55]} : ByteArray))), (Frc.mk (({data := #[49, 49]} : ByteArray)) (({data := #[49, 51]} : ByteArray))), (Frc.mk (({data := #[49, 55]} : ByteArray)) (({data := #[49, 57]} : ByteArray)))]) (by first | assumption | omega | decide)) rfl ?_
  refine o_pickT (AV.lit (.bool true)) Gd.none rfl (decide_eq_true (by decide)) rfl ?_
  refine o_as (AV.lit (.bool true)) rfl ?_
  refine aops_end ?_
  refine hK4 _ ?_
  refine awp_ret ?_
  refine post_ret ⟨[(AV.lit (.bool true))], And.intro (AV.le_refl _) (trivial), rfl, ?_⟩
  rfl

end Go.Proofs.YtnejjdcbbminaaaGreatDoor

set_option linter.unusedVariables false
set_option linter.unusedSimpArgs false
namespace Go.Proofs.YtnejjdcbbminaaaGreatDoor
open Go Go.Ab Go.Mth
theorem Yv_tA24 : tyAgg cx.P 24 = some 2 := by kernel_rfl
theorem Yv_tC12 : callable cx.P 12 = true := by kernel_rfl
theorem Yv_tA65 : tyAgg cx.P 65 = some 2 := by kernel_rfl
theorem Yv_tC36 : callable cx.P 36 = true := by kernel_rfl
theorem Yv_tO24 : tyZero cx.P 24 = some [(Go.Value.int IntKind.i64 0), (Go.Value.slice none 0 0)] := by kernel_rfl
theorem Yv_tO65 : tyZero cx.P 65 = some [(Go.Value.int IntKind.i64 0), (Go.Value.slice none 0 0)] := by kernel_rfl
theorem Yv_tZ24 : tySize cx.P 24 = some 2 := by kernel_rfl
theorem Yv_tZ65 : tySize cx.P 65 = some 2 := by kernel_rfl
theorem Yv_tP65 : tyPlaces cx.P 65 = some (fun i => (#[(0, 1), (1, 1)] : Array (Nat × Nat))[i]?) := by kernel_rfl
theorem Yv_tC40 : callable cx.P 40 = true := by kernel_rfl
theorem Yv_tC48 : callable cx.P 48 = true := by kernel_rfl
theorem Yv_tC49 : callable cx.P 49 = true := by kernel_rfl
theorem Yv_tC39 : callable cx.P 39 = true := by kernel_rfl
theorem Yv_tC15 : callable cx.P 15 = true := by kernel_rfl
theorem Yv_tC16 : callable cx.P 16 = true := by kernel_rfl
theorem c_FractionRuns (m : Mac) (c : Cfg) (k : Int) (hb : m.code.length ≤ 4398046511104) (hc : c.regs.length ≤ 17592186044416) : ECalls cx 10 [(macV m), (cfgV c), (AV.lit (.int .i64 (k)))] (.lit (.bool true)) := by
  refine ecalls_of_awp Tryz.func10 (c := _) rfl (Nat.le_of_ble_eq_true rfl) ?_
  show awp cx 71 _ (postF cx Tryz.f10 _) ⟨[(0, (macV m)), (1, (cfgV c)), (2, (AV.lit (.int .i64 (k))))], []⟩
  have hzl : zC.regs.length ≤ 17592186044416 := by decide
  refine awp_seq fun K0 hK0 => ?_
  refine awp_region rfl ?_
  refine o_box 2 [(AV.lit (.int .i64 (m.regs))), (AV.sl 4 (gcells cI (m.code)))] Gd.none rfl rfl ?_
  refine o_box 3 [(AV.lit (.int .i64 (c.at'))), (AV.sl 1 (is .i64 (c.regs)))] Gd.none rfl rfl ?_
  refine o_as (AV.lit (.bool false)) rfl ?_
  refine aops_end ?_
  refine hK0 _ ?_
  refine awp_seq fun K1 hK1 => ?_
  refine awp_regionD rfl ?_
  refine o_loadA [(AV.lit (.int .i64 (m.regs))), (AV.sl 4 (gcells cI (m.code)))] Gd.none Yv_tA24 rfl rfl rfl rfl rfl ?_
  refine o_ct (c_vTwinMac m (by first | assumption | omega | decide)) Gd.none Yv_tC12 rfl ?_
  refine o_loadA [(AV.lit (.int .i64 (c.at'))), (AV.sl 1 (is .i64 (c.regs)))] Gd.none Yv_tA65 rfl rfl rfl rfl rfl ?_
  refine o_ct (c_twinCfg c (by first | assumption | omega | decide)) Gd.none Yv_tC36 rfl ?_
  refine o_alloc 4 [(nm .i64 (0)), (AV.lit (.slice none 0 0))] Gd.none Yv_tO24 rfl rfl rfl ?_
  refine o_alloc 5 [(nm .i64 (0)), (AV.lit (.slice none 0 0))] Gd.none Yv_tO65 rfl rfl rfl ?_
  refine o_store [(5, (AO.var 65 [(nm .i64 (0)), (AV.lit (.slice none 0 0))])), (4, (AO.var 24 [(AV.lit (.int .i64 (m.regs))), (AV.sl 4 (gcells cI (m.code)))])), (3, (AO.var 65 [(AV.lit (.int .i64 (c.at'))), (AV.sl 1 (is .i64 (c.regs)))])), (2, (AO.var 24 [(AV.lit (.int .i64 (m.regs))), (AV.sl 4 (gcells cI (m.code)))]))] Gd.none Yv_tZ24 rfl rfl rfl rfl rfl rfl ?_
  refine o_store [(5, (AO.var 65 [(AV.lit (.int .i64 (c.at'))), (AV.sl 1 (is .i64 (c.regs)))])), (4, (AO.var 24 [(AV.lit (.int .i64 (m.regs))), (AV.sl 4 (gcells cI (m.code)))])), (3, (AO.var 65 [(AV.lit (.int .i64 (c.at'))), (AV.sl 1 (is .i64 (c.regs)))])), (2, (AO.var 24 [(AV.lit (.int .i64 (m.regs))), (AV.sl 4 (gcells cI (m.code)))]))] Gd.none Yv_tZ65 rfl rfl rfl rfl rfl rfl ?_
  refine aops_end ⟨by kernel_rfl, ?_⟩
  refine hK1 _ ?_
  refine awp_seq fun K2 hK2 => ?_
  refine awp_region rfl ?_
  refine o_build [(nm .i64 (0)), (AV.lit (.slice none 0 0))] [] Gd.none Yv_tP65 Yv_tO65 rfl rfl rfl ?_
  refine o_alloc 6 [(nm .i64 (0)), (AV.lit (.slice none 0 0))] Gd.none Yv_tO65 rfl rfl rfl ?_
  refine o_as (nm .i64 (1)) rfl ?_
  refine o_store [(6, (AO.var 65 [(nm .i64 (0)), (AV.lit (.slice none 0 0))])), (5, (AO.var 65 [(AV.lit (.int .i64 (c.at'))), (AV.sl 1 (is .i64 (c.regs)))])), (4, (AO.var 24 [(AV.lit (.int .i64 (m.regs))), (AV.sl 4 (gcells cI (m.code)))])), (3, (AO.var 65 [(AV.lit (.int .i64 (c.at'))), (AV.sl 1 (is .i64 (c.regs)))])), (2, (AO.var 24 [(AV.lit (.int .i64 (m.regs))), (AV.sl 4 (gcells cI (m.code)))]))] Gd.none Yv_tZ65 rfl rfl rfl rfl rfl rfl ?_
  refine o_as (nm .i64 (0)) rfl ?_
  refine aops_end ?_
  refine hK2 _ ?_
  refine awp_seq fun K3 hK3 => ?_
  refine awp_seq fun K4 hK4 => ?_
  refine awp_region rfl ?_
  refine o_loadA [(AV.lit (.int .i64 (m.regs))), (AV.sl 4 (gcells cI (m.code)))] Gd.none Yv_tA24 rfl rfl rfl rfl rfl ?_
  refine o_loadA [(AV.lit (.int .i64 (c.at'))), (AV.sl 1 (is .i64 (c.regs)))] Gd.none Yv_tA65 rfl rfl rfl rfl rfl ?_
  refine o_ct (c_vFits m c) Gd.none Yv_tC40 rfl ?_
  refine aops_end ?_
  refine hK4 _ ?_
  refine awp_condQ (q := okCfg m c) rfl (fun h1 => ?_) (fun h1 => ?_)
  · have hrl := rnm_len (k := k.toNat) (i := 0) h1
    refine awp_seq fun K5 hK5 => ?_
    refine awp_region rfl ?_
    refine o_as (nm .i64 (2)) rfl ?_
    refine aops_end ?_
    refine hK5 _ ?_
    refine awp_seq fun K6 hK6 => ?_
    refine awp_region rfl ?_
    refine o_mv (AV.lit (.int .i64 (k))) rfl ?_
    refine o_geq (a := (k)) (c := (((0 : Nat) : Int))) Gd.none rfl rfl ?_
    refine o_mv (bp ((((0 : Nat) : Int)) ≤ (k))) rfl ?_
    refine o_splitP (q := (((0 : Nat) : Int)) ≤ (k)) 25 rfl (fun h2 => ?_) (fun h2 => ?_)
    · refine o_move (AV.lit (.int .i64 (k))) (Gd.yes rfl rfl (decide_eq_true h2)) rfl ?_
      refine o_leq (a := (k)) (c := (((20000 : Nat) : Int))) (Gd.yes rfl rfl (decide_eq_true h2)) rfl rfl ?_
      refine o_pickT (bp ((k) ≤ (((20000 : Nat) : Int)))) Gd.none rfl (decide_eq_true h2) rfl ?_
      refine aops_end ?_
      refine hK6 _ ?_
      refine awp_condQ (q := (k) ≤ (((20000 : Nat) : Int))) rfl (fun h3 => ?_) (fun h3 => ?_)
      · refine awp_region rfl ?_
        refine o_loadA [(AV.lit (.int .i64 (m.regs))), (AV.sl 4 (gcells cI (m.code)))] Gd.none Yv_tA24 rfl rfl rfl rfl rfl ?_
        refine o_loadA [(AV.lit (.int .i64 (c.at'))), (AV.sl 1 (is .i64 (c.regs)))] Gd.none Yv_tA65 rfl rfl rfl rfl rfl ?_
        refine o_mv (AV.lit (.int .i64 (k))) rfl ?_
        refine o_ct (c_vRun m c (k) (by assumption) (by omega) (by omega)) Gd.none Yv_tC48 rfl ?_
        refine o_mv (AV.tup [(cfgV (rnm m (k).toNat c 0).1), (nm .i64 ((rnm m (k).toNat c 0).2.1)), (nm .i64 ((rnm m (k).toNat c 0).2.2))]) rfl ?_
        refine o_extract (cfgV (rnm m (k).toNat c 0).1) Gd.none rfl rfl ?_
        refine o_extract (nm .i64 ((rnm m (k).toNat c 0).2.1)) Gd.none rfl rfl ?_
        refine o_extract (nm .i64 ((rnm m (k).toNat c 0).2.2)) Gd.none rfl rfl ?_
        refine o_store [(6, (AO.var 65 [(AV.lit (.int .i64 ((rnm m (k).toNat c 0).1.at'))), (AV.sl 1 (is .i64 ((rnm m (k).toNat c 0).1.regs)))])), (5, (AO.var 65 [(AV.lit (.int .i64 (c.at'))), (AV.sl 1 (is .i64 (c.regs)))])), (4, (AO.var 24 [(AV.lit (.int .i64 (m.regs))), (AV.sl 4 (gcells cI (m.code)))])), (3, (AO.var 65 [(AV.lit (.int .i64 (c.at'))), (AV.sl 1 (is .i64 (c.regs)))])), (2, (AO.var 24 [(AV.lit (.int .i64 (m.regs))), (AV.sl 4 (gcells cI (m.code)))]))] Gd.none Yv_tZ65 rfl rfl rfl rfl rfl rfl ?_
        refine o_as (nm .i64 ((rnm m (k).toNat c 0).2.1)) rfl ?_
        refine o_as (nm .i64 ((rnm m (k).toNat c 0).2.2)) rfl ?_
        refine aops_end ?_
        refine hK3 _ ?_
        refine awp_seq fun K7 hK7 => ?_
        refine awp_region rfl ?_
        refine o_loadA [(AV.lit (.int .i64 (m.regs))), (AV.sl 4 (gcells cI (m.code)))] Gd.none Yv_tA24 rfl rfl rfl rfl rfl ?_
        refine o_loadA [(AV.lit (.int .i64 (c.at'))), (AV.sl 1 (is .i64 (c.regs)))] Gd.none Yv_tA65 rfl rfl rfl rfl rfl ?_
        refine o_mv (AV.lit (.int .i64 (k))) rfl ?_
        refine o_ct (c_fRun m c (k)) Gd.none Yv_tC49 rfl ?_
        refine o_mv (AV.tup [(cfgV (rnA m c (k)).1), (nm .i64 ((rnA m c (k)).2.1)), (nm .i64 ((rnA m c (k)).2.2))]) rfl ?_
        refine o_extract (cfgV (rnA m c (k)).1) Gd.none rfl rfl ?_
        refine n_as (v' := (cfgV (rnm m (k).toNat c 0).1)) (by first | rw [rnA_0 h1 (by omega)] | (rw [rnA_1 h1]; try rfl) | (rw [rnA_2 h1 (by omega)]; try rfl)) ?_
        refine o_extract (nm .i64 ((rnA m c (k)).2.1)) Gd.none rfl rfl ?_
        refine n_as (v' := (nm .i64 ((rnm m (k).toNat c 0).2.1))) (by first | rw [rnA_0 h1 (by omega)] | (rw [rnA_1 h1]; try rfl) | (rw [rnA_2 h1 (by omega)]; try rfl)) ?_
        refine o_extract (nm .i64 ((rnA m c (k)).2.2)) Gd.none rfl rfl ?_
        refine n_as (v' := (nm .i64 ((rnm m (k).toNat c 0).2.2))) (by first | rw [rnA_0 h1 (by omega)] | (rw [rnA_1 h1]; try rfl) | (rw [rnA_2 h1 (by omega)]; try rfl)) ?_
        refine o_alloc 7 [(nm .i64 (0)), (AV.lit (.slice none 0 0))] Gd.none Yv_tO65 rfl rfl rfl ?_
        refine o_store [(7, (AO.var 65 [(AV.lit (.int .i64 ((rnm m (k).toNat c 0).1.at'))), (AV.sl 1 (is .i64 ((rnm m (k).toNat c 0).1.regs)))])), (6, (AO.var 65 [(AV.lit (.int .i64 ((rnm m (k).toNat c 0).1.at'))), (AV.sl 1 (is .i64 ((rnm m (k).toNat c 0).1.regs)))])), (5, (AO.var 65 [(AV.lit (.int .i64 (c.at'))), (AV.sl 1 (is .i64 (c.regs)))])), (4, (AO.var 24 [(AV.lit (.int .i64 (m.regs))), (AV.sl 4 (gcells cI (m.code)))])), (3, (AO.var 65 [(AV.lit (.int .i64 (c.at'))), (AV.sl 1 (is .i64 (c.regs)))])), (2, (AO.var 24 [(AV.lit (.int .i64 (m.regs))), (AV.sl 4 (gcells cI (m.code)))]))] Gd.none Yv_tZ65 rfl rfl rfl rfl rfl rfl ?_
        refine o_as (nm .i64 ((rnm m (k).toNat c 0).2.1)) rfl ?_
        refine o_as (nm .i64 ((rnm m (k).toNat c 0).2.2)) rfl ?_
        refine aops_end ?_
        refine hK7 _ ?_
        refine awp_seq fun K8 hK8 => ?_
        refine awp_region rfl ?_
        refine o_mv (nm .i64 ((rnm m (k).toNat c 0).2.2)) rfl ?_
        refine o_mv (nm .i64 ((rnm m (k).toNat c 0).2.2)) rfl ?_
        refine n_eql ((rnm m (k).toNat c 0).2.2) ((rnm m (k).toNat c 0).2.2) Gd.none rfl rfl ?_
        refine o_mv (bp (((rnm m (k).toNat c 0).2.2) = ((rnm m (k).toNat c 0).2.2))) rfl ?_
        refine o_move (nm .i64 ((rnm m (k).toNat c 0).2.1)) (Gd.yes rfl rfl (decide_eq_true rfl)) rfl ?_
        refine o_move (nm .i64 ((rnm m (k).toNat c 0).2.1)) (Gd.yes rfl rfl (decide_eq_true rfl)) rfl ?_
        refine n_eql ((rnm m (k).toNat c 0).2.1) ((rnm m (k).toNat c 0).2.1) (Gd.yes rfl rfl (decide_eq_true rfl)) rfl rfl ?_
        refine o_pickT (bp (((rnm m (k).toNat c 0).2.1) = ((rnm m (k).toNat c 0).2.1))) Gd.none rfl (decide_eq_true rfl) rfl ?_
        refine o_mv (bp (((rnm m (k).toNat c 0).2.1) = ((rnm m (k).toNat c 0).2.1))) rfl ?_
        refine o_loadA [(AV.lit (.int .i64 ((rnm m (k).toNat c 0).1.at'))), (AV.sl 1 (is .i64 ((rnm m (k).toNat c 0).1.regs)))] (Gd.yes rfl rfl (decide_eq_true rfl)) Yv_tA65 rfl rfl rfl rfl rfl ?_
        refine o_loadA [(AV.lit (.int .i64 ((rnm m (k).toNat c 0).1.at'))), (AV.sl 1 (is .i64 ((rnm m (k).toNat c 0).1.regs)))] (Gd.yes rfl rfl (decide_eq_true rfl)) Yv_tA65 rfl rfl rfl rfl rfl ?_
        refine o_ct (c_vSameCfg (rnm m (k).toNat c 0).1 (by first | assumption | omega | decide)) (Gd.yes rfl rfl (decide_eq_true rfl)) Yv_tC39 rfl ?_
        refine o_pickT (AV.lit (.bool true)) Gd.none rfl (decide_eq_true rfl) rfl ?_
        refine o_mv (AV.lit (.bool true)) rfl ?_
        refine o_loadA [(AV.lit (.int .i64 (m.regs))), (AV.sl 4 (gcells cI (m.code)))] (Gd.yes rfl rfl rfl) Yv_tA24 rfl rfl rfl rfl rfl ?_
        refine o_loadA [(AV.lit (.int .i64 (m.regs))), (AV.sl 4 (gcells cI (m.code)))] (Gd.yes rfl rfl rfl) Yv_tA24 rfl rfl rfl rfl rfl ?_
        refine o_ct (c_vSameMac m (by first | assumption | omega | decide)) (Gd.yes rfl rfl rfl) Yv_tC15 rfl ?_
        refine o_pickT (AV.lit (.bool true)) Gd.none rfl rfl rfl ?_
        refine o_mv (AV.lit (.bool true)) rfl ?_
        refine o_loadA [(AV.lit (.int .i64 (c.at'))), (AV.sl 1 (is .i64 (c.regs)))] (Gd.yes rfl rfl rfl) Yv_tA65 rfl rfl rfl rfl rfl ?_
        refine o_loadA [(AV.lit (.int .i64 (c.at'))), (AV.sl 1 (is .i64 (c.regs)))] (Gd.yes rfl rfl rfl) Yv_tA65 rfl rfl rfl rfl rfl ?_
        refine o_ct (c_vSameCfg c (by first | assumption | omega | decide)) (Gd.yes rfl rfl rfl) Yv_tC39 rfl ?_
        refine o_pickT (AV.lit (.bool true)) Gd.none rfl rfl rfl ?_
        refine o_mv (AV.lit (.bool true)) rfl ?_
        refine o_ct c_awake10 (Gd.yes rfl rfl rfl) Yv_tC16 rfl ?_
        refine o_pickT (AV.lit (.bool true)) Gd.none rfl rfl rfl ?_
        refine o_as (AV.lit (.bool true)) rfl ?_
        refine aops_end ?_
        refine hK8 _ ?_
        refine awp_ret ?_
        refine post_ret ⟨[(AV.lit (.bool true))], And.intro (AV.le_refl _) (trivial), rfl, ?_⟩
        first | rfl | simp [bp]
      · refine awp_skip ?_
        refine hK3 _ ?_
        refine awp_seq fun K9 hK9 => ?_
        refine awp_region rfl ?_
        refine o_loadA [(AV.lit (.int .i64 (m.regs))), (AV.sl 4 (gcells cI (m.code)))] Gd.none Yv_tA24 rfl rfl rfl rfl rfl ?_
        refine o_loadA [(AV.lit (.int .i64 (c.at'))), (AV.sl 1 (is .i64 (c.regs)))] Gd.none Yv_tA65 rfl rfl rfl rfl rfl ?_
        refine o_mv (AV.lit (.int .i64 (k))) rfl ?_
        refine o_ct (c_fRun m c (k)) Gd.none Yv_tC49 rfl ?_
        refine o_mv (AV.tup [(cfgV (rnA m c (k)).1), (nm .i64 ((rnA m c (k)).2.1)), (nm .i64 ((rnA m c (k)).2.2))]) rfl ?_
        refine o_extract (cfgV (rnA m c (k)).1) Gd.none rfl rfl ?_
        refine n_as (v' := (cfgV zC)) (by first | rw [rnA_0 h1 (by omega)] | (rw [rnA_1 h1]; try rfl) | (rw [rnA_2 h1 (by omega)]; try rfl)) ?_
        refine o_extract (nm .i64 ((rnA m c (k)).2.1)) Gd.none rfl rfl ?_
        refine n_as (v' := (nm .i64 (0))) (by first | rw [rnA_0 h1 (by omega)] | (rw [rnA_1 h1]; try rfl) | (rw [rnA_2 h1 (by omega)]; try rfl)) ?_
        refine o_extract (nm .i64 ((rnA m c (k)).2.2)) Gd.none rfl rfl ?_
        refine n_as (v' := (nm .i64 (2))) (by first | rw [rnA_0 h1 (by omega)] | (rw [rnA_1 h1]; try rfl) | (rw [rnA_2 h1 (by omega)]; try rfl)) ?_
        refine o_alloc 7 [(nm .i64 (0)), (AV.lit (.slice none 0 0))] Gd.none Yv_tO65 rfl rfl rfl ?_
        refine o_store [(7, (AO.var 65 [(AV.lit (.int .i64 (zC.at'))), (AV.sl 1 (is .i64 (zC.regs)))])), (6, (AO.var 65 [(nm .i64 (0)), (AV.lit (.slice none 0 0))])), (5, (AO.var 65 [(AV.lit (.int .i64 (c.at'))), (AV.sl 1 (is .i64 (c.regs)))])), (4, (AO.var 24 [(AV.lit (.int .i64 (m.regs))), (AV.sl 4 (gcells cI (m.code)))])), (3, (AO.var 65 [(AV.lit (.int .i64 (c.at'))), (AV.sl 1 (is .i64 (c.regs)))])), (2, (AO.var 24 [(AV.lit (.int .i64 (m.regs))), (AV.sl 4 (gcells cI (m.code)))]))] Gd.none Yv_tZ65 rfl rfl rfl rfl rfl rfl ?_
        refine o_as (nm .i64 (0)) rfl ?_
        refine o_as (nm .i64 (2)) rfl ?_
        refine aops_end ?_
        refine hK9 _ ?_
        refine awp_seq fun K10 hK10 => ?_
        refine awp_region rfl ?_
        refine o_mv (nm .i64 (2)) rfl ?_
        refine o_mv (nm .i64 (2)) rfl ?_
        refine n_eql (2) (2) Gd.none rfl rfl ?_
        refine o_mv (bp ((2) = (2))) rfl ?_
        refine o_move (nm .i64 (0)) (Gd.yes rfl rfl (decide_eq_true (by decide))) rfl ?_
        refine o_move (nm .i64 (0)) (Gd.yes rfl rfl (decide_eq_true (by decide))) rfl ?_
        refine n_eql (0) (0) (Gd.yes rfl rfl (decide_eq_true (by decide))) rfl rfl ?_
        refine o_pickT (bp ((0) = (0))) Gd.none rfl (decide_eq_true (by decide)) rfl ?_
        refine o_mv (bp ((0) = (0))) rfl ?_
        refine o_loadA [(AV.lit (.int .i64 (zC.at'))), (AV.sl 1 (is .i64 (zC.regs)))] (Gd.yes rfl rfl (decide_eq_true (by decide))) Yv_tA65 rfl rfl rfl rfl rfl ?_
        refine o_loadA [(nm .i64 (0)), (AV.lit (.slice none 0 0))] (Gd.yes rfl rfl (decide_eq_true (by decide))) Yv_tA65 rfl rfl rfl rfl rfl ?_
        refine o_callG [] [(AV.agg [(AV.lit (.int .i64 (zC.at'))), (AV.sl 1 (is .i64 (zC.regs)))]), (AV.agg [(nm .i64 (0)), (AV.lit (.slice none 0 0))])] _ (AV.lit (.bool true)) [(7, (AO.var 65 [(AV.lit (.int .i64 (zC.at'))), (AV.sl 1 (is .i64 (zC.regs)))])), (6, (AO.var 65 [(nm .i64 (0)), (AV.lit (.slice none 0 0))])), (5, (AO.var 65 [(AV.lit (.int .i64 (c.at'))), (AV.sl 1 (is .i64 (c.regs)))])), (4, (AO.var 24 [(AV.lit (.int .i64 (m.regs))), (AV.sl 4 (gcells cI (m.code)))])), (3, (AO.var 65 [(AV.lit (.int .i64 (c.at'))), (AV.sl 1 (is .i64 (c.regs)))])), (2, (AO.var 24 [(AV.lit (.int .i64 (m.regs))), (AV.sl 4 (gcells cI (m.code)))]))] (Gd.yes rfl rfl (decide_eq_true (by decide))) Yv_tC39 rfl (trivial) rfl rfl (LeL.cons (AV.le_refl _) (LeL.cons (AV.le_agg (LeL.cons (AV.le_refl _) (LeL.cons (AV.le_nil' (by decide) rfl) (LeL.nil)))) (LeL.nil))) (c_vSameCfg zC (by first | assumption | omega | decide)) rfl ?_
        refine o_pickT (AV.lit (.bool true)) Gd.none rfl (decide_eq_true (by decide)) rfl ?_
        refine o_mv (AV.lit (.bool true)) rfl ?_
        refine o_loadA [(AV.lit (.int .i64 (m.regs))), (AV.sl 4 (gcells cI (m.code)))] (Gd.yes rfl rfl rfl) Yv_tA24 rfl rfl rfl rfl rfl ?_
        refine o_loadA [(AV.lit (.int .i64 (m.regs))), (AV.sl 4 (gcells cI (m.code)))] (Gd.yes rfl rfl rfl) Yv_tA24 rfl rfl rfl rfl rfl ?_
        refine o_ct (c_vSameMac m (by first | assumption | omega | decide)) (Gd.yes rfl rfl rfl) Yv_tC15 rfl ?_
        refine o_pickT (AV.lit (.bool true)) Gd.none rfl rfl rfl ?_
        refine o_mv (AV.lit (.bool true)) rfl ?_
        refine o_loadA [(AV.lit (.int .i64 (c.at'))), (AV.sl 1 (is .i64 (c.regs)))] (Gd.yes rfl rfl rfl) Yv_tA65 rfl rfl rfl rfl rfl ?_
        refine o_loadA [(AV.lit (.int .i64 (c.at'))), (AV.sl 1 (is .i64 (c.regs)))] (Gd.yes rfl rfl rfl) Yv_tA65 rfl rfl rfl rfl rfl ?_
        refine o_ct (c_vSameCfg c (by first | assumption | omega | decide)) (Gd.yes rfl rfl rfl) Yv_tC39 rfl ?_
        refine o_pickT (AV.lit (.bool true)) Gd.none rfl rfl rfl ?_
        refine o_mv (AV.lit (.bool true)) rfl ?_
        refine o_ct c_awake10 (Gd.yes rfl rfl rfl) Yv_tC16 rfl ?_
        refine o_pickT (AV.lit (.bool true)) Gd.none rfl rfl rfl ?_
        refine o_as (AV.lit (.bool true)) rfl ?_
        refine aops_end ?_
        refine hK10 _ ?_
        refine awp_ret ?_
        refine post_ret ⟨[(AV.lit (.bool true))], And.intro (AV.le_refl _) (trivial), rfl, ?_⟩
        first | rfl | simp [bp]
    · refine o_skip rfl rfl (decide_eq_false h2) ?_
      refine o_skip rfl rfl (decide_eq_false h2) ?_
      refine o_pickF (AV.lit (.bool false)) Gd.none rfl (decide_eq_false h2) rfl ?_
      refine aops_end ?_
      refine hK6 _ ?_
      refine awp_condB (b := false) rfl (fun hh => absurd (hh.symm.trans rfl) (by decide)) (fun _ => ?_)
      refine awp_skip ?_
      refine hK3 _ ?_
      refine awp_seq fun K11 hK11 => ?_
      refine awp_region rfl ?_
      refine o_loadA [(AV.lit (.int .i64 (m.regs))), (AV.sl 4 (gcells cI (m.code)))] Gd.none Yv_tA24 rfl rfl rfl rfl rfl ?_
      refine o_loadA [(AV.lit (.int .i64 (c.at'))), (AV.sl 1 (is .i64 (c.regs)))] Gd.none Yv_tA65 rfl rfl rfl rfl rfl ?_
      refine o_mv (AV.lit (.int .i64 (k))) rfl ?_
      refine o_ct (c_fRun m c (k)) Gd.none Yv_tC49 rfl ?_
      refine o_mv (AV.tup [(cfgV (rnA m c (k)).1), (nm .i64 ((rnA m c (k)).2.1)), (nm .i64 ((rnA m c (k)).2.2))]) rfl ?_
      refine o_extract (cfgV (rnA m c (k)).1) Gd.none rfl rfl ?_
      refine n_as (v' := (cfgV zC)) (by first | rw [rnA_0 h1 (by omega)] | (rw [rnA_1 h1]; try rfl) | (rw [rnA_2 h1 (by omega)]; try rfl)) ?_
      refine o_extract (nm .i64 ((rnA m c (k)).2.1)) Gd.none rfl rfl ?_
      refine n_as (v' := (nm .i64 (0))) (by first | rw [rnA_0 h1 (by omega)] | (rw [rnA_1 h1]; try rfl) | (rw [rnA_2 h1 (by omega)]; try rfl)) ?_
      refine o_extract (nm .i64 ((rnA m c (k)).2.2)) Gd.none rfl rfl ?_
      refine n_as (v' := (nm .i64 (2))) (by first | rw [rnA_0 h1 (by omega)] | (rw [rnA_1 h1]; try rfl) | (rw [rnA_2 h1 (by omega)]; try rfl)) ?_
      refine o_alloc 7 [(nm .i64 (0)), (AV.lit (.slice none 0 0))] Gd.none Yv_tO65 rfl rfl rfl ?_
      refine o_store [(7, (AO.var 65 [(AV.lit (.int .i64 (zC.at'))), (AV.sl 1 (is .i64 (zC.regs)))])), (6, (AO.var 65 [(nm .i64 (0)), (AV.lit (.slice none 0 0))])), (5, (AO.var 65 [(AV.lit (.int .i64 (c.at'))), (AV.sl 1 (is .i64 (c.regs)))])), (4, (AO.var 24 [(AV.lit (.int .i64 (m.regs))), (AV.sl 4 (gcells cI (m.code)))])), (3, (AO.var 65 [(AV.lit (.int .i64 (c.at'))), (AV.sl 1 (is .i64 (c.regs)))])), (2, (AO.var 24 [(AV.lit (.int .i64 (m.regs))), (AV.sl 4 (gcells cI (m.code)))]))] Gd.none Yv_tZ65 rfl rfl rfl rfl rfl rfl ?_
      refine o_as (nm .i64 (0)) rfl ?_
      refine o_as (nm .i64 (2)) rfl ?_
      refine aops_end ?_
      refine hK11 _ ?_
      refine awp_seq fun K12 hK12 => ?_
      refine awp_region rfl ?_
      refine o_mv (nm .i64 (2)) rfl ?_
      refine o_mv (nm .i64 (2)) rfl ?_
      refine n_eql (2) (2) Gd.none rfl rfl ?_
      refine o_mv (bp ((2) = (2))) rfl ?_
      refine o_move (nm .i64 (0)) (Gd.yes rfl rfl (decide_eq_true (by decide))) rfl ?_
      refine o_move (nm .i64 (0)) (Gd.yes rfl rfl (decide_eq_true (by decide))) rfl ?_
      refine n_eql (0) (0) (Gd.yes rfl rfl (decide_eq_true (by decide))) rfl rfl ?_
      refine o_pickT (bp ((0) = (0))) Gd.none rfl (decide_eq_true (by decide)) rfl ?_
      refine o_mv (bp ((0) = (0))) rfl ?_
      refine o_loadA [(AV.lit (.int .i64 (zC.at'))), (AV.sl 1 (is .i64 (zC.regs)))] (Gd.yes rfl rfl (decide_eq_true (by decide))) Yv_tA65 rfl rfl rfl rfl rfl ?_
      refine o_loadA [(nm .i64 (0)), (AV.lit (.slice none 0 0))] (Gd.yes rfl rfl (decide_eq_true (by decide))) Yv_tA65 rfl rfl rfl rfl rfl ?_
      refine o_callG [] [(AV.agg [(AV.lit (.int .i64 (zC.at'))), (AV.sl 1 (is .i64 (zC.regs)))]), (AV.agg [(nm .i64 (0)), (AV.lit (.slice none 0 0))])] _ (AV.lit (.bool true)) [(7, (AO.var 65 [(AV.lit (.int .i64 (zC.at'))), (AV.sl 1 (is .i64 (zC.regs)))])), (6, (AO.var 65 [(nm .i64 (0)), (AV.lit (.slice none 0 0))])), (5, (AO.var 65 [(AV.lit (.int .i64 (c.at'))), (AV.sl 1 (is .i64 (c.regs)))])), (4, (AO.var 24 [(AV.lit (.int .i64 (m.regs))), (AV.sl 4 (gcells cI (m.code)))])), (3, (AO.var 65 [(AV.lit (.int .i64 (c.at'))), (AV.sl 1 (is .i64 (c.regs)))])), (2, (AO.var 24 [(AV.lit (.int .i64 (m.regs))), (AV.sl 4 (gcells cI (m.code)))]))] (Gd.yes rfl rfl (decide_eq_true (by decide))) Yv_tC39 rfl (trivial) rfl rfl (LeL.cons (AV.le_refl _) (LeL.cons (AV.le_agg (LeL.cons (AV.le_refl _) (LeL.cons (AV.le_nil' (by decide) rfl) (LeL.nil)))) (LeL.nil))) (c_vSameCfg zC (by first | assumption | omega | decide)) rfl ?_
      refine o_pickT (AV.lit (.bool true)) Gd.none rfl (decide_eq_true (by decide)) rfl ?_
      refine o_mv (AV.lit (.bool true)) rfl ?_
      refine o_loadA [(AV.lit (.int .i64 (m.regs))), (AV.sl 4 (gcells cI (m.code)))] (Gd.yes rfl rfl rfl) Yv_tA24 rfl rfl rfl rfl rfl ?_
      refine o_loadA [(AV.lit (.int .i64 (m.regs))), (AV.sl 4 (gcells cI (m.code)))] (Gd.yes rfl rfl rfl) Yv_tA24 rfl rfl rfl rfl rfl ?_
      refine o_ct (c_vSameMac m (by first | assumption | omega | decide)) (Gd.yes rfl rfl rfl) Yv_tC15 rfl ?_
      refine o_pickT (AV.lit (.bool true)) Gd.none rfl rfl rfl ?_
      refine o_mv (AV.lit (.bool true)) rfl ?_
      refine o_loadA [(AV.lit (.int .i64 (c.at'))), (AV.sl 1 (is .i64 (c.regs)))] (Gd.yes rfl rfl rfl) Yv_tA65 rfl rfl rfl rfl rfl ?_
      refine o_loadA [(AV.lit (.int .i64 (c.at'))), (AV.sl 1 (is .i64 (c.regs)))] (Gd.yes rfl rfl rfl) Yv_tA65 rfl rfl rfl rfl rfl ?_
      refine o_ct (c_vSameCfg c (by first | assumption | omega | decide)) (Gd.yes rfl rfl rfl) Yv_tC39 rfl ?_
      refine o_pickT (AV.lit (.bool true)) Gd.none rfl rfl rfl ?_
      refine o_mv (AV.lit (.bool true)) rfl ?_
      refine o_ct c_awake10 (Gd.yes rfl rfl rfl) Yv_tC16 rfl ?_
      refine o_pickT (AV.lit (.bool true)) Gd.none rfl rfl rfl ?_
      refine o_as (AV.lit (.bool true)) rfl ?_
      refine aops_end ?_
      refine hK12 _ ?_
      refine awp_ret ?_
      refine post_ret ⟨[(AV.lit (.bool true))], And.intro (AV.le_refl _) (trivial), rfl, ?_⟩
      first | rfl | simp [bp]
  · refine awp_skip ?_
    refine hK3 _ ?_
    refine awp_seq fun K13 hK13 => ?_
    refine awp_region rfl ?_
    refine o_loadA [(AV.lit (.int .i64 (m.regs))), (AV.sl 4 (gcells cI (m.code)))] Gd.none Yv_tA24 rfl rfl rfl rfl rfl ?_
    refine o_loadA [(AV.lit (.int .i64 (c.at'))), (AV.sl 1 (is .i64 (c.regs)))] Gd.none Yv_tA65 rfl rfl rfl rfl rfl ?_
    refine o_mv (AV.lit (.int .i64 (k))) rfl ?_
    refine o_ct (c_fRun m c (k)) Gd.none Yv_tC49 rfl ?_
    refine o_mv (AV.tup [(cfgV (rnA m c (k)).1), (nm .i64 ((rnA m c (k)).2.1)), (nm .i64 ((rnA m c (k)).2.2))]) rfl ?_
    refine o_extract (cfgV (rnA m c (k)).1) Gd.none rfl rfl ?_
    refine n_as (v' := (cfgV zC)) (by first | rw [rnA_0 h1 (by omega)] | (rw [rnA_1 h1]; try rfl) | (rw [rnA_2 h1 (by omega)]; try rfl)) ?_
    refine o_extract (nm .i64 ((rnA m c (k)).2.1)) Gd.none rfl rfl ?_
    refine n_as (v' := (nm .i64 (0))) (by first | rw [rnA_0 h1 (by omega)] | (rw [rnA_1 h1]; try rfl) | (rw [rnA_2 h1 (by omega)]; try rfl)) ?_
    refine o_extract (nm .i64 ((rnA m c (k)).2.2)) Gd.none rfl rfl ?_
    refine n_as (v' := (nm .i64 (1))) (by first | rw [rnA_0 h1 (by omega)] | (rw [rnA_1 h1]; try rfl) | (rw [rnA_2 h1 (by omega)]; try rfl)) ?_
    refine o_alloc 7 [(nm .i64 (0)), (AV.lit (.slice none 0 0))] Gd.none Yv_tO65 rfl rfl rfl ?_
    refine o_store [(7, (AO.var 65 [(AV.lit (.int .i64 (zC.at'))), (AV.sl 1 (is .i64 (zC.regs)))])), (6, (AO.var 65 [(nm .i64 (0)), (AV.lit (.slice none 0 0))])), (5, (AO.var 65 [(AV.lit (.int .i64 (c.at'))), (AV.sl 1 (is .i64 (c.regs)))])), (4, (AO.var 24 [(AV.lit (.int .i64 (m.regs))), (AV.sl 4 (gcells cI (m.code)))])), (3, (AO.var 65 [(AV.lit (.int .i64 (c.at'))), (AV.sl 1 (is .i64 (c.regs)))])), (2, (AO.var 24 [(AV.lit (.int .i64 (m.regs))), (AV.sl 4 (gcells cI (m.code)))]))] Gd.none Yv_tZ65 rfl rfl rfl rfl rfl rfl ?_
    refine o_as (nm .i64 (0)) rfl ?_
    refine o_as (nm .i64 (1)) rfl ?_
    refine aops_end ?_
    refine hK13 _ ?_
    refine awp_seq fun K14 hK14 => ?_
    refine awp_region rfl ?_
    refine o_mv (nm .i64 (1)) rfl ?_
    refine o_mv (nm .i64 (1)) rfl ?_
    refine n_eql (1) (1) Gd.none rfl rfl ?_
    refine o_mv (bp ((1) = (1))) rfl ?_
    refine o_move (nm .i64 (0)) (Gd.yes rfl rfl (decide_eq_true (by decide))) rfl ?_
    refine o_move (nm .i64 (0)) (Gd.yes rfl rfl (decide_eq_true (by decide))) rfl ?_
    refine n_eql (0) (0) (Gd.yes rfl rfl (decide_eq_true (by decide))) rfl rfl ?_
    refine o_pickT (bp ((0) = (0))) Gd.none rfl (decide_eq_true (by decide)) rfl ?_
    refine o_mv (bp ((0) = (0))) rfl ?_
    refine o_loadA [(AV.lit (.int .i64 (zC.at'))), (AV.sl 1 (is .i64 (zC.regs)))] (Gd.yes rfl rfl (decide_eq_true (by decide))) Yv_tA65 rfl rfl rfl rfl rfl ?_
    refine o_loadA [(nm .i64 (0)), (AV.lit (.slice none 0 0))] (Gd.yes rfl rfl (decide_eq_true (by decide))) Yv_tA65 rfl rfl rfl rfl rfl ?_
    refine o_callG [] [(AV.agg [(AV.lit (.int .i64 (zC.at'))), (AV.sl 1 (is .i64 (zC.regs)))]), (AV.agg [(nm .i64 (0)), (AV.lit (.slice none 0 0))])] _ (AV.lit (.bool true)) [(7, (AO.var 65 [(AV.lit (.int .i64 (zC.at'))), (AV.sl 1 (is .i64 (zC.regs)))])), (6, (AO.var 65 [(nm .i64 (0)), (AV.lit (.slice none 0 0))])), (5, (AO.var 65 [(AV.lit (.int .i64 (c.at'))), (AV.sl 1 (is .i64 (c.regs)))])), (4, (AO.var 24 [(AV.lit (.int .i64 (m.regs))), (AV.sl 4 (gcells cI (m.code)))])), (3, (AO.var 65 [(AV.lit (.int .i64 (c.at'))), (AV.sl 1 (is .i64 (c.regs)))])), (2, (AO.var 24 [(AV.lit (.int .i64 (m.regs))), (AV.sl 4 (gcells cI (m.code)))]))] (Gd.yes rfl rfl (decide_eq_true (by decide))) Yv_tC39 rfl (trivial) rfl rfl (LeL.cons (AV.le_refl _) (LeL.cons (AV.le_agg (LeL.cons (AV.le_refl _) (LeL.cons (AV.le_nil' (by decide) rfl) (LeL.nil)))) (LeL.nil))) (c_vSameCfg zC (by first | assumption | omega | decide)) rfl ?_
    refine o_pickT (AV.lit (.bool true)) Gd.none rfl (decide_eq_true (by decide)) rfl ?_
    refine o_mv (AV.lit (.bool true)) rfl ?_
    refine o_loadA [(AV.lit (.int .i64 (m.regs))), (AV.sl 4 (gcells cI (m.code)))] (Gd.yes rfl rfl rfl) Yv_tA24 rfl rfl rfl rfl rfl ?_
    refine o_loadA [(AV.lit (.int .i64 (m.regs))), (AV.sl 4 (gcells cI (m.code)))] (Gd.yes rfl rfl rfl) Yv_tA24 rfl rfl rfl rfl rfl ?_
    refine o_ct (c_vSameMac m (by first | assumption | omega | decide)) (Gd.yes rfl rfl rfl) Yv_tC15 rfl ?_
    refine o_pickT (AV.lit (.bool true)) Gd.none rfl rfl rfl ?_
    refine o_mv (AV.lit (.bool true)) rfl ?_
    refine o_loadA [(AV.lit (.int .i64 (c.at'))), (AV.sl 1 (is .i64 (c.regs)))] (Gd.yes rfl rfl rfl) Yv_tA65 rfl rfl rfl rfl rfl ?_
    refine o_loadA [(AV.lit (.int .i64 (c.at'))), (AV.sl 1 (is .i64 (c.regs)))] (Gd.yes rfl rfl rfl) Yv_tA65 rfl rfl rfl rfl rfl ?_
    refine o_ct (c_vSameCfg c (by first | assumption | omega | decide)) (Gd.yes rfl rfl rfl) Yv_tC39 rfl ?_
    refine o_pickT (AV.lit (.bool true)) Gd.none rfl rfl rfl ?_
    refine o_mv (AV.lit (.bool true)) rfl ?_
    refine o_ct c_awake10 (Gd.yes rfl rfl rfl) Yv_tC16 rfl ?_
    refine o_pickT (AV.lit (.bool true)) Gd.none rfl rfl rfl ?_
    refine o_as (AV.lit (.bool true)) rfl ?_
    refine aops_end ?_
    refine hK14 _ ?_
    refine awp_ret ?_
    refine post_ret ⟨[(AV.lit (.bool true))], And.intro (AV.le_refl _) (trivial), rfl, ?_⟩
    first | rfl | simp [bp]

end Go.Proofs.YtnejjdcbbminaaaGreatDoor

set_option linter.unusedVariables false
namespace Go.Proofs.YtnejjdcbbminaaaGreatDoor.fractionRuns
open Go Go.Ab Go.Mth Go.ChangeShapes Go.WideShapes Go.ChangeAt Go.RowKit
theorem reads (os : Os) {H : Type} (enc : TypeId × Value → H) : ∃ places, DataW.whole enc Tryz.prog ((World.laidAll Tryz.prog os laid5).forCall (fun _ _ => 0) ⟨#[], #[.agg #[.int .i64 0, .slice none 0 0], .agg #[.int .i64 0, .slice none 0 0], .int .i64 0], []⟩).memory Tryz.f10.params.toList Rows.fractionRunsSpec.vars false (#[.agg #[.int .i64 0, .slice none 0 0], .agg #[.int .i64 0, .slice none 0 0], .int .i64 0] : Array Value).toList 8 = some ([.agg [.lit (.int .i64 0), .nil], .agg [.lit (.int .i64 0), .nil], .lit (.int .i64 0)], [], places) := ⟨[], by kernel_rfl⟩
theorem met (os : Os) : laidMetH Tryz.prog laid5 ((World.laidAll Tryz.prog os laid5).forCall (fun _ _ => 0) ⟨#[], #[.agg #[.int .i64 0, .slice none 0 0], .agg #[.int .i64 0, .slice none 0 0], .int .i64 0], []⟩).memory := (MakeChecks.laidMetH_plain _ _ _ (by kernel_rfl)).mpr (laidMet_laidAll _ (by kernel_rfl) (by kernel_rfl))
theorem specs {H : Type} (ds : List (DataW H)) (h : ds.length = 3) : (Rows.fractionRunsSpec.fn H ds).results = [.lit (.bool true)] ∧ (Rows.fractionRunsSpec.fn H ds).args = ds ∧ (Rows.fractionRunsSpec.fn H ds).vars = [] := by
  rcases ds with _ | ⟨d0, _ | ⟨d1, _ | ⟨d2, _ | ⟨e, t⟩⟩⟩⟩ <;> simp at h <;> exact ⟨rfl, rfl, rfl⟩
set_option maxRecDepth 100000 in
theorem opened {H : Type} (enc : TypeId × Value → H) (W : World) (base : Nat) (args : Array Value) (ds : List (DataW H)) (ps : List MemPlace) (hval : ∀ (j : Nat) t v, (#[24, 65, 3] : Array TypeId)[j]? = some t → args[j]? = some v → Value.okWide Tryz.prog W .any base t v)
    (hA : DataW.TrodAll enc Tryz.prog W 0 (fun _ => true) true [24, 65, 3] args.toList ds ps) (hsz : (DataW.weightsEach Tryz.prog [24, 65, 3] ds).all (· ≤ reachBytes) = true) : ∃ xs, RepL (memOf W) xs noLoc args.toList ∧ ECalls cx 10 xs (.lit (.bool true)) := by
  obtain ⟨v0, vs0, d0, ds0, p0, q0, hargs, rfl, rfl, h0, r0⟩ := trodAll_cons hA
  obtain ⟨v1, vs1, d1, ds1, p1, q1, rfl, rfl, rfl, h1, r1⟩ := trodAll_cons r0
  obtain ⟨v2, vs2, d2, ds2, p2, q2, rfl, rfl, rfl, h2, r2⟩ := trodAll_cons r1
  obtain ⟨rfl, rfl, rfl⟩ := trodAll_nil r2
  obtain rfl : args = #[v0, v1, v2] := by cases args; simp_all
  obtain ⟨m0, e0, bq0⟩ := rep_mac (hval 0 24 v0 rfl rfl) h0 (fun n hn => by simpa using List.all_eq_true.1 hsz n (DataW.weights_mem_each (j := 0) rfl rfl n hn))
  obtain ⟨c1, e1, bq1⟩ := rep_cfg (hval 1 65 v1 rfl rfl) h1 (fun n hn => by simpa using List.all_eq_true.1 hsz n (DataW.weights_mem_each (j := 1) rfl rfl n hn))
  obtain ⟨k2, e2, b2⟩ := rep_int (hval 2 3 v2 rfl rfl) h2
  exact ⟨[macV m0, cfgV c1, .lit (.int .i64 k2)], RepL.cons e0 (RepL.cons e1 (RepL.cons e2 (by simp only [RepL]))), c_FractionRuns m0 c1 k2 bq0 bq1⟩
set_option maxRecDepth 100000 in
theorem lifted (os : Os) (started : os.Started) (H : Type) (enc : TypeId × Value → H) (F : Stop.Interp) :
    ReturnsInHanded {} Tryz.checked os 10 .any ((OpenSpec.ofChange Rows.fractionRunsSpec).preRow enc Tryz.prog Tryz.f10 Rows.fractionRunsRow.domain false Rows.fractionRunsRow.laid) (((OpenSpec.ofChange Rows.fractionRunsSpec).at F).post enc Tryz.prog Tryz.f10 false true false false) := by
  obtain ⟨places, hx⟩ := reads os enc
  refine lifted_of (C := Tryz.checked) started cx rfl ownT (by kernel_rfl) Tryz.func10 (witness_laid #[.agg #[.int .i64 0, .slice none 0 0], .agg #[.int .i64 0, .slice none 0 0], .int .i64 0] (by kernel_rfl) (by kernel_rfl) (by kernel_rfl) (OpenSpec.preRow_of_cond 8 hx (by kernel_rfl) (fun k hk => by cases hk) (by kernel_rfl) (met os))) laidOutT (by kernel_rfl) (tb := 4) (by kernel_rfl) u4T rfl (fun ds h => specs ds (h.trans (by kernel_rfl))) (fun W h => tabG_of h) ?_
  intro W base args ds ps hval hA hsz
  exact opened enc W base args ds ps hval hA hsz
theorem said : Rows.FractionRunsSaid :=
  OpenClaim.holds_of_cond 10 Tryz.f10 rfl rfl rfl rfl rfl rfl rfl ⟨rfl, rfl, rfl, rfl, rfl⟩ rfl rfl rfl rfl rfl (by kernel_rfl) Tryz.func10 (by kernel_rfl)
    (of_decide_eq_true (by kernel_rfl)) (by unfold Func.isWrapper; first | (rw [if_pos (by decide +kernel)]; kernel_rfl) | (rw [if_neg (by decide +kernel)]; exact ⟨rfl, rfl⟩))
    (fun os started H enc _ F => by rw [OpenClaim.pre_eq_preRow]; exact lifted os started H enc F)
theorem plain (f : FuncId) (fn : Func) (hf : Tryz.pinned.checked.prog.funcNamed "katabasis/katabasislaw10.FractionRuns" = some f) (hfn : Tryz.pinned.checked.prog.funcs[f]? = some fn) :
    true = Tryz.pinned.checked.prog.looks [] ∧ ∀ (j : Nat) t, fn.params[j]? = some t → Tryz.pinned.checked.prog.wantsStandIn t = false := by
  obtain rfl : f = 10 := Option.some.inj ((show Tryz.prog.funcNamed "katabasis/katabasislaw10.FractionRuns" = some 10 by kernel_rfl).symm.trans hf) |>.symm
  obtain rfl : fn = Tryz.f10 := (Option.some.inj (Tryz.func10.symm.trans hfn)).symm
  refine ⟨by kernel_rfl, fun j t ht => ?_⟩
  rw [Tryz.params10] at ht
  have : t = 24 ∨ t = 65 ∨ t = 3 := by have h := Array.mem_of_getElem? ht; simp at h; first | exact h | (rcases h with h | h | h | h <;> simp [h]) | (rcases h with h | h | h <;> simp [h]) | (rcases h with h | h <;> simp [h])
  rcases this with rfl | rfl | rfl
  · exact (show Tryz.prog.wantsStandIn 24 = false by kernel_rfl)
  · exact (show Tryz.prog.wantsStandIn 65 = false by kernel_rfl)
  · exact (show Tryz.prog.wantsStandIn 3 = false by kernel_rfl)
end Go.Proofs.YtnejjdcbbminaaaGreatDoor.fractionRuns
namespace Go.Proofs.YtnejjdcbbminaaaGreatDoor
open Go
theorem fractionRuns_holds : Rows.FractionRunsCardSaid :=
  Claim7.holds_tied_plain_at .later [] _ _ _ _ fractionRuns.said (fun _ h => by cases h) (by kernel_rfl) (fun _ h => by cases h) fractionRuns_row_tie rfl ⟨rfl, rfl⟩ (by kernel_rfl) rfl fractionRuns.plain (by kernel_rfl)
#print axioms fractionRuns_holds
end Go.Proofs.YtnejjdcbbminaaaGreatDoor

