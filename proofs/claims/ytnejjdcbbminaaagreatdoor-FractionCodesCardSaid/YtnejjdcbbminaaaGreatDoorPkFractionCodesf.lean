/- The law 'katabasislaw10.FractionCodes' is true for every machine, configuration and string: Encode and Decode return the documented number and configuration, or the documented errors. Its condition: none but the row's own (the listed tables of the library). -/
import Derived.Test.YtnejjdcbbminaaaGreatDoorPkFractionCodese
set_option linter.unusedVariables false
set_option linter.unusedSimpArgs false
namespace Go.Proofs.YtnejjdcbbminaaaGreatDoor
open Go Go.Ab Go.Mth
theorem Ye_tA24 : tyAgg cx.P 24 = some 2 := by kernel_rfl
theorem Ye_tC46 : callable cx.P 46 = true := by kernel_rfl
theorem Ye_tF24_1 : tyField cx.P 24 1 = some (1, 22) := by kernel_rfl
theorem Ye_tS22 : tySc cx.P 22 = true := by kernel_rfl
theorem Ye_tU22 : cx.P.underlying 22 = some (.slice 88) := by kernel_rfl
theorem Ye_tE22 : tyElem cx.P 22 = some (88, 4, 32) := by kernel_rfl
theorem Ye_tA88 : tyAgg cx.P 88 = some 4 := by kernel_rfl
theorem Ye_tO88 : tyZero cx.P 88 = some [(Go.Value.int IntKind.i64 0), (Go.Value.int IntKind.i64 0), (Go.Value.int IntKind.i64 0), (Go.Value.int IntKind.i64 0)] := by kernel_rfl
theorem Ye_tZ88 : tySize cx.P 88 = some 4 := by kernel_rfl
theorem Ye_tC56 : callable cx.P 56 = true := by kernel_rfl
theorem Ye_tF88_1 : tyField cx.P 88 1 = some (1, 3) := by kernel_rfl
theorem Ye_tS3 : tySc cx.P 3 = true := by kernel_rfl
theorem Ye_tR89 : tyArr cx.P 89 = some (30, 3, 1) := by kernel_rfl
theorem Ye_tF88_0 : tyField cx.P 88 0 = some (0, 3) := by kernel_rfl
theorem Ye_tF88_2 : tyField cx.P 88 2 = some (2, 3) := by kernel_rfl
theorem Ye_tC58 : callable cx.P 58 = true := by kernel_rfl
theorem Ye_tC59 : callable cx.P 59 = true := by kernel_rfl
theorem Ye_tC57 : callable cx.P 57 = true := by kernel_rfl
theorem Ye_tE26 : tyElem cx.P 26 = some (52, 2, 32) := by kernel_rfl
theorem Ye_tO52 : tyZero cx.P 52 = some [(Go.Value.string {data := #[]}), (Go.Value.string {data := #[]})] := by kernel_rfl
theorem Ye_tF88_3 : tyField cx.P 88 3 = some (3, 3) := by kernel_rfl
theorem Ye_tA65 : tyAgg cx.P 65 = some 2 := by kernel_rfl
theorem Ye_tC47 : callable cx.P 47 = true := by kernel_rfl
theorem Ye_tF65_0 : tyField cx.P 65 0 = some (0, 3) := by kernel_rfl
theorem Ye_tC82 : callable cx.P 82 = true := by kernel_rfl
theorem Ye_tF65_1 : tyField cx.P 65 1 = some (1, 37) := by kernel_rfl
theorem Ye_tS37 : tySc cx.P 37 = true := by kernel_rfl
theorem Ye_tU37 : cx.P.underlying 37 = some (.slice 3) := by kernel_rfl
theorem Ye_tE37 : tyElem cx.P 37 = some (3, 1, 8) := by kernel_rfl
theorem Ye_tC83 : callable cx.P 83 = true := by kernel_rfl
theorem Ye_tC72 : callable cx.P 72 = true := by kernel_rfl
theorem c_Compile (m : Mac) : ECalls cx 13 [(macV m)] (.tup [.sl 2 (gcells cF (cmpR m)), nm .i64 (cmpE m)]) := by
  refine ecalls_of_awp Tryz.func13 (c := _) rfl (Nat.le_of_ble_eq_true rfl) ?_
  show awp cx 81 _ (postF cx Tryz.f13 _) ⟨[(0, (macV m))], []⟩
  refine awp_seq fun K0 hK0 => ?_
  refine awp_region rfl ?_
  refine o_box 2 [(AV.lit (.int .i64 (m.regs))), (AV.sl 4 (gcells cI (m.code)))] Gd.none rfl rfl ?_
  refine o_as (AV.lit (.slice none 0 0)) rfl ?_
  refine o_as (nm .i64 (0)) rfl ?_
  refine aops_end ?_
  refine hK0 _ ?_
  refine awp_seq fun K1 hK1 => ?_
  refine awp_seq fun K2 hK2 => ?_
  refine awp_region rfl ?_
  refine o_loadA [(AV.lit (.int .i64 (m.regs))), (AV.sl 4 (gcells cI (m.code)))] Gd.none Ye_tA24 rfl rfl rfl rfl rfl ?_
  refine o_ct (c_fValid m) Gd.none Ye_tC46 rfl ?_
  refine o_notP (q := okMac m) Gd.none rfl ?_
  refine aops_end ?_
  refine hK2 _ ?_
  refine awp_condQ (q := ¬ (okMac m)) rfl (fun h1 => ?_) (fun h1 => ?_)
  · refine awp_seq fun K3 hK3 => ?_
    refine awp_region rfl ?_
    refine o_as (AV.lit (.slice none 0 0)) rfl ?_
    refine o_as (nm .i64 (1)) rfl ?_
    refine aops_end ?_
    refine hK3 _ ?_
    refine awp_ret ?_
    refine post_ret ⟨[(AV.sl 2 (gcells cF ([]))), (nm .i64 (1))], And.intro (AV.le_nil' (by decide) (by first | rfl | simp [digs_zero, ns, is])) (And.intro (AV.le_refl _) (trivial)), rfl, ?_⟩
    rw [cmpR, cmpE, if_neg (by assumption), if_neg (by assumption)]; rfl
  · have hM := Decidable.not_not.1 h1
    have hM2 := hM
    obtain ⟨o1, o2, o3, o4, o5⟩ := hM2
    refine awp_skip ?_
    refine hK1 _ ?_
    refine awp_seq fun K4 hK4 => ?_
    refine awp_region rfl ?_
    refine o_as (AV.lit (.slice none 0 0)) rfl ?_
    refine aops_end ?_
    refine hK4 _ ?_
    refine awp_seq fun K5 hK5 => ?_
    refine awp_seq fun K6 hK6 => ?_
    refine awp_region rfl ?_
    refine o_fieldRef 1 Gd.none Ye_tF24_1 rfl rfl ?_
    refine o_loadS (AV.sl 4 (gcells cI (m.code))) Gd.none Ye_tS22 rfl rfl rfl ?_
    refine g_len cI (m.code) cI_len Gd.none Ye_tU22 rfl ?_
    refine o_mv (nm .i64 (0)) rfl ?_
    refine aops_end ?_
    refine hK6 _ ?_
    refine awp_block ?_
    refine awp_loopR (fun κ σ => ∃ (i : Nat), (i ≤ m.code.length) ∧ (m.code.length - i) = κ ∧ σ = ⟨[(1, (AV.ref 2 (0))), (4, (AV.row 50)), (13, (AV.sl 4 (gcells cI (m.code)))), (14, (nm .i64 (m.code.length))), (15, (nm .i64 (i)))], [(2, (AO.var 24 [(AV.lit (.int .i64 (m.regs))), (AV.sl 4 (gcells cI (m.code)))])), (50, (AO.row 52 2 (gcells cF (cmp1 m i))))]⟩) ⟨_, _, ⟨0, (by omega), rfl, rfl⟩, ?wk0⟩ ?rd0
    case wk0 =>
      exact Wk.trans (Wk.newNil (i := 4) (id := 503) (e := 52) (sz := 2) rfl rfl (by decide)) (Wk.trans (Wk.sub (σ' := ⟨[(1, (AV.ref 2 (0))), (4, (AV.row 503)), (13, (AV.sl 4 (gcells cI (m.code)))), (14, (nm .i64 ((m.code).length))), (15, (nm .i64 (0)))], [(2, (AO.var 24 [(AV.lit (.int .i64 (m.regs))), (AV.sl 4 (gcells cI (m.code)))])), (503, (AO.row 52 2 (gcells cF ([]))))]⟩) (And.intro rfl (And.intro rfl (And.intro rfl (And.intro rfl (And.intro rfl (trivial)))))) (And.intro rfl (And.intro rfl (trivial)))) (Wk.trans (Wk.ren (id := 503) (id' := 50) rfl) (Wk.sub (And.intro rfl (And.intro (by first | rfl | (simp)) (And.intro rfl (And.intro (by first | rfl | exact congrArg (nm _) (by omega) | exact nm_int (by omega) | exact nm_int (by simp [IntKind.wrap, IntKind.bits, IntKind.signed]; omega)) (And.intro (by first | rfl | exact congrArg (nm _) (by omega) | exact nm_int (by omega) | exact nm_int (by simp [IntKind.wrap, IntKind.bits, IntKind.signed]; omega)) (trivial)))))) (And.intro (by first | rfl | (exact row_gs (by first | exact cmp1_a rfl (by omega) | exact cmp1_b rfl (by omega) | rfl | (rw [show i = m.code.length by omega]; rfl)))) (And.intro (by first | rfl | exact row_ns (by simp) | (exact row_gs (by first | exact cmp1_a rfl (by omega) | exact cmp1_b rfl (by omega) | rfl | (rw [show i = m.code.length by omega]; rfl)))) (trivial))))))
    rintro κ _ ⟨i, hi, rfl, rfl⟩
    have hle := cmp1_len m i
    refine awp_seq fun K7 hK7 => ?_
    refine awp_region rfl ?_
    refine n_lss (i) (m.code.length) Gd.none rfl rfl ?_
    refine aops_end ?_
    refine hK7 _ ?_
    refine awp_seq fun K8 hK8 => ?_
    refine awp_condQ (q := (i) < (m.code.length)) rfl (fun h2 => ?_) (fun h2 => ?_)
    · have hx := o5 _ (gdm (d := default) h2)
      obtain ⟨⟨x1, x2, x3⟩, x4⟩ := hx
      unfold plc at x3 x4
      have b1 := p30_bd ((m.code).getD (i) default).reg.toNat
      have b2 := twnP_bd m ((m.code).getD (i) default).next
      have b3 := ownP_bd m ((i : Nat) : Int)
      have b4 := Nat.mul_le_mul b2 b1
      have b5 := Nat.mul_le_mul b3 b1
      have b6 := twnP_bd m ((m.code).getD (i) default).els
      refine awp_skip ?_
      refine hK8 _ ?_
      refine awp_seq fun K9 hK9 => ?_
      refine awp_block ?_
      refine awp_seq fun K10 hK10 => ?_
      refine awp_region rfl ?_
      refine o_mv (nm .i64 (i)) rfl ?_
      refine g_index cI (m.code) (i) cI_len rfl Gd.none Ye_tE22 rfl rfl (by omega) ?_
      refine g_loadA cI (m.code) (i) default cI_len Gd.none Ye_tA88 rfl (by omega) ?_
      refine o_alloc 101 [(nm .i64 (0)), (nm .i64 (0)), (nm .i64 (0)), (nm .i64 (0))] Gd.none Ye_tO88 rfl rfl rfl ?_
      refine o_as (nm .i64 (i)) rfl ?_
      refine o_store [(101, (AO.var 88 [(AV.lit (.int .i64 ((((m.code).getD (i) default)).kind))), (AV.lit (.int .i64 ((((m.code).getD (i) default)).reg))), (AV.lit (.int .i64 ((((m.code).getD (i) default)).next))), (AV.lit (.int .i64 ((((m.code).getD (i) default)).els)))])), (2, (AO.var 24 [(AV.lit (.int .i64 (m.regs))), (AV.sl 4 (gcells cI (m.code)))])), (50, (AO.row 52 2 (gcells cF (cmp1 m i))))] Gd.none Ye_tZ88 rfl rfl rfl rfl rfl rfl ?_
      refine aops_end ?_
      refine hK10 _ ?_
      refine awp_seq fun K11 hK11 => ?_
      refine awp_regionD rfl ?_
      refine o_ct c_primes Gd.none Ye_tC56 rfl ?_
      refine o_fieldRef 1 Gd.none Ye_tF88_1 rfl rfl ?_
      refine o_loadS (AV.lit (.int .i64 ((((m.code).getD (i) default)).reg))) Gd.none Ye_tS3 rfl rfl rfl ?_
      refine n_as (v' := (nm .i64 (((m.code).getD (i) default).reg.toNat))) (nm_int (by omega)) ?_
      refine n_indexAgg (P30) (((m.code).getD (i) default).reg.toNat) Gd.none Ye_tR89 Ye_tS3 rfl rfl (by rfl) (by omega) ?_
      refine o_as (nm .i64 ((P30).getD (((m.code).getD (i) default).reg.toNat) 0)) rfl ?_
      refine aops_end ⟨by kernel_rfl, ?_⟩
      refine hK11 _ ?_
      refine awp_seq fun K12 hK12 => ?_
      refine awp_seq fun K13 hK13 => ?_
      refine awp_region rfl ?_
      refine o_fieldRef 0 Gd.none Ye_tF88_0 rfl rfl ?_
      refine o_loadS (AV.lit (.int .i64 ((((m.code).getD (i) default)).kind))) Gd.none Ye_tS3 rfl rfl rfl ?_
      refine o_eql (a := ((((m.code).getD (i) default)).kind)) (c := (((0 : Nat) : Int))) Gd.none rfl rfl ?_
      refine aops_end ?_
      refine hK13 _ ?_
      refine awp_condQ (q := ((((m.code).getD (i) default)).kind) = (((0 : Nat) : Int))) rfl (fun h3 => ?_) (fun h3 => ?_)
      · refine awp_seq fun K14 hK14 => ?_
        refine awp_regionD rfl ?_
        refine o_mv (AV.row 50) rfl ?_
        refine o_loadA [(AV.lit (.int .i64 (m.regs))), (AV.sl 4 (gcells cI (m.code)))] Gd.none Ye_tA24 rfl rfl rfl rfl rfl ?_
        refine o_fieldRef 2 Gd.none Ye_tF88_2 rfl rfl ?_
        refine o_loadS (AV.lit (.int .i64 ((((m.code).getD (i) default)).next))) Gd.none Ye_tS3 rfl rfl rfl ?_
        refine o_ct (c_twin m ((((m.code).getD (i) default)).next) (by omega) (by omega) (by omega) (by omega)) Gd.none Ye_tC58 rfl ?_
        refine o_mv (nm .i64 ((P30).getD (((m.code).getD (i) default).reg.toNat) 0)) rfl ?_
        refine n_mul (twnP m ((((m.code).getD (i) default)).next)) ((P30).getD (((m.code).getD (i) default).reg.toNat) 0) Gd.none rfl rfl (by simp only [topOf]; omega) ?_
        refine o_loadA [(AV.lit (.int .i64 (m.regs))), (AV.sl 4 (gcells cI (m.code)))] Gd.none Ye_tA24 rfl rfl rfl rfl rfl ?_
        refine o_mv (nm .i64 (i)) rfl ?_
        refine o_ct (c_own m (((i : Nat) : Int)) (by omega) (by omega) (by omega) (by omega)) Gd.none Ye_tC59 rfl ?_
        refine o_ct (c_frac ((twnP m ((((m.code).getD (i) default)).next)) * ((P30).getD (((m.code).getD (i) default).reg.toNat) 0)) (ownP m (((i : Nat) : Int))) (by omega) (by omega)) Gd.none Ye_tC57 rfl ?_
        refine o_buildSlice 102 (gcells cF ([(Frc.mk (txt (((twnP m ((((m.code).getD (i) default)).next)) * ((P30).getD (((m.code).getD (i) default).reg.toNat) 0) : Nat) : Int)) (txt ((ownP m (((i : Nat) : Int)) : Nat) : Int)))])) [(0, [(AV.lit (.string (txt (((twnP m ((((m.code).getD (i) default)).next)) * ((P30).getD (((m.code).getD (i) default).reg.toNat) 0) : Nat) : Int)))), (AV.lit (.string (txt ((ownP m (((i : Nat) : Int)) : Nat) : Int))))])] Gd.none Ye_tE26 rfl Ye_tO52 rfl rfl rfl rfl rfl rfl rfl ?_
        refine g_append cF 103 (cmp1 m i) ([(Frc.mk (txt (((twnP m ((((m.code).getD (i) default)).next)) * ((P30).getD (((m.code).getD (i) default).reg.toNat) 0) : Nat) : Int)) (txt ((ownP m (((i : Nat) : Int)) : Nat) : Int)))]) [(102, (AO.row 52 2 (gcells cF ([(Frc.mk (txt (((twnP m ((((m.code).getD (i) default)).next)) * ((P30).getD (((m.code).getD (i) default).reg.toNat) 0) : Nat) : Int)) (txt ((ownP m (((i : Nat) : Int)) : Nat) : Int)))])))), (101, (AO.var 88 [(AV.lit (.int .i64 ((((m.code).getD (i) default)).kind))), (AV.lit (.int .i64 ((((m.code).getD (i) default)).reg))), (AV.lit (.int .i64 ((((m.code).getD (i) default)).next))), (AV.lit (.int .i64 ((((m.code).getD (i) default)).els)))])), (2, (AO.var 24 [(AV.lit (.int .i64 (m.regs))), (AV.sl 4 (gcells cI (m.code)))]))] cF_len rfl Gd.none Ye_tE26 Ye_tO52 rfl rfl rfl rfl rfl (by simp only [List.length_append, List.length_cons, List.length_nil]; omega) (by simp only [List.length_append, List.length_cons, List.length_nil]; omega) rfl rfl ?_
        refine o_as (AV.row 103) rfl ?_
        refine aops_end ⟨by kernel_rfl, ?_⟩
        refine hK14 _ ?_
        refine awp_exit ?_
        refine hK9 _ ?_
        refine awp_region rfl ?_
        refine n_add (i) (1) Gd.none rfl rfl (by simp only [topOf]; omega) ?_
        refine o_mv (nm .i64 ((i) + (1))) rfl ?_
        refine aops_end ?_
        refine ⟨_, _, ?lt, ⟨i + 1, (by omega), rfl, rfl⟩, ?wk⟩
        case lt => omega
        case wk => exact Wk.trans (Wk.sub (σ' := ⟨[(1, (AV.ref 2 (0))), (4, (AV.row 103)), (13, (AV.sl 4 (gcells cI (m.code)))), (14, (nm .i64 (m.code.length))), (15, (nm .i64 ((i) + (1))))], [(2, (AO.var 24 [(AV.lit (.int .i64 (m.regs))), (AV.sl 4 (gcells cI (m.code)))])), (103, (AO.row 52 2 (gcells cF ((cmp1 m i) ++ ([(Frc.mk (txt (((twnP m ((((m.code).getD (i) default)).next)) * ((P30).getD (((m.code).getD (i) default).reg.toNat) 0) : Nat) : Int)) (txt ((ownP m (((i : Nat) : Int)) : Nat) : Int)))])))))]⟩) (And.intro rfl (And.intro rfl (And.intro rfl (And.intro rfl (And.intro rfl (trivial)))))) (And.intro rfl (And.intro rfl (trivial)))) (Wk.trans (Wk.ren (id := 103) (id' := 50) rfl) (Wk.sub (And.intro rfl (And.intro (by first | rfl | (simp)) (And.intro rfl (And.intro rfl (And.intro (by first | rfl | exact congrArg (nm _) (by omega) | exact nm_int (by omega) | exact nm_int (by simp [IntKind.wrap, IntKind.bits, IntKind.signed]; omega)) (trivial)))))) (And.intro rfl (And.intro (by first | rfl | exact row_ns (by simp) | (exact row_gs (by first | exact cmp1_a rfl (by omega) | exact cmp1_b rfl (by omega) | rfl | (rw [show i = m.code.length by omega]; rfl)))) (trivial)))))
      · refine awp_skip ?_
        refine hK12 _ ?_
        refine awp_regionD rfl ?_
        refine o_mv (AV.row 50) rfl ?_
        refine o_loadA [(AV.lit (.int .i64 (m.regs))), (AV.sl 4 (gcells cI (m.code)))] Gd.none Ye_tA24 rfl rfl rfl rfl rfl ?_
        refine o_fieldRef 2 Gd.none Ye_tF88_2 rfl rfl ?_
        refine o_loadS (AV.lit (.int .i64 ((((m.code).getD (i) default)).next))) Gd.none Ye_tS3 rfl rfl rfl ?_
        refine o_ct (c_twin m ((((m.code).getD (i) default)).next) (by omega) (by omega) (by omega) (by omega)) Gd.none Ye_tC58 rfl ?_
        refine o_loadA [(AV.lit (.int .i64 (m.regs))), (AV.sl 4 (gcells cI (m.code)))] Gd.none Ye_tA24 rfl rfl rfl rfl rfl ?_
        refine o_mv (nm .i64 (i)) rfl ?_
        refine o_ct (c_own m (((i : Nat) : Int)) (by omega) (by omega) (by omega) (by omega)) Gd.none Ye_tC59 rfl ?_
        refine o_mv (nm .i64 ((P30).getD (((m.code).getD (i) default).reg.toNat) 0)) rfl ?_
        refine n_mul (ownP m (((i : Nat) : Int))) ((P30).getD (((m.code).getD (i) default).reg.toNat) 0) Gd.none rfl rfl (by simp only [topOf]; omega) ?_
        refine o_ct (c_frac (twnP m ((((m.code).getD (i) default)).next)) ((ownP m (((i : Nat) : Int))) * ((P30).getD (((m.code).getD (i) default).reg.toNat) 0)) (by omega) (by omega)) Gd.none Ye_tC57 rfl ?_
        refine o_loadA [(AV.lit (.int .i64 (m.regs))), (AV.sl 4 (gcells cI (m.code)))] Gd.none Ye_tA24 rfl rfl rfl rfl rfl ?_
        refine o_fieldRef 3 Gd.none Ye_tF88_3 rfl rfl ?_
        refine o_loadS (AV.lit (.int .i64 ((((m.code).getD (i) default)).els))) Gd.none Ye_tS3 rfl rfl rfl ?_
        refine o_ct (c_twin m ((((m.code).getD (i) default)).els) (by omega) (by omega) (by omega) (by omega)) Gd.none Ye_tC58 rfl ?_
        refine o_loadA [(AV.lit (.int .i64 (m.regs))), (AV.sl 4 (gcells cI (m.code)))] Gd.none Ye_tA24 rfl rfl rfl rfl rfl ?_
        refine o_mv (nm .i64 (i)) rfl ?_
        refine o_ct (c_own m (((i : Nat) : Int)) (by omega) (by omega) (by omega) (by omega)) Gd.none Ye_tC59 rfl ?_
        refine o_ct (c_frac (twnP m ((((m.code).getD (i) default)).els)) (ownP m (((i : Nat) : Int))) (by omega) (by omega)) Gd.none Ye_tC57 rfl ?_
        refine o_buildSlice 102 (gcells cF ([(Frc.mk (txt ((twnP m ((((m.code).getD (i) default)).next) : Nat) : Int)) (txt (((ownP m (((i : Nat) : Int))) * ((P30).getD (((m.code).getD (i) default).reg.toNat) 0) : Nat) : Int))), (Frc.mk (txt ((twnP m ((((m.code).getD (i) default)).els) : Nat) : Int)) (txt ((ownP m (((i : Nat) : Int)) : Nat) : Int)))])) [(0, [(AV.lit (.string (txt ((twnP m ((((m.code).getD (i) default)).next) : Nat) : Int)))), (AV.lit (.string (txt (((ownP m (((i : Nat) : Int))) * ((P30).getD (((m.code).getD (i) default).reg.toNat) 0) : Nat) : Int))))]), (1, [(AV.lit (.string (txt ((twnP m ((((m.code).getD (i) default)).els) : Nat) : Int)))), (AV.lit (.string (txt ((ownP m (((i : Nat) : Int)) : Nat) : Int))))])] Gd.none Ye_tE26 rfl Ye_tO52 rfl rfl rfl rfl rfl rfl rfl ?_
        refine g_append cF 103 (cmp1 m i) ([(Frc.mk (txt ((twnP m ((((m.code).getD (i) default)).next) : Nat) : Int)) (txt (((ownP m (((i : Nat) : Int))) * ((P30).getD (((m.code).getD (i) default).reg.toNat) 0) : Nat) : Int))), (Frc.mk (txt ((twnP m ((((m.code).getD (i) default)).els) : Nat) : Int)) (txt ((ownP m (((i : Nat) : Int)) : Nat) : Int)))]) [(102, (AO.row 52 2 (gcells cF ([(Frc.mk (txt ((twnP m ((((m.code).getD (i) default)).next) : Nat) : Int)) (txt (((ownP m (((i : Nat) : Int))) * ((P30).getD (((m.code).getD (i) default).reg.toNat) 0) : Nat) : Int))), (Frc.mk (txt ((twnP m ((((m.code).getD (i) default)).els) : Nat) : Int)) (txt ((ownP m (((i : Nat) : Int)) : Nat) : Int)))])))), (101, (AO.var 88 [(AV.lit (.int .i64 ((((m.code).getD (i) default)).kind))), (AV.lit (.int .i64 ((((m.code).getD (i) default)).reg))), (AV.lit (.int .i64 ((((m.code).getD (i) default)).next))), (AV.lit (.int .i64 ((((m.code).getD (i) default)).els)))])), (2, (AO.var 24 [(AV.lit (.int .i64 (m.regs))), (AV.sl 4 (gcells cI (m.code)))]))] cF_len rfl Gd.none Ye_tE26 Ye_tO52 rfl rfl rfl rfl rfl (by simp only [List.length_append, List.length_cons, List.length_nil]; omega) (by simp only [List.length_append, List.length_cons, List.length_nil]; omega) rfl rfl ?_
        refine o_as (AV.row 103) rfl ?_
        refine aops_end ⟨by kernel_rfl, ?_⟩
        refine hK9 _ ?_
        refine awp_region rfl ?_
        refine n_add (i) (1) Gd.none rfl rfl (by simp only [topOf]; omega) ?_
        refine o_mv (nm .i64 ((i) + (1))) rfl ?_
        refine aops_end ?_
        refine ⟨_, _, ?lt, ⟨i + 1, (by omega), rfl, rfl⟩, ?wk⟩
        case lt => omega
        case wk => exact Wk.trans (Wk.sub (σ' := ⟨[(1, (AV.ref 2 (0))), (4, (AV.row 103)), (13, (AV.sl 4 (gcells cI (m.code)))), (14, (nm .i64 (m.code.length))), (15, (nm .i64 ((i) + (1))))], [(2, (AO.var 24 [(AV.lit (.int .i64 (m.regs))), (AV.sl 4 (gcells cI (m.code)))])), (103, (AO.row 52 2 (gcells cF ((cmp1 m i) ++ ([(Frc.mk (txt ((twnP m ((((m.code).getD (i) default)).next) : Nat) : Int)) (txt (((ownP m (((i : Nat) : Int))) * ((P30).getD (((m.code).getD (i) default).reg.toNat) 0) : Nat) : Int))), (Frc.mk (txt ((twnP m ((((m.code).getD (i) default)).els) : Nat) : Int)) (txt ((ownP m (((i : Nat) : Int)) : Nat) : Int)))])))))]⟩) (And.intro rfl (And.intro rfl (And.intro rfl (And.intro rfl (And.intro rfl (trivial)))))) (And.intro rfl (And.intro rfl (trivial)))) (Wk.trans (Wk.ren (id := 103) (id' := 50) rfl) (Wk.sub (And.intro rfl (And.intro (by first | rfl | (simp)) (And.intro rfl (And.intro rfl (And.intro (by first | rfl | exact congrArg (nm _) (by omega) | exact nm_int (by omega) | exact nm_int (by simp [IntKind.wrap, IntKind.bits, IntKind.signed]; omega)) (trivial)))))) (And.intro rfl (And.intro (by first | rfl | exact row_ns (by simp) | (exact row_gs (by first | exact cmp1_a rfl (by omega) | exact cmp1_b rfl (by omega) | rfl | (rw [show i = m.code.length by omega]; rfl)))) (trivial)))))
    · refine awp_exit ?_
      refine hK5 _ ?_
      refine awp_seq fun K15 hK15 => ?_
      refine awp_seq fun K16 hK16 => ?_
      refine awp_region rfl ?_
      refine o_fieldRef 1 Gd.none Ye_tF24_1 rfl rfl ?_
      refine o_loadS (AV.sl 4 (gcells cI (m.code))) Gd.none Ye_tS22 rfl rfl rfl ?_
      refine g_len cI (m.code) cI_len Gd.none Ye_tU22 rfl ?_
      refine n_add ((m.code).length) (1) Gd.none rfl rfl (by simp only [topOf]; omega) ?_
      refine o_mv (nm .i64 (0)) rfl ?_
      refine aops_end ?_
      refine hK16 _ ?_
      refine awp_block ?_
      refine awp_loopR (fun κ σ => ∃ (j : Nat), (j ≤ m.code.length + 1) ∧ (m.code.length + 1 - j) = κ ∧ σ = ⟨[(1, (AV.ref 2 (0))), (4, (AV.row 50)), (65, (nm .i64 (m.code.length + 1))), (66, (nm .i64 (j)))], [(2, (AO.var 24 [(AV.lit (.int .i64 (m.regs))), (AV.sl 4 (gcells cI (m.code)))])), (50, (AO.row 52 2 (gcells cF (cmp2 m j))))]⟩) ⟨_, _, ⟨0, (by omega), rfl, rfl⟩, ?wk1⟩ ?rd1
      case wk1 =>
        exact Wk.sub (And.intro rfl (And.intro rfl (And.intro (by first | rfl | exact congrArg (nm _) (by omega) | exact nm_int (by omega) | exact nm_int (by simp [IntKind.wrap, IntKind.bits, IntKind.signed]; omega)) (And.intro (by first | rfl | exact congrArg (nm _) (by omega) | exact nm_int (by omega) | exact nm_int (by simp [IntKind.wrap, IntKind.bits, IntKind.signed]; omega)) (trivial))))) (And.intro rfl (And.intro (by first | rfl | exact row_ns (by simp) | (exact row_gs (by first | exact cmp1_a rfl (by omega) | exact cmp1_b rfl (by omega) | rfl | (rw [show i = m.code.length by omega]; rfl)))) (trivial)))
      rintro κ _ ⟨j, hj, rfl, rfl⟩
      have hle := cmp2_len m j
      refine awp_seq fun K17 hK17 => ?_
      refine awp_region rfl ?_
      refine n_lss (j) (m.code.length + 1) Gd.none rfl rfl ?_
      refine aops_end ?_
      refine hK17 _ ?_
      refine awp_seq fun K18 hK18 => ?_
      refine awp_condQ (q := (j) < (m.code.length + 1)) rfl (fun h4 => ?_) (fun h4 => ?_)
      · have b7 := ownP_bd m ((j : Nat) : Int)
        have b8 := twnP_bd m ((j : Nat) : Int)
        refine awp_skip ?_
        refine hK18 _ ?_
        refine awp_seq fun K19 hK19 => ?_
        refine awp_block ?_
        refine awp_seq fun K20 hK20 => ?_
        refine awp_region rfl ?_
        refine o_mv (nm .i64 (j)) rfl ?_
        refine o_as (nm .i64 (j)) rfl ?_
        refine aops_end ?_
        refine hK20 _ ?_
        refine awp_regionD rfl ?_
        refine o_mv (AV.row 50) rfl ?_
        refine o_loadA [(AV.lit (.int .i64 (m.regs))), (AV.sl 4 (gcells cI (m.code)))] Gd.none Ye_tA24 rfl rfl rfl rfl rfl ?_
        refine o_mv (nm .i64 (j)) rfl ?_
        refine o_ct (c_own m (((j : Nat) : Int)) (by omega) (by omega) (by omega) (by omega)) Gd.none Ye_tC59 rfl ?_
        refine o_loadA [(AV.lit (.int .i64 (m.regs))), (AV.sl 4 (gcells cI (m.code)))] Gd.none Ye_tA24 rfl rfl rfl rfl rfl ?_
        refine o_mv (nm .i64 (j)) rfl ?_
        refine o_ct (c_twin m (((j : Nat) : Int)) (by omega) (by omega) (by omega) (by omega)) Gd.none Ye_tC58 rfl ?_
        refine o_ct (c_frac (ownP m (((j : Nat) : Int))) (twnP m (((j : Nat) : Int))) (by omega) (by omega)) Gd.none Ye_tC57 rfl ?_
        refine o_buildSlice 201 (gcells cF ([(Frc.mk (txt ((ownP m (((j : Nat) : Int)) : Nat) : Int)) (txt ((twnP m (((j : Nat) : Int)) : Nat) : Int)))])) [(0, [(AV.lit (.string (txt ((ownP m (((j : Nat) : Int)) : Nat) : Int)))), (AV.lit (.string (txt ((twnP m (((j : Nat) : Int)) : Nat) : Int))))])] Gd.none Ye_tE26 rfl Ye_tO52 rfl rfl rfl rfl rfl rfl rfl ?_
        refine g_append cF 202 (cmp2 m j) ([(Frc.mk (txt ((ownP m (((j : Nat) : Int)) : Nat) : Int)) (txt ((twnP m (((j : Nat) : Int)) : Nat) : Int)))]) [(201, (AO.row 52 2 (gcells cF ([(Frc.mk (txt ((ownP m (((j : Nat) : Int)) : Nat) : Int)) (txt ((twnP m (((j : Nat) : Int)) : Nat) : Int)))])))), (2, (AO.var 24 [(AV.lit (.int .i64 (m.regs))), (AV.sl 4 (gcells cI (m.code)))]))] cF_len rfl Gd.none Ye_tE26 Ye_tO52 rfl rfl rfl rfl rfl (by simp only [List.length_append, List.length_cons, List.length_nil]; omega) (by simp only [List.length_append, List.length_cons, List.length_nil]; omega) rfl rfl ?_
        refine o_as (AV.row 202) rfl ?_
        refine aops_end ⟨by kernel_rfl, ?_⟩
        refine hK19 _ ?_
        refine awp_region rfl ?_
        refine n_add (j) (1) Gd.none rfl rfl (by simp only [topOf]; omega) ?_
        refine o_mv (nm .i64 ((j) + (1))) rfl ?_
        refine aops_end ?_
        refine ⟨_, _, ?lt, ⟨j + 1, (by omega), rfl, rfl⟩, ?wk⟩
        case lt => omega
        case wk => exact Wk.trans (Wk.sub (σ' := ⟨[(1, (AV.ref 2 (0))), (4, (AV.row 202)), (65, (nm .i64 (m.code.length + 1))), (66, (nm .i64 ((j) + (1))))], [(2, (AO.var 24 [(AV.lit (.int .i64 (m.regs))), (AV.sl 4 (gcells cI (m.code)))])), (202, (AO.row 52 2 (gcells cF ((cmp2 m j) ++ ([(Frc.mk (txt ((ownP m (((j : Nat) : Int)) : Nat) : Int)) (txt ((twnP m (((j : Nat) : Int)) : Nat) : Int)))])))))]⟩) (And.intro rfl (And.intro rfl (And.intro rfl (And.intro rfl (trivial))))) (And.intro rfl (And.intro rfl (trivial)))) (Wk.trans (Wk.ren (id := 202) (id' := 50) rfl) (Wk.sub (And.intro rfl (And.intro (by first | rfl | (simp)) (And.intro rfl (And.intro (by first | rfl | exact congrArg (nm _) (by omega) | exact nm_int (by omega) | exact nm_int (by simp [IntKind.wrap, IntKind.bits, IntKind.signed]; omega)) (trivial))))) (And.intro rfl (And.intro (by first | rfl | exact row_ns (by simp) | (exact row_gs (by first | exact cmp1_a rfl (by omega) | exact cmp1_b rfl (by omega) | rfl | (rw [show i = m.code.length by omega]; rfl)))) (trivial)))))
      · refine awp_exit ?_
        refine hK15 _ ?_
        refine awp_seq fun K21 hK21 => ?_
        refine awp_region rfl ?_
        refine o_mv (AV.row 50) rfl ?_
        refine o_as (AV.row 50) rfl ?_
        refine o_as (nm .i64 (0)) rfl ?_
        refine aops_end ?_
        refine hK21 _ ?_
        refine awp_wk (σ' := ⟨[(2, (AV.row 50)), (3, (nm .i64 (0)))], [(50, (AO.row 52 2 (gcells cF (cmp2 m j))))]⟩) (Wk.sub (And.intro rfl (And.intro rfl (trivial))) (And.intro rfl (trivial))) ?_
        refine awp_wk (σ' := ⟨[(2, (AV.sl 2 (gcells cF (cmp2 m j)))), (3, (nm .i64 (0)))], []⟩) (Wk.freeze (id := 50) (e := 52) (sz := 2) (cs := (gcells cF (cmp2 m j))) rfl) ?_
        refine awp_ret ?_
        refine post_ret ⟨[(AV.sl 2 (gcells cF (cmp2 m j))), (nm .i64 (0))], And.intro (AV.le_refl _) (And.intro (AV.le_refl _) (trivial)), rfl, ?_⟩
        rw [cmpR, cmpE, if_pos hM, if_pos hM, show m.code.length + 1 = j by omega]; rfl

theorem c_Encode (m : Mac) (c : Cfg) : ECalls cx 37 [(macV m), (cfgV c)] (.tup [.lit (.string (encS m c)), nm .i64 (encE m c)]) := by
  refine ecalls_of_awp Tryz.func37 (c := _) rfl (Nat.le_of_ble_eq_true rfl) ?_
  show awp cx 50 _ (postF cx Tryz.f37 _) ⟨[(0, (macV m)), (1, (cfgV c))], []⟩
  refine awp_seq fun K0 hK0 => ?_
  refine awp_region rfl ?_
  refine o_box 2 [(AV.lit (.int .i64 (m.regs))), (AV.sl 4 (gcells cI (m.code)))] Gd.none rfl rfl ?_
  refine o_box 3 [(AV.lit (.int .i64 (c.at'))), (AV.sl 1 (is .i64 (c.regs)))] Gd.none rfl rfl ?_
  refine o_as (AV.lit (.string (({data := #[]} : ByteArray)))) rfl ?_
  refine o_as (nm .i64 (0)) rfl ?_
  refine aops_end ?_
  refine hK0 _ ?_
  refine awp_seq fun K1 hK1 => ?_
  refine awp_seq fun K2 hK2 => ?_
  refine awp_region rfl ?_
  refine o_loadA [(AV.lit (.int .i64 (m.regs))), (AV.sl 4 (gcells cI (m.code)))] Gd.none Ye_tA24 rfl rfl rfl rfl rfl ?_
  refine o_loadA [(AV.lit (.int .i64 (c.at'))), (AV.sl 1 (is .i64 (c.regs)))] Gd.none Ye_tA65 rfl rfl rfl rfl rfl ?_
  refine o_ct (c_fFits m c) Gd.none Ye_tC47 rfl ?_
  refine o_notP (q := okCfg m c) Gd.none rfl ?_
  refine aops_end ?_
  refine hK2 _ ?_
  refine awp_condQ (q := ¬ (okCfg m c)) rfl (fun h1 => ?_) (fun h1 => ?_)
  · refine awp_seq fun K3 hK3 => ?_
    refine awp_region rfl ?_
    refine o_as (AV.lit (.string (({data := #[]} : ByteArray)))) rfl ?_
    refine o_as (nm .i64 (1)) rfl ?_
    refine aops_end ?_
    refine hK3 _ ?_
    refine awp_ret ?_
    refine post_ret ⟨[(AV.lit (.string (({data := #[]} : ByteArray)))), (nm .i64 (1))], And.intro (AV.le_refl _) (And.intro (AV.le_refl _) (trivial)), rfl, ?_⟩
    first | (rw [encS, encE, if_neg (by assumption), if_neg (by assumption)]; rfl) | (have hN : ¬ Fit (numC m c) := (by rw [hp, hdr]; intro hf; first | exact tld_big (by assumption) (fit_mul_le pp pr (fit_mul_le hz (Int.mul_pos pp pr) hf).2).1 | exact tld_big (by assumption) (fit_mul_le (Int.mul_pos hz pp) pr (by rw [Int.mul_assoc]; exact hf)).1); rw [encS, encE, if_pos hC, if_pos hC, tld_3 hN, show toldS (numC m c) = { data := #[] } from if_neg hN]; rw [tld_3 (tld_big (by assumption))]; rfl) | (have hE : numC m c = numS s := (by rw [hp, List.drop_of_length_le (by omega)]; exact Int.mul_one _); have hf := fit_numS (okS_iff.1 ho); rw [encS, encE, if_pos hC, if_pos hC, hE, (told_fit hf).1, (told_fit hf).2, txt_numS (okS_iff.1 ho)]; rfl)
  · have hC := Decidable.not_not.1 h1
    have hC2 := hC
    obtain ⟨⟨o1, o2, o3, o4, o5⟩, q1, q2, q3⟩ := hC2
    unfold plc at q1
    have b0 := ownP_bd m c.at'
    have os := txt_sz2 (fit_113 b0)
    have ow : 2 ≤ ownP m c.at' := p30_ge _ (by omega)
    refine awp_skip ?_
    refine hK1 _ ?_
    refine awp_seq fun K4 hK4 => ?_
    refine awp_region rfl ?_
    refine o_loadA [(AV.lit (.int .i64 (m.regs))), (AV.sl 4 (gcells cI (m.code)))] Gd.none Ye_tA24 rfl rfl rfl rfl rfl ?_
    refine o_fieldRef 0 Gd.none Ye_tF65_0 rfl rfl ?_
    refine o_loadS (AV.lit (.int .i64 (c.at'))) Gd.none Ye_tS3 rfl rfl rfl ?_
    refine o_ct (c_own m (c.at') (by omega) (by omega) (by omega) (by omega)) Gd.none Ye_tC59 rfl ?_
    refine o_ct (c_itoa (ownP m (c.at')) (by omega)) Gd.none Ye_tC82 rfl ?_
    refine o_as (AV.lit (.string (txt ((ownP m (c.at') : Nat) : Int)))) rfl ?_
    refine aops_end ?_
    refine hK4 _ ?_
    refine awp_seq fun K5 hK5 => ?_
    refine awp_seq fun K6 hK6 => ?_
    refine awp_region rfl ?_
    refine o_fieldRef 1 Gd.none Ye_tF65_1 rfl rfl ?_
    refine o_loadS (AV.sl 1 (is .i64 (c.regs))) Gd.none Ye_tS37 rfl rfl rfl ?_
    refine i_len (c.regs) Gd.none Ye_tU37 rfl ?_
    refine o_mv (nm .i64 (0)) rfl ?_
    refine aops_end ?_
    refine hK6 _ ?_
    refine awp_block ?_
    refine awp_loopR (fun κ σ => ∃ (i : Nat), ∃ (s : ByteArray), (i ≤ c.regs.length) ∧ (numC m c = numS s * prdZ i (c.regs.drop i)) ∧ (okS s = true) ∧ (0 < numS s) ∧ (s.size ≤ 9223372036854775807) ∧ (c.regs.length - i) = κ ∧ σ = ⟨[(6, (AV.lit (.string (s)))), (21, (AV.sl 1 (is .i64 (c.regs)))), (22, (nm .i64 (c.regs.length))), (23, (nm .i64 (i)))], []⟩) ⟨_, _, ⟨0, txt ((ownP m c.at' : Nat) : Int), (by omega), (by rw [numS_txt]; rfl), (okS_iff.2 (okS_txt (fit_113 b0))), (by rw [numS_txt]; omega), os, rfl, rfl⟩, ?wk0⟩ ?rd0
    case wk0 =>
      exact Wk.sub (And.intro (by first | rfl | (simp)) (And.intro rfl (And.intro (by first | rfl | exact congrArg (nm _) (by omega) | exact nm_int (by omega) | exact nm_int (by simp [IntKind.wrap, IntKind.bits, IntKind.signed]; omega)) (And.intro (by first | rfl | exact congrArg (nm _) (by omega) | exact nm_int (by omega) | exact nm_int (by simp [IntKind.wrap, IntKind.bits, IntKind.signed]; omega)) (trivial))))) (trivial)
    rintro κ _ ⟨i, s, hi, hp, ho, hz, hs, rfl, rfl⟩
    refine awp_seq fun K7 hK7 => ?_
    refine awp_region rfl ?_
    refine n_lss (i) (c.regs.length) Gd.none rfl rfl ?_
    refine aops_end ?_
    refine hK7 _ ?_
    refine awp_seq fun K8 hK8 => ?_
    refine awp_condQ (q := (i) < (c.regs.length)) rfl (fun h2 => ?_) (fun h2 => ?_)
    · have hr := q3 _ (gdm (d := 0) h2)
      unfold regP at hr
      have b1 := p30_bd i
      have ps := txt_sz2 (fit_113 b1)
      have hw := pow_str b1 hr
      have p2 := p30_ge i (by omega)
      have pp : 0 < (((P30.getD (i) 0 : Nat) : Int) ^ ((c.regs).getD (i) 0).toNat) := Int.pow_pos (by omega)
      have tz := told_sz (((P30.getD (i) 0 : Nat) : Int) ^ ((c.regs).getD (i) 0).toNat)
      have hdr := prd_drop (j := i) h2
      have pr := prd_pos (c.regs.drop (i + 1)) (i + 1) (by rw [List.length_drop]; omega)
      refine awp_skip ?_
      refine hK8 _ ?_
      refine awp_seq fun K9 hK9 => ?_
      refine awp_block ?_
      refine awp_seq fun K10 hK10 => ?_
      refine awp_region rfl ?_
      refine o_mv (nm .i64 (i)) rfl ?_
      refine i_index (c.regs) (i) Gd.none Ye_tE37 rfl rfl (by omega) ?_
      refine i_loadI (c.regs) (i) Gd.none Ye_tS3 rfl (by omega) ?_
      refine o_as (nm .i64 (i)) rfl ?_
      refine o_as (AV.lit (.int .i64 ((c.regs).getD (i) 0))) rfl ?_
      refine aops_end ?_
      refine hK10 _ ?_
      refine awp_seq fun K11 hK11 => ?_
      refine awp_region rfl ?_
      refine o_ct c_primes Gd.none Ye_tC56 rfl ?_
      refine o_mv (nm .i64 (i)) rfl ?_
      refine n_indexAgg (P30) (i) Gd.none Ye_tR89 Ye_tS3 rfl rfl (by rfl) (by omega) ?_
      refine o_ct (c_itoa ((P30).getD (i) 0) (by omega)) Gd.none Ye_tC82 rfl ?_
      refine o_mv (AV.lit (.int .i64 ((c.regs).getD (i) 0))) rfl ?_
      refine o_ct (c_nPower (txt (((P30).getD (i) 0 : Nat) : Int)) ((c.regs).getD (i) 0) (by first | assumption | decide | omega)) Gd.none Ye_tC83 rfl ?_
      refine o_mv (AV.tup [(AV.lit (.string (powS (txt (((P30).getD (i) 0 : Nat) : Int)) ((c.regs).getD (i) 0)))), (nm .i64 (powE (txt (((P30).getD (i) 0 : Nat) : Int)) ((c.regs).getD (i) 0)))]) rfl ?_
      refine o_extract (AV.lit (.string (powS (txt (((P30).getD (i) 0 : Nat) : Int)) ((c.regs).getD (i) 0)))) Gd.none rfl rfl ?_
      refine n_as (v' := (AV.lit (.string (toldS (((P30.getD (i) 0 : Nat) : Int) ^ ((c.regs).getD (i) 0).toNat))))) (by exact str_as2 hw.1) ?_
      refine o_extract (nm .i64 (powE (txt (((P30).getD (i) 0 : Nat) : Int)) ((c.regs).getD (i) 0))) Gd.none rfl rfl ?_
      refine n_as (v' := (nm .i64 (toldE (((P30.getD (i) 0 : Nat) : Int) ^ ((c.regs).getD (i) 0).toNat)))) (by exact congrArg (nm _) hw.2) ?_
      refine o_as (AV.lit (.string (toldS (((P30.getD (i) 0 : Nat) : Int) ^ ((c.regs).getD (i) 0).toNat)))) rfl ?_
      refine o_as (nm .i64 (toldE (((P30.getD (i) 0 : Nat) : Int) ^ ((c.regs).getD (i) 0).toNat))) rfl ?_
      refine aops_end ?_
      refine hK11 _ ?_
      refine awp_seq fun K12 hK12 => ?_
      refine awp_seq fun K13 hK13 => ?_
      refine awp_region rfl ?_
      refine o_mv (nm .i64 (toldE (((P30.getD (i) 0 : Nat) : Int) ^ ((c.regs).getD (i) 0).toNat))) rfl ?_
      refine n_eql (toldE (((P30.getD (i) 0 : Nat) : Int) ^ ((c.regs).getD (i) 0).toNat)) (0) Gd.none rfl rfl ?_
      refine aops_end ?_
      refine hK13 _ ?_
      refine awp_condQ (q := (toldE (((P30.getD (i) 0 : Nat) : Int) ^ ((c.regs).getD (i) 0).toNat)) = (0)) rfl (fun h3 => ?_) (fun h3 => ?_)
      · have hF : Fit (((P30.getD (i) 0 : Nat) : Int) ^ ((c.regs).getD (i) 0).toNat) := tld_ok (fun e => e (by assumption))
        obtain ⟨w1, w2⟩ := told_fit hF
        have hm := mul_str (a := s) (b := toldS (((P30.getD (i) 0 : Nat) : Int) ^ ((c.regs).getD (i) 0).toNat)) ⟨ho, by rw [w1]; exact okS_iff.2 (okS_txt hF)⟩
        have hn1 : numS (toldS (((P30.getD (i) 0 : Nat) : Int) ^ ((c.regs).getD (i) 0).toNat)) = (((P30.getD (i) 0 : Nat) : Int) ^ ((c.regs).getD (i) 0).toNat) := by rw [w1, numS_txt]
        refine awp_region rfl ?_
        refine o_mv (AV.lit (.string (s))) rfl ?_
        refine o_mv (AV.lit (.string (toldS (((P30.getD (i) 0 : Nat) : Int) ^ ((c.regs).getD (i) 0).toNat)))) rfl ?_
        refine o_ct (c_nMul (s) (toldS (((P30.getD (i) 0 : Nat) : Int) ^ ((c.regs).getD (i) 0).toNat)) (by first | assumption | decide | omega) (by first | assumption | decide | omega)) Gd.none Ye_tC72 rfl ?_
        refine o_mv (AV.tup [(AV.lit (.string ((if okS (s) && okS (toldS (((P30.getD (i) 0 : Nat) : Int) ^ ((c.regs).getD (i) 0).toNat)) then (toldS (numS (s) * numS (toldS (((P30.getD (i) 0 : Nat) : Int) ^ ((c.regs).getD (i) 0).toNat)))) else (({ data := #[] } : ByteArray)))))), (nm .i64 ((if okS (s) && okS (toldS (((P30.getD (i) 0 : Nat) : Int) ^ ((c.regs).getD (i) 0).toNat)) then (toldE (numS (s) * numS (toldS (((P30.getD (i) 0 : Nat) : Int) ^ ((c.regs).getD (i) 0).toNat)))) else (1))))]) rfl ?_
        refine o_extract (AV.lit (.string ((if okS (s) && okS (toldS (((P30.getD (i) 0 : Nat) : Int) ^ ((c.regs).getD (i) 0).toNat)) then (toldS (numS (s) * numS (toldS (((P30.getD (i) 0 : Nat) : Int) ^ ((c.regs).getD (i) 0).toNat)))) else (({ data := #[] } : ByteArray)))))) Gd.none rfl rfl ?_
        refine n_as (v' := (AV.lit (.string (toldS (numS s * (((P30.getD (i) 0 : Nat) : Int) ^ ((c.regs).getD (i) 0).toNat)))))) (by exact str_as2 (hm.1.trans (by rw [hn1]))) ?_
        refine o_extract (nm .i64 ((if okS (s) && okS (toldS (((P30.getD (i) 0 : Nat) : Int) ^ ((c.regs).getD (i) 0).toNat)) then (toldE (numS (s) * numS (toldS (((P30.getD (i) 0 : Nat) : Int) ^ ((c.regs).getD (i) 0).toNat)))) else (1)))) Gd.none rfl rfl ?_
        refine n_as (v' := (nm .i64 (toldE (numS s * (((P30.getD (i) 0 : Nat) : Int) ^ ((c.regs).getD (i) 0).toNat))))) (by exact congrArg (nm _) (hm.2.trans (by rw [hn1]))) ?_
        refine o_as (AV.lit (.string (toldS (numS s * (((P30.getD (i) 0 : Nat) : Int) ^ ((c.regs).getD (i) 0).toNat))))) rfl ?_
        refine o_as (nm .i64 (toldE (numS s * (((P30.getD (i) 0 : Nat) : Int) ^ ((c.regs).getD (i) 0).toNat)))) rfl ?_
        refine aops_end ?_
        refine hK12 _ ?_
        refine awp_seq fun K14 hK14 => ?_
        refine awp_region rfl ?_
        refine o_mv (nm .i64 (toldE (numS s * (((P30.getD (i) 0 : Nat) : Int) ^ ((c.regs).getD (i) 0).toNat)))) rfl ?_
        refine n_neq (toldE (numS s * (((P30.getD (i) 0 : Nat) : Int) ^ ((c.regs).getD (i) 0).toNat))) (0) Gd.none rfl rfl ?_
        refine aops_end ?_
        refine hK14 _ ?_
        refine awp_condQ (q := (toldE (numS s * (((P30.getD (i) 0 : Nat) : Int) ^ ((c.regs).getD (i) 0).toNat))) ≠ (0)) rfl (fun h4 => ?_) (fun h4 => ?_)
        · refine awp_seq fun K15 hK15 => ?_
          refine awp_region rfl ?_
          refine o_mv (nm .i64 (toldE (numS s * (((P30.getD (i) 0 : Nat) : Int) ^ ((c.regs).getD (i) 0).toNat)))) rfl ?_
          refine o_as (AV.lit (.string (({data := #[]} : ByteArray)))) rfl ?_
          refine o_as (nm .i64 (toldE (numS s * (((P30.getD (i) 0 : Nat) : Int) ^ ((c.regs).getD (i) 0).toNat)))) rfl ?_
          refine aops_end ?_
          refine hK15 _ ?_
          refine awp_ret ?_
          refine post_ret ⟨[(AV.lit (.string (({data := #[]} : ByteArray)))), (nm .i64 (toldE (numS s * (((P30.getD (i) 0 : Nat) : Int) ^ ((c.regs).getD (i) 0).toNat))))], And.intro (AV.le_refl _) (And.intro (AV.le_refl _) (trivial)), rfl, ?_⟩
          first | (rw [encS, encE, if_neg (by assumption), if_neg (by assumption)]; rfl) | (have hN : ¬ Fit (numC m c) := (by rw [hp, hdr]; intro hf; first | exact tld_big (by assumption) (fit_mul_le pp pr (fit_mul_le hz (Int.mul_pos pp pr) hf).2).1 | exact tld_big (by assumption) (fit_mul_le (Int.mul_pos hz pp) pr (by rw [Int.mul_assoc]; exact hf)).1); rw [encS, encE, if_pos hC, if_pos hC, tld_3 hN, show toldS (numC m c) = { data := #[] } from if_neg hN]; rw [tld_3 (tld_big (by assumption))]; rfl) | (have hE : numC m c = numS s := (by rw [hp, List.drop_of_length_le (by omega)]; exact Int.mul_one _); have hf := fit_numS (okS_iff.1 ho); rw [encS, encE, if_pos hC, if_pos hC, hE, (told_fit hf).1, (told_fit hf).2, txt_numS (okS_iff.1 ho)]; rfl)
        · refine awp_skip ?_
          refine hK9 _ ?_
          refine awp_region rfl ?_
          refine n_add (i) (1) Gd.none rfl rfl (by simp only [topOf]; omega) ?_
          refine o_mv (nm .i64 ((i) + (1))) rfl ?_
          refine aops_end ?_
          have hG := tld_ok (by assumption)
          obtain ⟨v1, v2⟩ := told_fit hG
          refine ⟨_, _, ?lt, ⟨i + 1, toldS (numS s * (((P30.getD (i) 0 : Nat) : Int) ^ ((c.regs).getD (i) 0).toNat)), (by omega), (by rw [hp, hdr, v1, numS_txt, Int.mul_assoc]), (by rw [v1]; exact okS_iff.2 (okS_txt hG)), (by rw [v1, numS_txt]; exact Int.mul_pos hz pp), (told_sz _), rfl, rfl⟩, ?wk⟩
          case lt => omega
          case wk => exact Wk.sub (And.intro (by first | rfl | (simp)) (And.intro rfl (And.intro rfl (And.intro (by first | rfl | exact congrArg (nm _) (by omega) | exact nm_int (by omega) | exact nm_int (by simp [IntKind.wrap, IntKind.bits, IntKind.signed]; omega)) (trivial))))) (trivial)
      · refine awp_skip ?_
        refine hK12 _ ?_
        refine awp_seq fun K16 hK16 => ?_
        refine awp_region rfl ?_
        refine o_mv (nm .i64 (toldE (((P30.getD (i) 0 : Nat) : Int) ^ ((c.regs).getD (i) 0).toNat))) rfl ?_
        refine n_neq (toldE (((P30.getD (i) 0 : Nat) : Int) ^ ((c.regs).getD (i) 0).toNat)) (0) Gd.none rfl rfl ?_
        refine aops_end ?_
        refine hK16 _ ?_
        refine awp_condB (b := decide ((toldE (((P30.getD (i) 0 : Nat) : Int) ^ ((c.regs).getD (i) 0).toNat)) ≠ (0))) rfl (fun _ => ?_) (fun hh => absurd (hh.symm.trans (decide_eq_true h3)) (by decide))
        refine awp_seq fun K17 hK17 => ?_
        refine awp_region rfl ?_
        refine o_mv (nm .i64 (toldE (((P30.getD (i) 0 : Nat) : Int) ^ ((c.regs).getD (i) 0).toNat))) rfl ?_
        refine o_as (AV.lit (.string (({data := #[]} : ByteArray)))) rfl ?_
        refine o_as (nm .i64 (toldE (((P30.getD (i) 0 : Nat) : Int) ^ ((c.regs).getD (i) 0).toNat))) rfl ?_
        refine aops_end ?_
        refine hK17 _ ?_
        refine awp_ret ?_
        refine post_ret ⟨[(AV.lit (.string (({data := #[]} : ByteArray)))), (nm .i64 (toldE (((P30.getD (i) 0 : Nat) : Int) ^ ((c.regs).getD (i) 0).toNat)))], And.intro (AV.le_refl _) (And.intro (AV.le_refl _) (trivial)), rfl, ?_⟩
        first | (rw [encS, encE, if_neg (by assumption), if_neg (by assumption)]; rfl) | (have hN : ¬ Fit (numC m c) := (by rw [hp, hdr]; intro hf; first | exact tld_big (by assumption) (fit_mul_le pp pr (fit_mul_le hz (Int.mul_pos pp pr) hf).2).1 | exact tld_big (by assumption) (fit_mul_le (Int.mul_pos hz pp) pr (by rw [Int.mul_assoc]; exact hf)).1); rw [encS, encE, if_pos hC, if_pos hC, tld_3 hN, show toldS (numC m c) = { data := #[] } from if_neg hN]; rw [tld_3 (tld_big (by assumption))]; rfl) | (have hE : numC m c = numS s := (by rw [hp, List.drop_of_length_le (by omega)]; exact Int.mul_one _); have hf := fit_numS (okS_iff.1 ho); rw [encS, encE, if_pos hC, if_pos hC, hE, (told_fit hf).1, (told_fit hf).2, txt_numS (okS_iff.1 ho)]; rfl)
    · refine awp_exit ?_
      refine hK5 _ ?_
      refine awp_seq fun K18 hK18 => ?_
      refine awp_region rfl ?_
      refine o_mv (AV.lit (.string (s))) rfl ?_
      refine o_as (AV.lit (.string (s))) rfl ?_
      refine o_as (nm .i64 (0)) rfl ?_
      refine aops_end ?_
      refine hK18 _ ?_
      refine awp_ret ?_
      refine post_ret ⟨[(AV.lit (.string (s))), (nm .i64 (0))], And.intro (AV.le_refl _) (And.intro (AV.le_refl _) (trivial)), rfl, ?_⟩
      first | (rw [encS, encE, if_neg (by assumption), if_neg (by assumption)]; rfl) | (have hN : ¬ Fit (numC m c) := (by rw [hp, hdr]; intro hf; first | exact tld_big (by assumption) (fit_mul_le pp pr (fit_mul_le hz (Int.mul_pos pp pr) hf).2).1 | exact tld_big (by assumption) (fit_mul_le (Int.mul_pos hz pp) pr (by rw [Int.mul_assoc]; exact hf)).1); rw [encS, encE, if_pos hC, if_pos hC, tld_3 hN, show toldS (numC m c) = { data := #[] } from if_neg hN]; rw [tld_3 (tld_big (by assumption))]; rfl) | (have hE : numC m c = numS s := (by rw [hp, List.drop_of_length_le (by omega)]; exact Int.mul_one _); have hf := fit_numS (okS_iff.1 ho); rw [encS, encE, if_pos hC, if_pos hC, hE, (told_fit hf).1, (told_fit hf).2, txt_numS (okS_iff.1 ho)]; rfl)

end Go.Proofs.YtnejjdcbbminaaaGreatDoor

set_option linter.unusedVariables false
set_option linter.unusedSimpArgs false
namespace Go.Proofs.YtnejjdcbbminaaaGreatDoor
open Go Go.Ab Go.Mth
theorem fieldsFrac : Tryz.prog.fieldsOf 52 = #[{ name := "Num", type := 9, offset := 0, embedded := false, tag := "", pkgPath := "", byteOffset := 0 }, { name := "Den", type := 9, offset := 1, embedded := false, tag := "", pkgPath := "", byteOffset := 16 }] := by kernel_rfl
theorem eq_api_Frac (a1 a2 b1 b2 : ByteArray) : AggEq cx.P 52 [.string a1, .string a2] [.string b1, .string b2] (decide (a1 = b1 ∧ a2 = b2)) := by
  refine ⟨by kernel_rfl, fun w => ?_⟩
  have hS : Tryz.prog.underlying 52 = some (.struct (Tryz.prog.fieldsOf 52)) := by kernel_rfl
  show (Op.equalIn 10000 52 _ _).run Tryz.prog w = _
  rw [show (10000 : Nat) = 9998 + 1 + 1 from rfl, run_equalIn_agg w (9998 + 1) _ _ _ hS (by kernel_rfl), fieldsFrac]
  have uS : Tryz.prog.underlying 9 = some .string := by kernel_rfl
  simp only [Op.eqFields, part_str uS, Sem.run_bind, Sem.run_ite, run_equalIn_string _ _ _ _ _ uS]
  by_cases h1 : a1 = b1 <;> by_cases h2 : a2 = b2 <;> simp [ba_eq, run_equalIn_string _ _ _ _ _ uS, h1, h2]
theorem fieldsInstr : Tryz.prog.fieldsOf 88 = #[{ name := "Kind", type := 3, offset := 0, embedded := false, tag := "", pkgPath := "", byteOffset := 0 }, { name := "Reg", type := 3, offset := 1, embedded := false, tag := "", pkgPath := "", byteOffset := 8 }, { name := "Next", type := 3, offset := 2, embedded := false, tag := "", pkgPath := "", byteOffset := 16 }, { name := "Else", type := 3, offset := 3, embedded := false, tag := "", pkgPath := "", byteOffset := 24 }] := by kernel_rfl
theorem eq_api_Instr (a1 a2 a3 a4 b1 b2 b3 b4 : Int) : AggEq cx.P 88 [.int .i64 a1, .int .i64 a2, .int .i64 a3, .int .i64 a4] [.int .i64 b1, .int .i64 b2, .int .i64 b3, .int .i64 b4] (decide (a1 = b1 ∧ a2 = b2 ∧ a3 = b3 ∧ a4 = b4)) := by
  refine ⟨by kernel_rfl, fun w => ?_⟩
  have hS : Tryz.prog.underlying 88 = some (.struct (Tryz.prog.fieldsOf 88)) := by kernel_rfl
  show (Op.equalIn 10000 88 _ _).run Tryz.prog w = _
  rw [show (10000 : Nat) = 9998 + 1 + 1 from rfl, run_equalIn_agg w (9998 + 1) _ _ _ hS (by kernel_rfl), fieldsInstr]
  have uS : Tryz.prog.underlying 3 = some (.int .i64) := by kernel_rfl
  simp only [Op.eqFields, part_int uS, Sem.run_bind, Sem.run_ite, run_equalIn_int _ _ _ _ _ _ _ uS]
  by_cases h1 : a1 = b1 <;> by_cases h2 : a2 = b2 <;> by_cases h3 : a3 = b3 <;> by_cases h4 : a4 = b4 <;> simp [run_equalIn_int _ _ _ _ _ _ _ uS, h1, h2, h3, h4]
end Go.Proofs.YtnejjdcbbminaaaGreatDoor

set_option linter.unusedVariables false
set_option linter.unusedSimpArgs false
namespace Go.Proofs.YtnejjdcbbminaaaGreatDoor
open Go Go.Ab Go.Mth
theorem Yf_tO24 : tyZero cx.P 24 = some [(Go.Value.int IntKind.i64 0), (Go.Value.slice none 0 0)] := by kernel_rfl
theorem Yf_tP88 : tyPlaces cx.P 88 = some (fun i => (#[(0, 1), (1, 1), (2, 1), (3, 1)] : Array (Nat × Nat))[i]?) := by kernel_rfl
theorem Yf_tO88 : tyZero cx.P 88 = some [(Go.Value.int IntKind.i64 0), (Go.Value.int IntKind.i64 0), (Go.Value.int IntKind.i64 0), (Go.Value.int IntKind.i64 0)] := by kernel_rfl
theorem Yf_tE22 : tyElem cx.P 22 = some (88, 4, 32) := by kernel_rfl
theorem Yf_tP24 : tyPlaces cx.P 24 = some (fun i => (#[(0, 1), (1, 1)] : Array (Nat × Nat))[i]?) := by kernel_rfl
theorem Yf_tZ24 : tySize cx.P 24 = some 2 := by kernel_rfl
theorem Yf_tA24 : tyAgg cx.P 24 = some 2 := by kernel_rfl
theorem Yf_tF24_0 : tyField cx.P 24 0 = some (0, 3) := by kernel_rfl
theorem Yf_tS3 : tySc cx.P 3 = true := by kernel_rfl
theorem Yf_tF24_1 : tyField cx.P 24 1 = some (1, 22) := by kernel_rfl
theorem Yf_tS22 : tySc cx.P 22 = true := by kernel_rfl
theorem Yf_tU22 : cx.P.underlying 22 = some (.slice 88) := by kernel_rfl
theorem Yf_tA88 : tyAgg cx.P 88 = some 4 := by kernel_rfl
theorem Yf_tU26 : cx.P.underlying 26 = some (.slice 52) := by kernel_rfl
theorem Yf_tE26 : tyElem cx.P 26 = some (52, 2, 32) := by kernel_rfl
theorem Yf_tA52 : tyAgg cx.P 52 = some 2 := by kernel_rfl
theorem Yf_tC60 : callable cx.P 60 = true := by kernel_rfl
theorem Yf_tC13 : callable cx.P 13 = true := by kernel_rfl
theorem Yf_tE37 : tyElem cx.P 37 = some (3, 1, 8) := by kernel_rfl
theorem Yf_tO3 : tyZero cx.P 3 = some [(Go.Value.int IntKind.i64 0)] := by kernel_rfl
theorem Yf_tP65 : tyPlaces cx.P 65 = some (fun i => (#[(0, 1), (1, 1)] : Array (Nat × Nat))[i]?) := by kernel_rfl
theorem Yf_tO65 : tyZero cx.P 65 = some [(Go.Value.int IntKind.i64 0), (Go.Value.slice none 0 0)] := by kernel_rfl
theorem Yf_tC37 : callable cx.P 37 = true := by kernel_rfl
theorem Yf_tC26 : callable cx.P 26 = true := by kernel_rfl
theorem Yf_tP52 : tyPlaces cx.P 52 = some (fun i => (#[(0, 1), (1, 1)] : Array (Nat × Nat))[i]?) := by kernel_rfl
theorem Yf_tO52 : tyZero cx.P 52 = some [(Go.Value.string {data := #[]}), (Go.Value.string {data := #[]})] := by kernel_rfl
theorem Yf_tC17 : callable cx.P 17 = true := by kernel_rfl
theorem c_adder  : ECalls cx 60 [] (macV adM) := by
  refine ecalls_of_awp Tryz.func60 (c := _) rfl (Nat.le_of_ble_eq_true rfl) ?_
  show awp cx 5 _ (postF cx Tryz.f60 _) ⟨[], []⟩
  refine awp_seq fun K0 hK0 => ?_
  refine awp_region rfl ?_
  refine o_alloc 2 [(nm .i64 (0)), (AV.lit (.slice none 0 0))] Gd.none Yf_tO24 rfl rfl rfl ?_
  refine aops_end ?_
  refine hK0 _ ?_
  refine awp_seq fun K1 hK1 => ?_
  refine awp_region rfl ?_
  refine o_build [(nm .i64 (1)), (nm .i64 (0)), (nm .i64 (1)), (nm .i64 (2))] [(0, [(nm .i64 (1))]), (2, [(nm .i64 (1))]), (3, [(nm .i64 (2))])] Gd.none Yf_tP88 Yf_tO88 rfl rfl rfl ?_
  refine o_build [(nm .i64 (0)), (nm .i64 (1)), (nm .i64 (0)), (nm .i64 (0))] [(0, [(nm .i64 (0))]), (1, [(nm .i64 (1))])] Gd.none Yf_tP88 Yf_tO88 rfl rfl rfl ?_
  refine o_buildSlice 3 (gcells cI ([(Ins.mk (((1 : Nat) : Int)) (((0 : Nat) : Int)) (((1 : Nat) : Int)) (((2 : Nat) : Int))), (Ins.mk (((0 : Nat) : Int)) (((1 : Nat) : Int)) (((0 : Nat) : Int)) (((0 : Nat) : Int)))])) [(0, [(nm .i64 (1)), (nm .i64 (0)), (nm .i64 (1)), (nm .i64 (2))]), (1, [(nm .i64 (0)), (nm .i64 (1)), (nm .i64 (0)), (nm .i64 (0))])] Gd.none Yf_tE22 rfl Yf_tO88 rfl rfl rfl rfl rfl rfl rfl ?_
  refine o_build [(nm .i64 (2)), (AV.row 3)] [(0, [(nm .i64 (2))]), (1, [(AV.row 3)])] Gd.none Yf_tP24 Yf_tO24 rfl rfl rfl ?_
  refine o_store [(3, (AO.row 88 4 (gcells cI ([(Ins.mk (((1 : Nat) : Int)) (((0 : Nat) : Int)) (((1 : Nat) : Int)) (((2 : Nat) : Int))), (Ins.mk (((0 : Nat) : Int)) (((1 : Nat) : Int)) (((0 : Nat) : Int)) (((0 : Nat) : Int)))])))), (2, (AO.var 24 [(nm .i64 (2)), (AV.row 3)]))] Gd.none Yf_tZ24 rfl rfl rfl rfl rfl rfl ?_
  refine aops_end ?_
  refine hK1 _ ?_
  refine awp_wk (σ' := ⟨[(0, (AV.ref 2 (0)))], [(2, (AO.var 24 [(nm .i64 (2)), (AV.row 3)])), (3, (AO.row 88 4 (gcells cI ([(Ins.mk (((1 : Nat) : Int)) (((0 : Nat) : Int)) (((1 : Nat) : Int)) (((2 : Nat) : Int))), (Ins.mk (((0 : Nat) : Int)) (((1 : Nat) : Int)) (((0 : Nat) : Int)) (((0 : Nat) : Int)))]))))]⟩) (Wk.sub (And.intro rfl (trivial)) (And.intro rfl (And.intro rfl (trivial)))) ?_
  refine awp_wk (σ' := ⟨[(0, (AV.ref 2 (0)))], [(2, (AO.var 24 [(nm .i64 (2)), (AV.sl 4 (gcells cI ([(Ins.mk (((1 : Nat) : Int)) (((0 : Nat) : Int)) (((1 : Nat) : Int)) (((2 : Nat) : Int))), (Ins.mk (((0 : Nat) : Int)) (((1 : Nat) : Int)) (((0 : Nat) : Int)) (((0 : Nat) : Int)))])))]))]⟩) (Wk.freeze (id := 3) (e := 88) (sz := 4) (cs := (gcells cI ([(Ins.mk (((1 : Nat) : Int)) (((0 : Nat) : Int)) (((1 : Nat) : Int)) (((2 : Nat) : Int))), (Ins.mk (((0 : Nat) : Int)) (((1 : Nat) : Int)) (((0 : Nat) : Int)) (((0 : Nat) : Int)))]))) rfl) ?_
  refine awp_ret ?_
  refine post_ret ⟨[(AV.agg [(nm .i64 (2)), (AV.sl 4 (gcells cI ([(Ins.mk (((1 : Nat) : Int)) (((0 : Nat) : Int)) (((1 : Nat) : Int)) (((2 : Nat) : Int))), (Ins.mk (((0 : Nat) : Int)) (((1 : Nat) : Int)) (((0 : Nat) : Int)) (((0 : Nat) : Int)))])))])], And.intro ⟨2, (AO.var 24 [(nm .i64 (2)), (AV.sl 4 (gcells cI ([(Ins.mk (((1 : Nat) : Int)) (((0 : Nat) : Int)) (((1 : Nat) : Int)) (((2 : Nat) : Int))), (Ins.mk (((0 : Nat) : Int)) (((1 : Nat) : Int)) (((0 : Nat) : Int)) (((0 : Nat) : Int)))])))]), rfl, rfl, rfl, Or.inl ⟨Yf_tA24, AV.le_refl _⟩⟩ (trivial), rfl, ?_⟩
  rfl

theorem c_vTwinMac (m : Mac) (hb : m.code.length ≤ 4398046511104) : ECalls cx 12 [(macV m)] (macV m) := by
  refine ecalls_of_awp Tryz.func12 (c := _) rfl (Nat.le_of_ble_eq_true rfl) ?_
  show awp cx 10 _ (postF cx Tryz.f12 _) ⟨[(0, (macV m))], []⟩
  refine awp_seq fun K0 hK0 => ?_
  refine awp_region rfl ?_
  refine o_box 2 [(AV.lit (.int .i64 (m.regs))), (AV.sl 4 (gcells cI (m.code)))] Gd.none rfl rfl ?_
  refine o_alloc 3 [(nm .i64 (0)), (AV.lit (.slice none 0 0))] Gd.none Yf_tO24 rfl rfl rfl ?_
  refine aops_end ?_
  refine hK0 _ ?_
  refine awp_seq fun K1 hK1 => ?_
  refine awp_regionD rfl ?_
  refine o_fieldRef 0 Gd.none Yf_tF24_0 rfl rfl ?_
  refine o_loadS (AV.lit (.int .i64 (m.regs))) Gd.none Yf_tS3 rfl rfl rfl ?_
  refine o_buildSlice 4 (gcells cI ([])) [] Gd.none Yf_tE22 rfl Yf_tO88 rfl rfl rfl rfl rfl rfl rfl ?_
  refine o_fieldRef 1 Gd.none Yf_tF24_1 rfl rfl ?_
  refine o_loadS (AV.sl 4 (gcells cI (m.code))) Gd.none Yf_tS22 rfl rfl rfl ?_
  refine g_appendSl cI 5 ([]) (m.code) [(3, (AO.var 24 [(nm .i64 (0)), (AV.lit (.slice none 0 0))])), (2, (AO.var 24 [(AV.lit (.int .i64 (m.regs))), (AV.sl 4 (gcells cI (m.code)))]))] cI_len rfl Gd.none Yf_tE22 Yf_tO88 rfl rfl rfl rfl (by simp only [List.length_append, List.length_cons, List.length_nil]; omega) (by simp only [List.length_append, List.length_cons, List.length_nil]; omega) rfl rfl ?_
  refine o_build [(AV.lit (.int .i64 (m.regs))), (AV.row 5)] [(0, [(AV.lit (.int .i64 (m.regs)))]), (1, [(AV.row 5)])] Gd.none Yf_tP24 Yf_tO24 rfl rfl rfl ?_
  refine o_store [(5, (AO.row 88 4 (gcells cI (([]) ++ (m.code))))), (3, (AO.var 24 [(AV.lit (.int .i64 (m.regs))), (AV.row 5)])), (2, (AO.var 24 [(AV.lit (.int .i64 (m.regs))), (AV.sl 4 (gcells cI (m.code)))]))] Gd.none Yf_tZ24 rfl rfl rfl rfl rfl rfl ?_
  refine aops_end ⟨by kernel_rfl, ?_⟩
  refine hK1 _ ?_
  refine awp_wk (σ' := ⟨[(2, (AV.ref 3 (0)))], [(3, (AO.var 24 [(AV.lit (.int .i64 (m.regs))), (AV.row 5)])), (5, (AO.row 88 4 (gcells cI (([]) ++ (m.code)))))]⟩) (Wk.sub (And.intro rfl (trivial)) (And.intro rfl (And.intro rfl (trivial)))) ?_
  refine awp_wk (σ' := ⟨[(2, (AV.ref 3 (0)))], [(3, (AO.var 24 [(AV.lit (.int .i64 (m.regs))), (AV.sl 4 (gcells cI (([]) ++ (m.code))))]))]⟩) (Wk.freeze (id := 5) (e := 88) (sz := 4) (cs := (gcells cI (([]) ++ (m.code)))) rfl) ?_
  refine awp_ret ?_
  refine post_ret ⟨[(AV.agg [(AV.lit (.int .i64 (m.regs))), (AV.sl 4 (gcells cI (([]) ++ (m.code))))])], And.intro ⟨3, (AO.var 24 [(AV.lit (.int .i64 (m.regs))), (AV.sl 4 (gcells cI (([]) ++ (m.code))))]), rfl, rfl, rfl, Or.inl ⟨Yf_tA24, AV.le_refl _⟩⟩ (trivial), rfl, ?_⟩
  rfl

theorem c_vSameMac (m : Mac) (hb : m.code.length ≤ 4398046511104) : ECalls cx 15 [(macV m), (macV m)] (.lit (.bool true)) := by
  refine ecalls_of_awp Tryz.func15 (c := _) rfl (Nat.le_of_ble_eq_true rfl) ?_
  show awp cx 38 _ (postF cx Tryz.f15 _) ⟨[(0, (macV m)), (1, (macV m))], []⟩
  refine awp_seq fun K0 hK0 => ?_
  refine awp_region rfl ?_
  refine o_box 2 [(AV.lit (.int .i64 (m.regs))), (AV.sl 4 (gcells cI (m.code)))] Gd.none rfl rfl ?_
  refine o_box 3 [(AV.lit (.int .i64 (m.regs))), (AV.sl 4 (gcells cI (m.code)))] Gd.none rfl rfl ?_
  refine o_as (AV.lit (.bool false)) rfl ?_
  refine aops_end ?_
  refine hK0 _ ?_
  refine awp_seq fun K1 hK1 => ?_
  refine awp_seq fun K2 hK2 => ?_
  refine awp_region rfl ?_
  refine o_fieldRef 0 Gd.none Yf_tF24_0 rfl rfl ?_
  refine o_loadS (AV.lit (.int .i64 (m.regs))) Gd.none Yf_tS3 rfl rfl rfl ?_
  refine o_fieldRef 0 Gd.none Yf_tF24_0 rfl rfl ?_
  refine o_loadS (AV.lit (.int .i64 (m.regs))) Gd.none Yf_tS3 rfl rfl rfl ?_
  refine o_neq (a := (m.regs)) (c := (m.regs)) Gd.none rfl rfl ?_
  refine o_mv (bp ((m.regs) ≠ (m.regs))) rfl ?_
  refine o_fieldRef 1 (Gd.yes rfl rfl (decide_eq_false (fun h => h rfl))) Yf_tF24_1 rfl rfl ?_
  refine o_loadS (AV.sl 4 (gcells cI (m.code))) (Gd.yes rfl rfl (decide_eq_false (fun h => h rfl))) Yf_tS22 rfl rfl rfl ?_
  refine g_len cI (m.code) cI_len (Gd.yes rfl rfl (decide_eq_false (fun h => h rfl))) Yf_tU22 rfl ?_
  refine o_fieldRef 1 (Gd.yes rfl rfl (decide_eq_false (fun h => h rfl))) Yf_tF24_1 rfl rfl ?_
  refine o_loadS (AV.sl 4 (gcells cI (m.code))) (Gd.yes rfl rfl (decide_eq_false (fun h => h rfl))) Yf_tS22 rfl rfl rfl ?_
  refine g_len cI (m.code) cI_len (Gd.yes rfl rfl (decide_eq_false (fun h => h rfl))) Yf_tU22 rfl ?_
  refine n_neq ((m.code).length) ((m.code).length) (Gd.yes rfl rfl (decide_eq_false (fun h => h rfl))) rfl rfl ?_
  refine o_pickF (bp (((m.code).length) ≠ ((m.code).length))) Gd.none rfl (decide_eq_false (fun h => h rfl)) rfl ?_
  refine aops_end ?_
  refine hK2 _ ?_
  refine awp_condB (b := decide (((m.code).length) ≠ ((m.code).length))) rfl (fun hh => absurd (hh.symm.trans (decide_eq_false (fun h => h rfl))) (by decide)) (fun _ => ?_)
  refine awp_skip ?_
  refine hK1 _ ?_
  refine awp_seq fun K3 hK3 => ?_
  refine awp_seq fun K4 hK4 => ?_
  refine awp_region rfl ?_
  refine o_as (nm .i64 (0)) rfl ?_
  refine aops_end ?_
  refine hK4 _ ?_
  refine awp_block ?_
  refine awp_loopR (fun κ σ => ∃ (i : Nat), (i ≤ m.code.length) ∧ (m.code.length - i) = κ ∧ σ = ⟨[(2, (AV.ref 2 (0))), (3, (AV.ref 3 (0))), (5, (nm .i64 (i)))], [(2, (AO.var 24 [(AV.lit (.int .i64 (m.regs))), (AV.sl 4 (gcells cI (m.code)))])), (3, (AO.var 24 [(AV.lit (.int .i64 (m.regs))), (AV.sl 4 (gcells cI (m.code)))]))]⟩) ⟨_, _, ⟨0, (by omega), rfl, rfl⟩, ?wk0⟩ ?rd0
  case wk0 =>
    exact Wk.sub (And.intro rfl (And.intro rfl (And.intro (by first | rfl | exact congrArg (nm _) (by omega) | exact nm_int (by omega) | exact nm_int (by simp [IntKind.wrap, IntKind.bits, IntKind.signed]; omega)) (trivial)))) (And.intro rfl (And.intro rfl (trivial)))
  rintro κ _ ⟨i, hi, rfl, rfl⟩
  refine awp_seq fun K5 hK5 => ?_
  refine awp_seq fun K6 hK6 => ?_
  refine awp_region rfl ?_
  refine o_mv (nm .i64 (i)) rfl ?_
  refine o_fieldRef 1 Gd.none Yf_tF24_1 rfl rfl ?_
  refine o_loadS (AV.sl 4 (gcells cI (m.code))) Gd.none Yf_tS22 rfl rfl rfl ?_
  refine g_len cI (m.code) cI_len Gd.none Yf_tU22 rfl ?_
  refine n_lss (i) ((m.code).length) Gd.none rfl rfl ?_
  refine aops_end ?_
  refine hK6 _ ?_
  refine awp_condQ (q := (i) < ((m.code).length)) rfl (fun h1 => ?_) (fun h1 => ?_)
  · refine awp_skip ?_
    refine hK5 _ ?_
    refine awp_seq fun K7 hK7 => ?_
    refine awp_block ?_
    refine awp_seq fun K8 hK8 => ?_
    refine awp_regionD rfl ?_
    refine o_fieldRef 1 Gd.none Yf_tF24_1 rfl rfl ?_
    refine o_loadS (AV.sl 4 (gcells cI (m.code))) Gd.none Yf_tS22 rfl rfl rfl ?_
    refine o_mv (nm .i64 (i)) rfl ?_
    refine g_index cI (m.code) (i) cI_len rfl Gd.none Yf_tE22 rfl rfl (by omega) ?_
    refine g_loadA cI (m.code) (i) default cI_len Gd.none Yf_tA88 rfl (by omega) ?_
    refine o_fieldRef 1 Gd.none Yf_tF24_1 rfl rfl ?_
    refine o_loadS (AV.sl 4 (gcells cI (m.code))) Gd.none Yf_tS22 rfl rfl rfl ?_
    refine o_mv (nm .i64 (i)) rfl ?_
    refine g_index cI (m.code) (i) cI_len rfl Gd.none Yf_tE22 rfl rfl (by omega) ?_
    refine g_loadA cI (m.code) (i) default cI_len Gd.none Yf_tA88 rfl (by omega) ?_
    refine o_neqA [.int .i64 ((((m.code).getD (i) default)).kind), .int .i64 ((((m.code).getD (i) default)).reg), .int .i64 ((((m.code).getD (i) default)).next), .int .i64 ((((m.code).getD (i) default)).els)] [.int .i64 ((((m.code).getD (i) default)).kind), .int .i64 ((((m.code).getD (i) default)).reg), .int .i64 ((((m.code).getD (i) default)).next), .int .i64 ((((m.code).getD (i) default)).els)] (((((m.code).getD (i) default)).kind) = ((((m.code).getD (i) default)).kind) ∧ ((((m.code).getD (i) default)).reg) = ((((m.code).getD (i) default)).reg) ∧ ((((m.code).getD (i) default)).next) = ((((m.code).getD (i) default)).next) ∧ ((((m.code).getD (i) default)).els) = ((((m.code).getD (i) default)).els)) Gd.none rfl rfl (eq_api_Instr _ _ _ _ _ _ _ _) ?_
    refine aops_end ⟨by kernel_rfl, ?_⟩
    refine hK8 _ ?_
    refine awp_condB (b := decide (¬ (((((m.code).getD (i) default)).kind) = ((((m.code).getD (i) default)).kind) ∧ ((((m.code).getD (i) default)).reg) = ((((m.code).getD (i) default)).reg) ∧ ((((m.code).getD (i) default)).next) = ((((m.code).getD (i) default)).next) ∧ ((((m.code).getD (i) default)).els) = ((((m.code).getD (i) default)).els)))) rfl (fun hh => absurd (hh.symm.trans (decide_eq_false (fun h => h ⟨rfl, rfl, rfl, rfl⟩))) (by decide)) (fun _ => ?_)
    refine awp_skip ?_
    refine hK7 _ ?_
    refine awp_region rfl ?_
    refine o_mv (nm .i64 (i)) rfl ?_
    refine n_add (i) (1) Gd.none rfl rfl (by simp only [topOf]; omega) ?_
    refine o_as (nm .i64 ((i) + (1))) rfl ?_
    refine aops_end ?_
    refine ⟨_, _, ?lt, ⟨i + 1, (by omega), rfl, rfl⟩, ?wk⟩
    case lt => omega
    case wk => exact Wk.sub (And.intro rfl (And.intro rfl (And.intro (by first | rfl | exact congrArg (nm _) (by omega) | exact nm_int (by omega) | exact nm_int (by simp [IntKind.wrap, IntKind.bits, IntKind.signed]; omega)) (trivial)))) (And.intro rfl (And.intro rfl (trivial)))
  · refine awp_exit ?_
    refine hK3 _ ?_
    refine awp_seq fun K9 hK9 => ?_
    refine awp_region rfl ?_
    refine o_as (AV.lit (.bool true)) rfl ?_
    refine aops_end ?_
    refine hK9 _ ?_
    refine awp_ret ?_
    refine post_ret ⟨[(AV.lit (.bool true))], And.intro (AV.le_refl _) (trivial), rfl, ?_⟩
    rfl

theorem c_vSameList (l : List Frc) (hb : l.length ≤ 4398046511104) : ECalls cx 17 [(AV.sl 2 (gcells cF (l))), (AV.sl 2 (gcells cF (l)))] (.lit (.bool true)) := by
  refine ecalls_of_awp Tryz.func17 (c := _) rfl (Nat.le_of_ble_eq_true rfl) ?_
  show awp cx 26 _ (postF cx Tryz.f17 _) ⟨[(0, (AV.sl 2 (gcells cF (l)))), (1, (AV.sl 2 (gcells cF (l))))], []⟩
  refine awp_seq fun K0 hK0 => ?_
  refine awp_region rfl ?_
  refine o_as (AV.lit (.bool false)) rfl ?_
  refine aops_end ?_
  refine hK0 _ ?_
  refine awp_seq fun K1 hK1 => ?_
  refine awp_seq fun K2 hK2 => ?_
  refine awp_region rfl ?_
  refine o_mv (AV.sl 2 (gcells cF (l))) rfl ?_
  refine g_len cF (l) cF_len Gd.none Yf_tU26 rfl ?_
  refine o_mv (AV.sl 2 (gcells cF (l))) rfl ?_
  refine g_len cF (l) cF_len Gd.none Yf_tU26 rfl ?_
  refine n_neq ((l).length) ((l).length) Gd.none rfl rfl ?_
  refine aops_end ?_
  refine hK2 _ ?_
  refine awp_condB (b := decide (((l).length) ≠ ((l).length))) rfl (fun hh => absurd (hh.symm.trans (decide_eq_false (fun h => h rfl))) (by decide)) (fun _ => ?_)
  refine awp_skip ?_
  refine hK1 _ ?_
  refine awp_seq fun K3 hK3 => ?_
  refine awp_seq fun K4 hK4 => ?_
  refine awp_region rfl ?_
  refine o_as (nm .i64 (0)) rfl ?_
  refine aops_end ?_
  refine hK4 _ ?_
  refine awp_block ?_
  refine awp_loopR (fun κ σ => ∃ (i : Nat), (i ≤ l.length) ∧ (l.length - i) = κ ∧ σ = ⟨[(0, (AV.sl 2 (gcells cF (l)))), (1, (AV.sl 2 (gcells cF (l)))), (5, (nm .i64 (i)))], []⟩) ⟨_, _, ⟨0, (by omega), rfl, rfl⟩, ?wk0⟩ ?rd0
  case wk0 =>
    exact Wk.sub (And.intro rfl (And.intro rfl (And.intro (by first | rfl | exact congrArg (nm _) (by omega) | exact nm_int (by omega) | exact nm_int (by simp [IntKind.wrap, IntKind.bits, IntKind.signed]; omega)) (trivial)))) (trivial)
  rintro κ _ ⟨i, hi, rfl, rfl⟩
  refine awp_seq fun K5 hK5 => ?_
  refine awp_seq fun K6 hK6 => ?_
  refine awp_region rfl ?_
  refine o_mv (nm .i64 (i)) rfl ?_
  refine o_mv (AV.sl 2 (gcells cF (l))) rfl ?_
  refine g_len cF (l) cF_len Gd.none Yf_tU26 rfl ?_
  refine n_lss (i) ((l).length) Gd.none rfl rfl ?_
  refine aops_end ?_
  refine hK6 _ ?_
  refine awp_condQ (q := (i) < ((l).length)) rfl (fun h1 => ?_) (fun h1 => ?_)
  · refine awp_skip ?_
    refine hK5 _ ?_
    refine awp_seq fun K7 hK7 => ?_
    refine awp_block ?_
    refine awp_seq fun K8 hK8 => ?_
    refine awp_regionD rfl ?_
    refine o_mv (AV.sl 2 (gcells cF (l))) rfl ?_
    refine o_mv (nm .i64 (i)) rfl ?_
    refine g_index cF (l) (i) cF_len rfl Gd.none Yf_tE26 rfl rfl (by omega) ?_
    refine g_loadA cF (l) (i) default cF_len Gd.none Yf_tA52 rfl (by omega) ?_
    refine o_mv (AV.sl 2 (gcells cF (l))) rfl ?_
    refine o_mv (nm .i64 (i)) rfl ?_
    refine g_index cF (l) (i) cF_len rfl Gd.none Yf_tE26 rfl rfl (by omega) ?_
    refine g_loadA cF (l) (i) default cF_len Gd.none Yf_tA52 rfl (by omega) ?_
    refine o_neqA [.string ((((l).getD (i) default)).num), .string ((((l).getD (i) default)).den)] [.string ((((l).getD (i) default)).num), .string ((((l).getD (i) default)).den)] (((((l).getD (i) default)).num) = ((((l).getD (i) default)).num) ∧ ((((l).getD (i) default)).den) = ((((l).getD (i) default)).den)) Gd.none rfl rfl (eq_api_Frac _ _ _ _) ?_
    refine aops_end ⟨by kernel_rfl, ?_⟩
    refine hK8 _ ?_
    refine awp_condB (b := decide (¬ (((((l).getD (i) default)).num) = ((((l).getD (i) default)).num) ∧ ((((l).getD (i) default)).den) = ((((l).getD (i) default)).den)))) rfl (fun hh => absurd (hh.symm.trans (decide_eq_false (fun h => h ⟨rfl, rfl⟩))) (by decide)) (fun _ => ?_)
    refine awp_skip ?_
    refine hK7 _ ?_
    refine awp_region rfl ?_
    refine o_mv (nm .i64 (i)) rfl ?_
    refine n_add (i) (1) Gd.none rfl rfl (by simp only [topOf]; omega) ?_
    refine o_as (nm .i64 ((i) + (1))) rfl ?_
    refine aops_end ?_
    refine ⟨_, _, ?lt, ⟨i + 1, (by omega), rfl, rfl⟩, ?wk⟩
    case lt => omega
    case wk => exact Wk.sub (And.intro rfl (And.intro rfl (And.intro (by first | rfl | exact congrArg (nm _) (by omega) | exact nm_int (by omega) | exact nm_int (by simp [IntKind.wrap, IntKind.bits, IntKind.signed]; omega)) (trivial)))) (trivial)
  · refine awp_exit ?_
    refine hK3 _ ?_
    refine awp_seq fun K9 hK9 => ?_
    refine awp_region rfl ?_
    refine o_as (AV.lit (.bool true)) rfl ?_
    refine aops_end ?_
    refine hK9 _ ?_
    refine awp_ret ?_
    refine post_ret ⟨[(AV.lit (.bool true))], And.intro (AV.le_refl _) (trivial), rfl, ?_⟩
    rfl

theorem c_awake10  : ECalls cx 16 [] (.lit (.bool true)) := by
  refine ecalls_of_awp Tryz.func16 (c := _) rfl (Nat.le_of_ble_eq_true rfl) ?_
  show awp cx 59 _ (postF cx Tryz.f16 _) ⟨[], []⟩
  refine awp_seq fun K0 hK0 => ?_
  refine awp_region rfl ?_
  refine o_as (AV.lit (.bool false)) rfl ?_
  refine aops_end ?_
  refine hK0 _ ?_
  refine awp_seq fun K1 hK1 => ?_
  refine awp_region rfl ?_
  refine o_ct c_adder Gd.none Yf_tC60 rfl ?_
  refine o_ct (c_Compile adM) Gd.none Yf_tC13 rfl ?_
  refine o_mv (AV.tup [(AV.sl 2 (gcells cF (cmpR adM))), (nm .i64 (cmpE adM))]) rfl ?_
  refine o_extract (AV.sl 2 (gcells cF (cmpR adM))) Gd.none rfl rfl ?_
  refine n_as (v' := (AV.sl 2 (gcells cF ([(Frc.mk (({data := #[49, 51]} : ByteArray)) (({data := #[49, 48]} : ByteArray))), (Frc.mk (({data := #[49, 57]} : ByteArray)) (({data := #[53]} : ByteArray))), (Frc.mk (({data := #[50, 49]} : ByteArray)) (({data := #[49, 49]} : ByteArray))), (Frc.mk (({data := #[53]} : ByteArray)) (({data := #[55]} : ByteArray))), (Frc.mk (({data := #[49, 49]} : ByteArray)) (({data := #[49, 51]} : ByteArray))), (Frc.mk (({data := #[49, 55]} : ByteArray)) (({data := #[49, 57]} : ByteArray)))])))) (by exact congrArg (fun l => AV.sl 2 (gcells cF l)) ex_cmp.1) ?_
  refine o_extract (nm .i64 (cmpE adM)) Gd.none rfl rfl ?_
  refine n_as (v' := (nm .i64 (0))) (by exact congrArg (nm _) ex_cmp.2) ?_
  refine o_as (AV.sl 2 (gcells cF ([(Frc.mk (({data := #[49, 51]} : ByteArray)) (({data := #[49, 48]} : ByteArray))), (Frc.mk (({data := #[49, 57]} : ByteArray)) (({data := #[53]} : ByteArray))), (Frc.mk (({data := #[50, 49]} : ByteArray)) (({data := #[49, 49]} : ByteArray))), (Frc.mk (({data := #[53]} : ByteArray)) (({data := #[55]} : ByteArray))), (Frc.mk (({data := #[49, 49]} : ByteArray)) (({data := #[49, 51]} : ByteArray))), (Frc.mk (({data := #[49, 55]} : ByteArray)) (({data := #[49, 57]} : ByteArray)))]))) rfl ?_
  refine o_as (nm .i64 (0)) rfl ?_
  refine aops_end ?_
  refine hK1 _ ?_
  refine awp_seq fun K2 hK2 => ?_
  refine awp_region rfl ?_
  refine o_ct c_adder Gd.none Yf_tC60 rfl ?_
  refine o_buildSlice 2 (is .i64 ([((2 : Nat) : Int), ((1 : Nat) : Int)])) [(0, [(nm .i64 (2))]), (1, [(nm .i64 (1))])] Gd.none Yf_tE37 rfl Yf_tO3 rfl rfl rfl rfl rfl rfl rfl ?_
  refine o_build [(nm .i64 (0)), (AV.row 2)] [(1, [(AV.row 2)])] Gd.none Yf_tP65 Yf_tO65 rfl rfl rfl ?_
  refine o_callG [(2, 1, (is .i64 ([((2 : Nat) : Int), ((1 : Nat) : Int)])))] [(macV adM), (AV.agg [(nm .i64 (0)), (AV.sl 1 (is .i64 ([((2 : Nat) : Int), ((1 : Nat) : Int)])))])] _ (AV.tup [(AV.lit (.string (encS adM exC))), (nm .i64 (encE adM exC))]) [] Gd.none Yf_tC37 rfl (And.intro ⟨_, rfl⟩ (trivial)) rfl rfl (LeL.cons (AV.le_refl _) (LeL.cons (AV.le_refl _) (LeL.nil))) (c_Encode adM exC) rfl ?_
  refine o_mv (AV.tup [(AV.lit (.string (encS adM exC))), (nm .i64 (encE adM exC))]) rfl ?_
  refine o_extract (AV.lit (.string (encS adM exC))) Gd.none rfl rfl ?_
  refine n_as (v' := (AV.lit (.string (({data := #[54, 48]} : ByteArray))))) (by exact str_as2 ex_enc.1) ?_
  refine o_extract (nm .i64 (encE adM exC)) Gd.none rfl rfl ?_
  refine n_as (v' := (nm .i64 (0))) (by exact congrArg (nm _) ex_enc.2) ?_
  refine o_as (AV.lit (.string (({data := #[54, 48]} : ByteArray)))) rfl ?_
  refine o_as (nm .i64 (0)) rfl ?_
  refine aops_end ?_
  refine hK2 _ ?_
  refine awp_seq fun K3 hK3 => ?_
  refine awp_region rfl ?_
  refine o_mv (AV.sl 2 (gcells cF ([(Frc.mk (({data := #[49, 51]} : ByteArray)) (({data := #[49, 48]} : ByteArray))), (Frc.mk (({data := #[49, 57]} : ByteArray)) (({data := #[53]} : ByteArray))), (Frc.mk (({data := #[50, 49]} : ByteArray)) (({data := #[49, 49]} : ByteArray))), (Frc.mk (({data := #[53]} : ByteArray)) (({data := #[55]} : ByteArray))), (Frc.mk (({data := #[49, 49]} : ByteArray)) (({data := #[49, 51]} : ByteArray))), (Frc.mk (({data := #[49, 55]} : ByteArray)) (({data := #[49, 57]} : ByteArray)))]))) rfl ?_
  refine o_ct (c_Play ([(Frc.mk (({data := #[49, 51]} : ByteArray)) (({data := #[49, 48]} : ByteArray))), (Frc.mk (({data := #[49, 57]} : ByteArray)) (({data := #[53]} : ByteArray))), (Frc.mk (({data := #[50, 49]} : ByteArray)) (({data := #[49, 49]} : ByteArray))), (Frc.mk (({data := #[53]} : ByteArray)) (({data := #[55]} : ByteArray))), (Frc.mk (({data := #[49, 49]} : ByteArray)) (({data := #[49, 51]} : ByteArray))), (Frc.mk (({data := #[49, 55]} : ByteArray)) (({data := #[49, 57]} : ByteArray)))]) (({data := #[54, 48]} : ByteArray)) ((4 : Int)) (by first | assumption | exact ex_sz) (by first | assumption | decide | omega)) Gd.none Yf_tC26 rfl ?_
  refine o_mv (AV.tup [(AV.lit (.string ((plyA ([(Frc.mk (({data := #[49, 51]} : ByteArray)) (({data := #[49, 48]} : ByteArray))), (Frc.mk (({data := #[49, 57]} : ByteArray)) (({data := #[53]} : ByteArray))), (Frc.mk (({data := #[50, 49]} : ByteArray)) (({data := #[49, 49]} : ByteArray))), (Frc.mk (({data := #[53]} : ByteArray)) (({data := #[55]} : ByteArray))), (Frc.mk (({data := #[49, 49]} : ByteArray)) (({data := #[49, 51]} : ByteArray))), (Frc.mk (({data := #[49, 55]} : ByteArray)) (({data := #[49, 57]} : ByteArray)))]) (({data := #[54, 48]} : ByteArray)) ((4 : Int))).1))), (nm .i64 ((plyA ([(Frc.mk (({data := #[49, 51]} : ByteArray)) (({data := #[49, 48]} : ByteArray))), (Frc.mk (({data := #[49, 57]} : ByteArray)) (({data := #[53]} : ByteArray))), (Frc.mk (({data := #[50, 49]} : ByteArray)) (({data := #[49, 49]} : ByteArray))), (Frc.mk (({data := #[53]} : ByteArray)) (({data := #[55]} : ByteArray))), (Frc.mk (({data := #[49, 49]} : ByteArray)) (({data := #[49, 51]} : ByteArray))), (Frc.mk (({data := #[49, 55]} : ByteArray)) (({data := #[49, 57]} : ByteArray)))]) (({data := #[54, 48]} : ByteArray)) ((4 : Int))).2.1)), (nm .i64 ((plyA ([(Frc.mk (({data := #[49, 51]} : ByteArray)) (({data := #[49, 48]} : ByteArray))), (Frc.mk (({data := #[49, 57]} : ByteArray)) (({data := #[53]} : ByteArray))), (Frc.mk (({data := #[50, 49]} : ByteArray)) (({data := #[49, 49]} : ByteArray))), (Frc.mk (({data := #[53]} : ByteArray)) (({data := #[55]} : ByteArray))), (Frc.mk (({data := #[49, 49]} : ByteArray)) (({data := #[49, 51]} : ByteArray))), (Frc.mk (({data := #[49, 55]} : ByteArray)) (({data := #[49, 57]} : ByteArray)))]) (({data := #[54, 48]} : ByteArray)) ((4 : Int))).2.2))]) rfl ?_
  refine o_extract (AV.lit (.string ((plyA ([(Frc.mk (({data := #[49, 51]} : ByteArray)) (({data := #[49, 48]} : ByteArray))), (Frc.mk (({data := #[49, 57]} : ByteArray)) (({data := #[53]} : ByteArray))), (Frc.mk (({data := #[50, 49]} : ByteArray)) (({data := #[49, 49]} : ByteArray))), (Frc.mk (({data := #[53]} : ByteArray)) (({data := #[55]} : ByteArray))), (Frc.mk (({data := #[49, 49]} : ByteArray)) (({data := #[49, 51]} : ByteArray))), (Frc.mk (({data := #[49, 55]} : ByteArray)) (({data := #[49, 57]} : ByteArray)))]) (({data := #[54, 48]} : ByteArray)) ((4 : Int))).1))) Gd.none rfl rfl ?_
  refine n_as (v' := (AV.lit (.string (({data := #[57, 48]} : ByteArray))))) (by exact str_as2 (congrArg Prod.fst ex_play)) ?_
  refine o_extract (nm .i64 ((plyA ([(Frc.mk (({data := #[49, 51]} : ByteArray)) (({data := #[49, 48]} : ByteArray))), (Frc.mk (({data := #[49, 57]} : ByteArray)) (({data := #[53]} : ByteArray))), (Frc.mk (({data := #[50, 49]} : ByteArray)) (({data := #[49, 49]} : ByteArray))), (Frc.mk (({data := #[53]} : ByteArray)) (({data := #[55]} : ByteArray))), (Frc.mk (({data := #[49, 49]} : ByteArray)) (({data := #[49, 51]} : ByteArray))), (Frc.mk (({data := #[49, 55]} : ByteArray)) (({data := #[49, 57]} : ByteArray)))]) (({data := #[54, 48]} : ByteArray)) ((4 : Int))).2.1)) Gd.none rfl rfl ?_
  refine n_as (v' := (nm .i64 (4))) (by exact congrArg (nm _) (congrArg (fun x => x.2.1) ex_play)) ?_
  refine o_extract (nm .i64 ((plyA ([(Frc.mk (({data := #[49, 51]} : ByteArray)) (({data := #[49, 48]} : ByteArray))), (Frc.mk (({data := #[49, 57]} : ByteArray)) (({data := #[53]} : ByteArray))), (Frc.mk (({data := #[50, 49]} : ByteArray)) (({data := #[49, 49]} : ByteArray))), (Frc.mk (({data := #[53]} : ByteArray)) (({data := #[55]} : ByteArray))), (Frc.mk (({data := #[49, 49]} : ByteArray)) (({data := #[49, 51]} : ByteArray))), (Frc.mk (({data := #[49, 55]} : ByteArray)) (({data := #[49, 57]} : ByteArray)))]) (({data := #[54, 48]} : ByteArray)) ((4 : Int))).2.2)) Gd.none rfl rfl ?_
  refine n_as (v' := (nm .i64 (0))) (by exact congrArg (nm _) (congrArg (fun x => x.2.2) ex_play)) ?_
  refine o_as (AV.lit (.string (({data := #[57, 48]} : ByteArray)))) rfl ?_
  refine o_as (nm .i64 (4)) rfl ?_
  refine o_as (nm .i64 (0)) rfl ?_
  refine aops_end ?_
  refine hK3 _ ?_
  refine awp_seq fun K4 hK4 => ?_
  refine awp_region rfl ?_
  refine o_mv (nm .i64 (0)) rfl ?_
  refine n_eql (0) (0) Gd.none rfl rfl ?_
  refine o_mv (bp ((0) = (0))) rfl ?_
  refine o_move (nm .i64 (0)) (Gd.yes rfl rfl (decide_eq_true (by decide))) rfl ?_
  refine n_eql (0) (0) (Gd.yes rfl rfl (decide_eq_true (by decide))) rfl rfl ?_
  refine o_pickT (bp ((0) = (0))) Gd.none rfl (decide_eq_true (by decide)) rfl ?_
  refine o_mv (bp ((0) = (0))) rfl ?_
  refine o_move (nm .i64 (0)) (Gd.yes rfl rfl (decide_eq_true (by decide))) rfl ?_
  refine n_eql (0) (0) (Gd.yes rfl rfl (decide_eq_true (by decide))) rfl rfl ?_
  refine o_pickT (bp ((0) = (0))) Gd.none rfl (decide_eq_true (by decide)) rfl ?_
  refine o_mv (bp ((0) = (0))) rfl ?_
  refine o_move (AV.lit (.string (({data := #[54, 48]} : ByteArray)))) (Gd.yes rfl rfl (decide_eq_true (by decide))) rfl ?_
  refine o_eqlS (a := (({data := #[54, 48]} : ByteArray))) (c := (({data := #[54, 48]} : ByteArray))) (Gd.yes rfl rfl (decide_eq_true (by decide))) rfl rfl ?_
  refine o_pickT (bp ((({data := #[54, 48]} : ByteArray)).toList = (({data := #[54, 48]} : ByteArray)).toList)) Gd.none rfl (decide_eq_true (by decide)) rfl ?_
  refine o_mv (bp ((({data := #[54, 48]} : ByteArray)).toList = (({data := #[54, 48]} : ByteArray)).toList)) rfl ?_
  refine o_move (AV.lit (.string (({data := #[57, 48]} : ByteArray)))) (Gd.yes rfl rfl (decide_eq_true rfl)) rfl ?_
  refine o_eqlS (a := (({data := #[57, 48]} : ByteArray))) (c := (({data := #[57, 48]} : ByteArray))) (Gd.yes rfl rfl (decide_eq_true rfl)) rfl rfl ?_
  refine o_pickT (bp ((({data := #[57, 48]} : ByteArray)).toList = (({data := #[57, 48]} : ByteArray)).toList)) Gd.none rfl (decide_eq_true rfl) rfl ?_
  refine o_mv (bp ((({data := #[57, 48]} : ByteArray)).toList = (({data := #[57, 48]} : ByteArray)).toList)) rfl ?_
  refine o_move (nm .i64 (4)) (Gd.yes rfl rfl (decide_eq_true rfl)) rfl ?_
  refine n_eql (4) (4) (Gd.yes rfl rfl (decide_eq_true rfl)) rfl rfl ?_
  refine o_pickT (bp ((4) = (4))) Gd.none rfl (decide_eq_true rfl) rfl ?_
  refine o_mv (bp ((4) = (4))) rfl ?_
  refine o_move (AV.sl 2 (gcells cF ([(Frc.mk (({data := #[49, 51]} : ByteArray)) (({data := #[49, 48]} : ByteArray))), (Frc.mk (({data := #[49, 57]} : ByteArray)) (({data := #[53]} : ByteArray))), (Frc.mk (({data := #[50, 49]} : ByteArray)) (({data := #[49, 49]} : ByteArray))), (Frc.mk (({data := #[53]} : ByteArray)) (({data := #[55]} : ByteArray))), (Frc.mk (({data := #[49, 49]} : ByteArray)) (({data := #[49, 51]} : ByteArray))), (Frc.mk (({data := #[49, 55]} : ByteArray)) (({data := #[49, 57]} : ByteArray)))]))) (Gd.yes rfl rfl (decide_eq_true (by decide))) rfl ?_
  refine o_build [(AV.lit (.string (({data := #[49, 51]} : ByteArray)))), (AV.lit (.string (({data := #[49, 48]} : ByteArray))))] [(0, [(AV.lit (.string (({data := #[49, 51]} : ByteArray))))]), (1, [(AV.lit (.string (({data := #[49, 48]} : ByteArray))))])] (Gd.yes rfl rfl (decide_eq_true (by decide))) Yf_tP52 Yf_tO52 rfl rfl rfl ?_
  refine o_build [(AV.lit (.string (({data := #[49, 57]} : ByteArray)))), (AV.lit (.string (({data := #[53]} : ByteArray))))] [(0, [(AV.lit (.string (({data := #[49, 57]} : ByteArray))))]), (1, [(AV.lit (.string (({data := #[53]} : ByteArray))))])] (Gd.yes rfl rfl (decide_eq_true (by decide))) Yf_tP52 Yf_tO52 rfl rfl rfl ?_
  refine o_build [(AV.lit (.string (({data := #[50, 49]} : ByteArray)))), (AV.lit (.string (({data := #[49, 49]} : ByteArray))))] [(0, [(AV.lit (.string (({data := #[50, 49]} : ByteArray))))]), (1, [(AV.lit (.string (({data := #[49, 49]} : ByteArray))))])] (Gd.yes rfl rfl (decide_eq_true (by decide))) Yf_tP52 Yf_tO52 rfl rfl rfl ?_
  refine o_build [(AV.lit (.string (({data := #[53]} : ByteArray)))), (AV.lit (.string (({data := #[55]} : ByteArray))))] [(0, [(AV.lit (.string (({data := #[53]} : ByteArray))))]), (1, [(AV.lit (.string (({data := #[55]} : ByteArray))))])] (Gd.yes rfl rfl (decide_eq_true (by decide))) Yf_tP52 Yf_tO52 rfl rfl rfl ?_
  refine o_build [(AV.lit (.string (({data := #[49, 49]} : ByteArray)))), (AV.lit (.string (({data := #[49, 51]} : ByteArray))))] [(0, [(AV.lit (.string (({data := #[49, 49]} : ByteArray))))]), (1, [(AV.lit (.string (({data := #[49, 51]} : ByteArray))))])] (Gd.yes rfl rfl (decide_eq_true (by decide))) Yf_tP52 Yf_tO52 rfl rfl rfl ?_
  refine o_build [(AV.lit (.string (({data := #[49, 55]} : ByteArray)))), (AV.lit (.string (({data := #[49, 57]} : ByteArray))))] [(0, [(AV.lit (.string (({data := #[49, 55]} : ByteArray))))]), (1, [(AV.lit (.string (({data := #[49, 57]} : ByteArray))))])] (Gd.yes rfl rfl (decide_eq_true (by decide))) Yf_tP52 Yf_tO52 rfl rfl rfl ?_
  refine o_buildSlice 3 (gcells cF ([(Frc.mk (({data := #[49, 51]} : ByteArray)) (({data := #[49, 48]} : ByteArray))), (Frc.mk (({data := #[49, 57]} : ByteArray)) (({data := #[53]} : ByteArray))), (Frc.mk (({data := #[50, 49]} : ByteArray)) (({data := #[49, 49]} : ByteArray))), (Frc.mk (({data := #[53]} : ByteArray)) (({data := #[55]} : ByteArray))), (Frc.mk (({data := #[49, 49]} : ByteArray)) (({data := #[49, 51]} : ByteArray))), (Frc.mk (({data := #[49, 55]} : ByteArray)) (({data := #[49, 57]} : ByteArray)))])) [(0, [(AV.lit (.string (({data := #[49, 51]} : ByteArray)))), (AV.lit (.string (({data := #[49, 48]} : ByteArray))))]), (1, [(AV.lit (.string (({data := #[49, 57]} : ByteArray)))), (AV.lit (.string (({data := #[53]} : ByteArray))))]), (2, [(AV.lit (.string (({data := #[50, 49]} : ByteArray)))), (AV.lit (.string (({data := #[49, 49]} : ByteArray))))]), (3, [(AV.lit (.string (({data := #[53]} : ByteArray)))), (AV.lit (.string (({data := #[55]} : ByteArray))))]), (4, [(AV.lit (.string (({data := #[49, 49]} : ByteArray)))), (AV.lit (.string (({data := #[49, 51]} : ByteArray))))]), (5, [(AV.lit (.string (({data := #[49, 55]} : ByteArray)))), (AV.lit (.string (({data := #[49, 57]} : ByteArray))))])] (Gd.yes rfl rfl (decide_eq_true (by decide))) Yf_tE26 rfl Yf_tO52 rfl rfl rfl rfl rfl rfl rfl ?_
  refine o_callG [(3, 2, (gcells cF ([(Frc.mk (({data := #[49, 51]} : ByteArray)) (({data := #[49, 48]} : ByteArray))), (Frc.mk (({data := #[49, 57]} : ByteArray)) (({data := #[53]} : ByteArray))), (Frc.mk (({data := #[50, 49]} : ByteArray)) (({data := #[49, 49]} : ByteArray))), (Frc.mk (({data := #[53]} : ByteArray)) (({data := #[55]} : ByteArray))), (Frc.mk (({data := #[49, 49]} : ByteArray)) (({data := #[49, 51]} : ByteArray))), (Frc.mk (({data := #[49, 55]} : ByteArray)) (({data := #[49, 57]} : ByteArray)))])))] [(AV.sl 2 (gcells cF ([(Frc.mk (({data := #[49, 51]} : ByteArray)) (({data := #[49, 48]} : ByteArray))), (Frc.mk (({data := #[49, 57]} : ByteArray)) (({data := #[53]} : ByteArray))), (Frc.mk (({data := #[50, 49]} : ByteArray)) (({data := #[49, 49]} : ByteArray))), (Frc.mk (({data := #[53]} : ByteArray)) (({data := #[55]} : ByteArray))), (Frc.mk (({data := #[49, 49]} : ByteArray)) (({data := #[49, 51]} : ByteArray))), (Frc.mk (({data := #[49, 55]} : ByteArray)) (({data := #[49, 57]} : ByteArray)))]))), (AV.sl 2 (gcells cF ([(Frc.mk (({data := #[49, 51]} : ByteArray)) (({data := #[49, 48]} : ByteArray))), (Frc.mk (({data := #[49, 57]} : ByteArray)) (({data := #[53]} : ByteArray))), (Frc.mk (({data := #[50, 49]} : ByteArray)) (({data := #[49, 49]} : ByteArray))), (Frc.mk (({data := #[53]} : ByteArray)) (({data := #[55]} : ByteArray))), (Frc.mk (({data := #[49, 49]} : ByteArray)) (({data := #[49, 51]} : ByteArray))), (Frc.mk (({data := #[49, 55]} : ByteArray)) (({data := #[49, 57]} : ByteArray)))])))] _ (AV.lit (.bool true)) [] (Gd.yes rfl rfl (decide_eq_true (by decide))) Yf_tC17 rfl (And.intro ⟨_, rfl⟩ (trivial)) rfl rfl (LeL.cons (AV.le_refl _) (LeL.cons (AV.le_refl _) (LeL.nil))) (c_vSameList ([(Frc.mk (({data := #[49, 51]} : ByteArray)) (({data := #[49, 48]} : ByteArray))), (Frc.mk (({data := #[49, 57]} : ByteArray)) (({data := #[53]} : ByteArray))), (Frc.mk (({data := #[50, 49]} : ByteArray)) (({data := #[49, 49]} : ByteArray))), (Frc.mk (({data := #[53]} : ByteArray)) (({data := #[55]} : ByteArray))), (Frc.mk (({data := #[49, 49]} : ByteArray)) (({data := #[49, 51]} : ByteArray))), (Frc.mk (({data := #[49, 55]} : ByteArray)) (({data := #[49, 57]} : ByteArray)))]) (by first | assumption | omega | decide)) rfl ?_
  refine o_pickT (AV.lit (.bool true)) Gd.none rfl (decide_eq_true (by decide)) rfl ?_
  refine o_as (AV.lit (.bool true)) rfl ?_
  refine aops_end ?_
  refine hK4 _ ?_
  refine awp_ret ?_
  refine post_ret ⟨[(AV.lit (.bool true))], And.intro (AV.le_refl _) (trivial), rfl, ?_⟩
  rfl

end Go.Proofs.YtnejjdcbbminaaaGreatDoor

set_option linter.unusedVariables false
set_option linter.unusedSimpArgs false
namespace Go.Mth
open Go Go.Ab
theorem len_pw {p : Nat} (hp : p ≤ 113) : ∀ n : Nat, (digs ((((p : Nat) : Int)) ^ n).natAbs).length ≤ n + 1
  | 0 => by rw [Int.pow_zero]; have := small_len (z := 1) (by decide); omega
  | n + 1 => by
    have a := len_pw hp n
    have b := small_len (z := ((p : Nat) : Int)) (by omega)
    have c := len_mulZ (((p : Nat) : Int) ^ n) ((p : Nat) : Int)
    rw [Int.pow_succ]
    omega
theorem prd_len : ∀ (l : List Int) (i : Nat), (∀ n ∈ l, n ≤ 1000) → (digs (prdZ i l).natAbs).length ≤ 1 + 1001 * l.length
  | [], i, _ => by show (digs (1 : Int).natAbs).length ≤ _; have := small_len (z := 1) (by decide); omega
  | n :: r, i, h => by
    have a := prd_len r (i + 1) fun x hx => h x (by simp [hx])
    have b := len_pw (p30_bd i) n.toNat
    have c := h n (by simp)
    have d := len_mulZ (((P30.getD i 0 : Nat) : Int) ^ n.toNat) (prdZ (i + 1) r)
    show (digs (((P30.getD i 0 : Nat) : Int) ^ n.toNat * prdZ (i + 1) r).natAbs).length ≤ 1 + 1001 * (r.length + 1)
    omega
theorem numC_len {m : Mac} {c : Cfg} (h : okCfg m c) : (digs (numC m c).natAbs).length ≤ 5000 := by
  obtain ⟨⟨_, o2, _⟩, _, q2, q3⟩ := h
  have a := prd_len c.regs 0 fun n hn => (q3 n hn).2
  have b := small_len (z := ((ownP m c.at' : Nat) : Int)) (by have := ownP_bd m c.at'; omega)
  have d := len_mulZ ((ownP m c.at' : Nat) : Int) (prdZ 0 c.regs)
  have e : c.regs.length ≤ 4 := by omega
  unfold numC
  omega
theorem dec_bad {m : Mac} {n : ByteArray} (h : ¬ okMac m ∨ ¬ okS n = true) : decE m n = 1 ∧ decV m n = zC := by
  unfold decE decV
  by_cases hM : okMac m
  · have ho := h.resolve_left (fun e => e hM)
    have e : posE n = 1 := if_neg ho
    rw [if_pos hM, if_pos hM, e]
    exact ⟨rfl, rfl⟩
  · rw [if_neg hM, if_neg hM]
    exact ⟨rfl, rfl⟩
theorem dec_neg {m : Mac} {n : ByteArray} (hM : okMac m) (ho : okS n = true) (h : ¬ 0 < numS n) : decE m n = 2 ∧ decV m n = zC := by
  have e : posE n = 2 := (if_pos ho).trans (if_neg h)
  unfold decE decV
  rw [if_pos hM, if_pos hM, e]
  exact ⟨rfl, rfl⟩
theorem dec_pos {m : Mac} {n : ByteArray} (hM : okMac m) (ho : okS n = true) (h : 0 < numS n) : decE m n = (if decB m (numS n).toNat then 0 else 4) ∧ decV m n = decC m (numS n).toNat := by
  have e : posE n = 0 := posE_0.2 ⟨ho, h⟩
  unfold decE decV
  rw [if_pos hM, if_pos hM, if_pos e, if_pos e]
  exact ⟨rfl, rfl⟩
theorem decC_len (m : Mac) (w : Nat) (h : okMac m) : (decC m w).regs.length ≤ 17592186044416 := by
  unfold decC
  split
  · show (dcL m.regs.toNat 0 w).1.length ≤ _
    rw [dcL_len]
    have := h.2.1
    omega
  · exact Nat.zero_le _
end Go.Mth

set_option linter.unusedVariables false
set_option linter.unusedSimpArgs false
namespace Go.Proofs.YtnejjdcbbminaaaGreatDoor
open Go Go.Ab Go.Mth
theorem Yt_tA24 : tyAgg cx.P 24 = some 2 := by kernel_rfl
theorem Yt_tC12 : callable cx.P 12 = true := by kernel_rfl
theorem Yt_tA65 : tyAgg cx.P 65 = some 2 := by kernel_rfl
theorem Yt_tC36 : callable cx.P 36 = true := by kernel_rfl
theorem Yt_tO24 : tyZero cx.P 24 = some [(Go.Value.int IntKind.i64 0), (Go.Value.slice none 0 0)] := by kernel_rfl
theorem Yt_tO65 : tyZero cx.P 65 = some [(Go.Value.int IntKind.i64 0), (Go.Value.slice none 0 0)] := by kernel_rfl
theorem Yt_tZ24 : tySize cx.P 24 = some 2 := by kernel_rfl
theorem Yt_tZ65 : tySize cx.P 65 = some 2 := by kernel_rfl
theorem Yt_tC37 : callable cx.P 37 = true := by kernel_rfl
theorem Yt_tC38 : callable cx.P 38 = true := by kernel_rfl
theorem Yt_tC15 : callable cx.P 15 = true := by kernel_rfl
theorem Yt_tC39 : callable cx.P 39 = true := by kernel_rfl
theorem Yt_tC40 : callable cx.P 40 = true := by kernel_rfl
theorem Yt_tC42 : callable cx.P 42 = true := by kernel_rfl
theorem Yt_tC41 : callable cx.P 41 = true := by kernel_rfl
theorem Yt_tC14 : callable cx.P 14 = true := by kernel_rfl
theorem Yt_tP65 : tyPlaces cx.P 65 = some (fun i => (#[(0, 1), (1, 1)] : Array (Nat × Nat))[i]?) := by kernel_rfl
theorem Yt_tC16 : callable cx.P 16 = true := by kernel_rfl
theorem Yt_tC28 : callable cx.P 28 = true := by kernel_rfl
theorem Yt_tC22 : callable cx.P 22 = true := by kernel_rfl
theorem Yt_tC33 : callable cx.P 33 = true := by kernel_rfl
theorem Yt_tC43 : callable cx.P 43 = true := by kernel_rfl
theorem c_FractionCodes (m : Mac) (c : Cfg) (n : ByteArray) (hb : m.code.length ≤ 4398046511104) (hc : c.regs.length ≤ 17592186044416) (hn : n.size ≤ 9223372036854775807) : ECalls cx 8 [(macV m), (cfgV c), (AV.lit (.string (n)))] (.lit (.bool true)) := by
  refine ecalls_of_awp Tryz.func8 (c := _) rfl (Nat.le_of_ble_eq_true rfl) ?_
  show awp cx 124 _ (postF cx Tryz.f8 _) ⟨[(0, (macV m)), (1, (cfgV c)), (2, (AV.lit (.string (n))))], []⟩
  have hzl : zC.regs.length ≤ 17592186044416 := by decide
  refine awp_seq fun K0 hK0 => ?_
  refine awp_region rfl ?_
  refine o_box 2 [(AV.lit (.int .i64 (m.regs))), (AV.sl 4 (gcells cI (m.code)))] Gd.none rfl rfl ?_
  refine o_box 3 [(AV.lit (.int .i64 (c.at'))), (AV.sl 1 (is .i64 (c.regs)))] Gd.none rfl rfl ?_
  refine o_as (AV.lit (.bool false)) rfl ?_
  refine aops_end ?_
  refine hK0 _ ?_
  refine awp_seq fun K1 hK1 => ?_
  refine awp_regionD rfl ?_
  refine o_loadA [(AV.lit (.int .i64 (m.regs))), (AV.sl 4 (gcells cI (m.code)))] Gd.none Yt_tA24 rfl rfl rfl rfl rfl ?_
  refine o_ct (c_vTwinMac m (by first | assumption | omega | decide)) Gd.none Yt_tC12 rfl ?_
  refine o_loadA [(AV.lit (.int .i64 (c.at'))), (AV.sl 1 (is .i64 (c.regs)))] Gd.none Yt_tA65 rfl rfl rfl rfl rfl ?_
  refine o_ct (c_twinCfg c (by first | assumption | omega | decide)) Gd.none Yt_tC36 rfl ?_
  refine o_alloc 4 [(nm .i64 (0)), (AV.lit (.slice none 0 0))] Gd.none Yt_tO24 rfl rfl rfl ?_
  refine o_alloc 5 [(nm .i64 (0)), (AV.lit (.slice none 0 0))] Gd.none Yt_tO65 rfl rfl rfl ?_
  refine o_store [(5, (AO.var 65 [(nm .i64 (0)), (AV.lit (.slice none 0 0))])), (4, (AO.var 24 [(AV.lit (.int .i64 (m.regs))), (AV.sl 4 (gcells cI (m.code)))])), (3, (AO.var 65 [(AV.lit (.int .i64 (c.at'))), (AV.sl 1 (is .i64 (c.regs)))])), (2, (AO.var 24 [(AV.lit (.int .i64 (m.regs))), (AV.sl 4 (gcells cI (m.code)))]))] Gd.none Yt_tZ24 rfl rfl rfl rfl rfl rfl ?_
  refine o_store [(5, (AO.var 65 [(AV.lit (.int .i64 (c.at'))), (AV.sl 1 (is .i64 (c.regs)))])), (4, (AO.var 24 [(AV.lit (.int .i64 (m.regs))), (AV.sl 4 (gcells cI (m.code)))])), (3, (AO.var 65 [(AV.lit (.int .i64 (c.at'))), (AV.sl 1 (is .i64 (c.regs)))])), (2, (AO.var 24 [(AV.lit (.int .i64 (m.regs))), (AV.sl 4 (gcells cI (m.code)))]))] Gd.none Yt_tZ65 rfl rfl rfl rfl rfl rfl ?_
  refine aops_end ⟨by kernel_rfl, ?_⟩
  refine hK1 _ ?_
  refine awp_seq fun K2 hK2 => ?_
  refine awp_region rfl ?_
  refine o_loadA [(AV.lit (.int .i64 (m.regs))), (AV.sl 4 (gcells cI (m.code)))] Gd.none Yt_tA24 rfl rfl rfl rfl rfl ?_
  refine o_loadA [(AV.lit (.int .i64 (c.at'))), (AV.sl 1 (is .i64 (c.regs)))] Gd.none Yt_tA65 rfl rfl rfl rfl rfl ?_
  refine o_ct (c_Encode m c) Gd.none Yt_tC37 rfl ?_
  refine o_mv (AV.tup [(AV.lit (.string (encS m c))), (nm .i64 (encE m c))]) rfl ?_
  refine o_extract (AV.lit (.string (encS m c))) Gd.none rfl rfl ?_
  refine o_extract (nm .i64 (encE m c)) Gd.none rfl rfl ?_
  refine o_as (AV.lit (.string (encS m c))) rfl ?_
  refine o_as (nm .i64 (encE m c)) rfl ?_
  refine aops_end ?_
  refine hK2 _ ?_
  refine awp_seq fun K3 hK3 => ?_
  refine awp_region rfl ?_
  refine o_loadA [(AV.lit (.int .i64 (m.regs))), (AV.sl 4 (gcells cI (m.code)))] Gd.none Yt_tA24 rfl rfl rfl rfl rfl ?_
  refine o_mv (AV.lit (.string (n))) rfl ?_
  refine o_ct (c_Decode m (n) (by first | assumption | decide | omega)) Gd.none Yt_tC38 rfl ?_
  refine o_mv (AV.tup [(cfgV (decV m (n))), (nm .i64 (decE m (n)))]) rfl ?_
  refine o_extract (cfgV (decV m (n))) Gd.none rfl rfl ?_
  refine o_extract (nm .i64 (decE m (n))) Gd.none rfl rfl ?_
  refine o_alloc 6 [(nm .i64 (0)), (AV.lit (.slice none 0 0))] Gd.none Yt_tO65 rfl rfl rfl ?_
  refine o_store [(6, (AO.var 65 [(AV.lit (.int .i64 ((decV m (n)).at'))), (AV.sl 1 (is .i64 ((decV m (n)).regs)))])), (5, (AO.var 65 [(AV.lit (.int .i64 (c.at'))), (AV.sl 1 (is .i64 (c.regs)))])), (4, (AO.var 24 [(AV.lit (.int .i64 (m.regs))), (AV.sl 4 (gcells cI (m.code)))])), (3, (AO.var 65 [(AV.lit (.int .i64 (c.at'))), (AV.sl 1 (is .i64 (c.regs)))])), (2, (AO.var 24 [(AV.lit (.int .i64 (m.regs))), (AV.sl 4 (gcells cI (m.code)))]))] Gd.none Yt_tZ65 rfl rfl rfl rfl rfl rfl ?_
  refine o_as (nm .i64 (decE m (n))) rfl ?_
  refine aops_end ?_
  refine hK3 _ ?_
  refine awp_seq fun K4 hK4 => ?_
  refine awp_seq fun K5 hK5 => ?_
  refine awp_region rfl ?_
  refine o_loadA [(AV.lit (.int .i64 (m.regs))), (AV.sl 4 (gcells cI (m.code)))] Gd.none Yt_tA24 rfl rfl rfl rfl rfl ?_
  refine o_loadA [(AV.lit (.int .i64 (m.regs))), (AV.sl 4 (gcells cI (m.code)))] Gd.none Yt_tA24 rfl rfl rfl rfl rfl ?_
  refine o_ct (c_vSameMac m (by first | assumption | omega | decide)) Gd.none Yt_tC15 rfl ?_
  refine o_not (b := true) Gd.none rfl ?_
  refine o_mv (AV.lit (.bool false)) rfl ?_
  refine o_loadA [(AV.lit (.int .i64 (c.at'))), (AV.sl 1 (is .i64 (c.regs)))] (Gd.yes rfl rfl rfl) Yt_tA65 rfl rfl rfl rfl rfl ?_
  refine o_loadA [(AV.lit (.int .i64 (c.at'))), (AV.sl 1 (is .i64 (c.regs)))] (Gd.yes rfl rfl rfl) Yt_tA65 rfl rfl rfl rfl rfl ?_
  refine o_ct (c_vSameCfg c (by first | assumption | omega | decide)) (Gd.yes rfl rfl rfl) Yt_tC39 rfl ?_
  refine o_not (b := true) (Gd.yes rfl rfl rfl) rfl ?_
  refine o_pickF (AV.lit (.bool false)) Gd.none rfl rfl rfl ?_
  refine aops_end ?_
  refine hK5 _ ?_
  refine awp_condB (b := false) rfl (fun hh => absurd (hh.symm.trans rfl) (by decide)) (fun _ => ?_)
  refine awp_skip ?_
  refine hK4 _ ?_
  refine awp_seq fun K6 hK6 => ?_
  refine awp_region rfl ?_
  refine o_as (nm .i64 (1)) rfl ?_
  refine o_as (AV.lit (.string (({data := #[]} : ByteArray)))) rfl ?_
  refine aops_end ?_
  refine hK6 _ ?_
  refine awp_seq fun K7 hK7 => ?_
  refine awp_seq fun K8 hK8 => ?_
  refine awp_region rfl ?_
  refine o_loadA [(AV.lit (.int .i64 (m.regs))), (AV.sl 4 (gcells cI (m.code)))] Gd.none Yt_tA24 rfl rfl rfl rfl rfl ?_
  refine o_loadA [(AV.lit (.int .i64 (c.at'))), (AV.sl 1 (is .i64 (c.regs)))] Gd.none Yt_tA65 rfl rfl rfl rfl rfl ?_
  refine o_ct (c_vFits m c) Gd.none Yt_tC40 rfl ?_
  refine aops_end ?_
  refine hK8 _ ?_
  refine awp_condQ (q := okCfg m c) rfl (fun h1 => ?_) (fun h1 => ?_)
  · have hNl := numC_len h1
    refine awp_region rfl ?_
    refine o_loadA [(AV.lit (.int .i64 (m.regs))), (AV.sl 4 (gcells cI (m.code)))] Gd.none Yt_tA24 rfl rfl rfl rfl rfl ?_
    refine o_loadA [(AV.lit (.int .i64 (c.at'))), (AV.sl 1 (is .i64 (c.regs)))] Gd.none Yt_tA65 rfl rfl rfl rfl rfl ?_
    refine o_ct (c_vNumber m c (by assumption)) Gd.none Yt_tC42 rfl ?_
    refine o_ct (c_rTold ((numC m c)) (by first | omega | assumption | (simp only [Int.natAbs_neg]; omega))) Gd.none Yt_tC41 rfl ?_
    refine o_mv (AV.tup [(AV.lit (.string (toldS ((numC m c))))), (nm .i64 (toldE ((numC m c))))]) rfl ?_
    refine o_extract (AV.lit (.string (toldS ((numC m c))))) Gd.none rfl rfl ?_
    refine o_extract (nm .i64 (toldE ((numC m c)))) Gd.none rfl rfl ?_
    refine o_as (AV.lit (.string (toldS ((numC m c))))) rfl ?_
    refine o_as (nm .i64 (toldE ((numC m c)))) rfl ?_
    refine aops_end ?_
    refine hK7 _ ?_
    refine awp_seq fun K9 hK9 => ?_
    refine awp_seq fun K10 hK10 => ?_
    refine awp_region rfl ?_
    refine o_mv (nm .i64 (encE m c)) rfl ?_
    refine n_as (v' := (nm .i64 (toldE ((numC m c))))) (by first | exact congrArg (nm _) (if_pos (by assumption)) | exact congrArg (nm _) (if_neg (by assumption))) ?_
    refine o_mv (nm .i64 (toldE ((numC m c)))) rfl ?_
    refine n_neq (toldE ((numC m c))) (toldE ((numC m c))) Gd.none rfl rfl ?_
    refine o_mv (bp ((toldE ((numC m c))) ≠ (toldE ((numC m c))))) rfl ?_
    refine o_move (AV.lit (.string (encS m c))) (Gd.yes rfl rfl (decide_eq_false (fun h => h rfl))) rfl ?_
    refine n_as (v' := (AV.lit (.string (toldS ((numC m c)))))) (by first | exact str_as2 (if_pos (by assumption)) | exact str_as2 (if_neg (by assumption))) ?_
    refine o_move (AV.lit (.string (toldS ((numC m c))))) (Gd.yes rfl rfl (decide_eq_false (fun h => h rfl))) rfl ?_
    refine o_neqS (a := (toldS ((numC m c)))) (c := (toldS ((numC m c)))) (Gd.yes rfl rfl (decide_eq_false (fun h => h rfl))) rfl rfl ?_
    refine o_pickF (bp ((toldS ((numC m c))).toList ≠ (toldS ((numC m c))).toList)) Gd.none rfl (decide_eq_false (fun h => h rfl)) rfl ?_
    refine aops_end ?_
    refine hK10 _ ?_
    refine awp_condB (b := decide ((toldS ((numC m c))).toList ≠ (toldS ((numC m c))).toList)) rfl (fun hh => absurd (hh.symm.trans (decide_eq_false (fun h => h rfl))) (by decide)) (fun _ => ?_)
    refine awp_skip ?_
    refine hK9 _ ?_
    refine awp_seq fun K11 hK11 => ?_
    refine awp_block ?_
    refine awp_seq fun K12 hK12 => ?_
    refine awp_region rfl ?_
    refine o_loadA [(AV.lit (.int .i64 (m.regs))), (AV.sl 4 (gcells cI (m.code)))] Gd.none Yt_tA24 rfl rfl rfl rfl rfl ?_
    refine o_ct (c_vValid m) Gd.none Yt_tC14 rfl ?_
    refine o_notP (q := okMac m) Gd.none rfl ?_
    refine o_mv (bp (¬ (okMac m))) rfl ?_
    refine o_splitP (q := ¬ (okMac m)) 65 rfl (fun h2 => ?_) (fun h2 => ?_)
    · refine o_skip rfl rfl (decide_eq_true h2) ?_
      refine o_skip rfl rfl (decide_eq_true h2) ?_
      refine o_skip rfl rfl (decide_eq_true h2) ?_
      refine o_pickT (AV.lit (.bool true)) Gd.none rfl (decide_eq_true h2) rfl ?_
      refine o_as (AV.lit (.bool true)) rfl ?_
      refine aops_end ?_
      refine hK12 _ ?_
      refine awp_condB (b := true) rfl (fun _ => ?_) (fun hh => absurd (hh.symm.trans rfl) (by decide))
      refine awp_seq fun K13 hK13 => ?_
      have hd := dec_bad (m := m) (n := n) (.inl h2)
      refine awp_region rfl ?_
      refine o_mv (nm .i64 (decE m (n))) rfl ?_
      refine n_eql (decE m (n)) (1) Gd.none rfl rfl ?_
      refine n_as (v' := (AV.lit (.bool true))) (by exact bpy hd.1) ?_
      refine o_mv (AV.lit (.bool true)) rfl ?_
      refine o_loadA [(AV.lit (.int .i64 ((decV m (n)).at'))), (AV.sl 1 (is .i64 ((decV m (n)).regs)))] (Gd.yes rfl rfl rfl) Yt_tA65 rfl rfl rfl rfl rfl ?_
      refine n_as (v' := (cfgV zC)) (by exact congrArg cfgV hd.2) ?_
      refine o_build [(nm .i64 (0)), (AV.lit (.slice none 0 0))] [] (Gd.yes rfl rfl rfl) Yt_tP65 Yt_tO65 rfl rfl rfl ?_
      refine o_callG [] [(cfgV zC), (AV.agg [(nm .i64 (0)), (AV.lit (.slice none 0 0))])] _ (AV.lit (.bool true)) [(6, (AO.var 65 [(AV.lit (.int .i64 ((decV m (n)).at'))), (AV.sl 1 (is .i64 ((decV m (n)).regs)))])), (5, (AO.var 65 [(AV.lit (.int .i64 (c.at'))), (AV.sl 1 (is .i64 (c.regs)))])), (4, (AO.var 24 [(AV.lit (.int .i64 (m.regs))), (AV.sl 4 (gcells cI (m.code)))])), (3, (AO.var 65 [(AV.lit (.int .i64 (c.at'))), (AV.sl 1 (is .i64 (c.regs)))])), (2, (AO.var 24 [(AV.lit (.int .i64 (m.regs))), (AV.sl 4 (gcells cI (m.code)))]))] (Gd.yes rfl rfl rfl) Yt_tC39 rfl (trivial) rfl rfl (LeL.cons (AV.le_refl _) (LeL.cons (AV.le_agg (LeL.cons (AV.le_refl _) (LeL.cons (AV.le_nil' (by decide) rfl) (LeL.nil)))) (LeL.nil))) (c_vSameCfg zC (by first | assumption | omega | decide)) rfl ?_
      refine o_pickT (AV.lit (.bool true)) Gd.none rfl rfl rfl ?_
      refine o_mv (AV.lit (.bool true)) rfl ?_
      refine o_ct c_awake10 (Gd.yes rfl rfl rfl) Yt_tC16 rfl ?_
      refine o_pickT (AV.lit (.bool true)) Gd.none rfl rfl rfl ?_
      refine o_as (AV.lit (.bool true)) rfl ?_
      refine aops_end ?_
      refine hK13 _ ?_
      refine awp_ret ?_
      refine post_ret ⟨[(AV.lit (.bool true))], And.intro (AV.le_refl _) (trivial), rfl, ?_⟩
      first | rfl | simp [bp]
    · refine o_move (AV.lit (.string (n))) (Gd.yes rfl rfl (decide_eq_false h2)) rfl ?_
      refine o_ct (c_rValid (n) (by first | assumption | decide | omega)) (Gd.yes rfl rfl (decide_eq_false h2)) Yt_tC28 rfl ?_
      refine o_not (b := okS (n)) (Gd.yes rfl rfl (decide_eq_false h2)) rfl ?_
      refine o_pickF (AV.lit (.bool (!(okS (n))))) Gd.none rfl (decide_eq_false h2) rfl ?_
      refine o_as (AV.lit (.bool (!(okS (n))))) rfl ?_
      refine aops_end ?_
      refine hK12 _ ?_
      refine awp_condB (b := !(okS (n))) rfl (fun h3 => ?_) (fun h3 => ?_)
      · refine awp_seq fun K14 hK14 => ?_
        have hd := dec_bad (m := m) (n := n) (.inr (by simpa using h3))
        refine awp_region rfl ?_
        refine o_mv (nm .i64 (decE m (n))) rfl ?_
        refine n_eql (decE m (n)) (1) Gd.none rfl rfl ?_
        refine n_as (v' := (AV.lit (.bool true))) (by exact bpy hd.1) ?_
        refine o_mv (AV.lit (.bool true)) rfl ?_
        refine o_loadA [(AV.lit (.int .i64 ((decV m (n)).at'))), (AV.sl 1 (is .i64 ((decV m (n)).regs)))] (Gd.yes rfl rfl rfl) Yt_tA65 rfl rfl rfl rfl rfl ?_
        refine n_as (v' := (cfgV zC)) (by exact congrArg cfgV hd.2) ?_
        refine o_build [(nm .i64 (0)), (AV.lit (.slice none 0 0))] [] (Gd.yes rfl rfl rfl) Yt_tP65 Yt_tO65 rfl rfl rfl ?_
        refine o_callG [] [(cfgV zC), (AV.agg [(nm .i64 (0)), (AV.lit (.slice none 0 0))])] _ (AV.lit (.bool true)) [(6, (AO.var 65 [(AV.lit (.int .i64 ((decV m (n)).at'))), (AV.sl 1 (is .i64 ((decV m (n)).regs)))])), (5, (AO.var 65 [(AV.lit (.int .i64 (c.at'))), (AV.sl 1 (is .i64 (c.regs)))])), (4, (AO.var 24 [(AV.lit (.int .i64 (m.regs))), (AV.sl 4 (gcells cI (m.code)))])), (3, (AO.var 65 [(AV.lit (.int .i64 (c.at'))), (AV.sl 1 (is .i64 (c.regs)))])), (2, (AO.var 24 [(AV.lit (.int .i64 (m.regs))), (AV.sl 4 (gcells cI (m.code)))]))] (Gd.yes rfl rfl rfl) Yt_tC39 rfl (trivial) rfl rfl (LeL.cons (AV.le_refl _) (LeL.cons (AV.le_agg (LeL.cons (AV.le_refl _) (LeL.cons (AV.le_nil' (by decide) rfl) (LeL.nil)))) (LeL.nil))) (c_vSameCfg zC (by first | assumption | omega | decide)) rfl ?_
        refine o_pickT (AV.lit (.bool true)) Gd.none rfl rfl rfl ?_
        refine o_mv (AV.lit (.bool true)) rfl ?_
        refine o_ct c_awake10 (Gd.yes rfl rfl rfl) Yt_tC16 rfl ?_
        refine o_pickT (AV.lit (.bool true)) Gd.none rfl rfl rfl ?_
        refine o_as (AV.lit (.bool true)) rfl ?_
        refine aops_end ?_
        refine hK14 _ ?_
        refine awp_ret ?_
        refine post_ret ⟨[(AV.lit (.bool true))], And.intro (AV.le_refl _) (trivial), rfl, ?_⟩
        first | rfl | simp [bp]
      · refine awp_seq fun K15 hK15 => ?_
        have hM : okMac m := Decidable.not_not.1 h2
        have ho : okS n = true := by simpa using h3
        refine awp_region rfl ?_
        refine o_mv (AV.lit (.string (n))) rfl ?_
        refine o_ct (c_rParse (n) (by first | assumption | exact okS_iff.1 (by assumption))) Gd.none Yt_tC22 rfl ?_
        refine o_ct (c_rSign ((numS (n)))) Gd.none Yt_tC33 rfl ?_
        refine o_leq (a := (sgn ((numS (n))))) (c := (((0 : Nat) : Int))) Gd.none rfl rfl ?_
        refine o_as (bp ((sgn ((numS (n)))) ≤ (((0 : Nat) : Int)))) rfl ?_
        refine aops_end ?_
        refine hK15 _ ?_
        refine awp_condQ (q := (sgn ((numS (n)))) ≤ (((0 : Nat) : Int))) rfl (fun h4 => ?_) (fun h4 => ?_)
        · refine awp_seq fun K16 hK16 => ?_
          have hd := dec_neg hM ho (fun e => by have q := sgn_le.1 (by assumption); omega)
          refine awp_region rfl ?_
          refine o_mv (nm .i64 (decE m (n))) rfl ?_
          refine n_eql (decE m (n)) (2) Gd.none rfl rfl ?_
          refine n_as (v' := (AV.lit (.bool true))) (by exact bpy hd.1) ?_
          refine o_mv (AV.lit (.bool true)) rfl ?_
          refine o_loadA [(AV.lit (.int .i64 ((decV m (n)).at'))), (AV.sl 1 (is .i64 ((decV m (n)).regs)))] (Gd.yes rfl rfl rfl) Yt_tA65 rfl rfl rfl rfl rfl ?_
          refine n_as (v' := (cfgV zC)) (by exact congrArg cfgV hd.2) ?_
          refine o_build [(nm .i64 (0)), (AV.lit (.slice none 0 0))] [] (Gd.yes rfl rfl rfl) Yt_tP65 Yt_tO65 rfl rfl rfl ?_
          refine o_callG [] [(cfgV zC), (AV.agg [(nm .i64 (0)), (AV.lit (.slice none 0 0))])] _ (AV.lit (.bool true)) [(6, (AO.var 65 [(AV.lit (.int .i64 ((decV m (n)).at'))), (AV.sl 1 (is .i64 ((decV m (n)).regs)))])), (5, (AO.var 65 [(AV.lit (.int .i64 (c.at'))), (AV.sl 1 (is .i64 (c.regs)))])), (4, (AO.var 24 [(AV.lit (.int .i64 (m.regs))), (AV.sl 4 (gcells cI (m.code)))])), (3, (AO.var 65 [(AV.lit (.int .i64 (c.at'))), (AV.sl 1 (is .i64 (c.regs)))])), (2, (AO.var 24 [(AV.lit (.int .i64 (m.regs))), (AV.sl 4 (gcells cI (m.code)))]))] (Gd.yes rfl rfl rfl) Yt_tC39 rfl (trivial) rfl rfl (LeL.cons (AV.le_refl _) (LeL.cons (AV.le_agg (LeL.cons (AV.le_refl _) (LeL.cons (AV.le_nil' (by decide) rfl) (LeL.nil)))) (LeL.nil))) (c_vSameCfg zC (by first | assumption | omega | decide)) rfl ?_
          refine o_pickT (AV.lit (.bool true)) Gd.none rfl rfl rfl ?_
          refine o_mv (AV.lit (.bool true)) rfl ?_
          refine o_ct c_awake10 (Gd.yes rfl rfl rfl) Yt_tC16 rfl ?_
          refine o_pickT (AV.lit (.bool true)) Gd.none rfl rfl rfl ?_
          refine o_as (AV.lit (.bool true)) rfl ?_
          refine aops_end ?_
          refine hK16 _ ?_
          refine awp_ret ?_
          refine post_ret ⟨[(AV.lit (.bool true))], And.intro (AV.le_refl _) (trivial), rfl, ?_⟩
          first | rfl | simp [bp]
        · refine awp_skip ?_
          refine hK11 _ ?_
          refine awp_seq fun K17 hK17 => ?_
          have h0 : 0 < numS n := (by have q := (not_congr sgn_le).1 (by assumption); omega)
          have hd := dec_pos hM ho h0
          have hdl := decC_len m (numS n).toNat hM
          have hfW : Fit ((((numS n).toNat : Nat)) : Int) := (by rw [Int.toNat_of_nonneg (by omega)]; exact fit_numS (okS_iff.1 ho))
          refine awp_regionD rfl ?_
          refine o_loadA [(AV.lit (.int .i64 (m.regs))), (AV.sl 4 (gcells cI (m.code)))] Gd.none Yt_tA24 rfl rfl rfl rfl rfl ?_
          refine o_mv (AV.lit (.string (n))) rfl ?_
          refine o_ct (c_rParse (n) (by first | assumption | exact okS_iff.1 (by assumption))) Gd.none Yt_tC22 rfl ?_
          refine n_as (v' := (intR (((((numS n).toNat : Nat)) : Int)))) (by exact congrArg intR (show numS n = ((((numS n).toNat : Nat)) : Int) by omega)) ?_
          refine o_ct (c_vDecode m (numS n).toNat hM (by omega) hfW) Gd.none Yt_tC43 rfl ?_
          refine o_mv (AV.tup [(cfgV (decC m (numS n).toNat)), (bp (decB m (numS n).toNat))]) rfl ?_
          refine o_extract (cfgV (decC m (numS n).toNat)) Gd.none rfl rfl ?_
          refine o_extract (bp (decB m (numS n).toNat)) Gd.none rfl rfl ?_
          refine o_alloc 7 [(nm .i64 (0)), (AV.lit (.slice none 0 0))] Gd.none Yt_tO65 rfl rfl rfl ?_
          refine o_store [(7, (AO.var 65 [(AV.lit (.int .i64 ((decC m (numS n).toNat).at'))), (AV.sl 1 (is .i64 ((decC m (numS n).toNat).regs)))])), (6, (AO.var 65 [(AV.lit (.int .i64 ((decV m (n)).at'))), (AV.sl 1 (is .i64 ((decV m (n)).regs)))])), (5, (AO.var 65 [(AV.lit (.int .i64 (c.at'))), (AV.sl 1 (is .i64 (c.regs)))])), (4, (AO.var 24 [(AV.lit (.int .i64 (m.regs))), (AV.sl 4 (gcells cI (m.code)))])), (3, (AO.var 65 [(AV.lit (.int .i64 (c.at'))), (AV.sl 1 (is .i64 (c.regs)))])), (2, (AO.var 24 [(AV.lit (.int .i64 (m.regs))), (AV.sl 4 (gcells cI (m.code)))]))] Gd.none Yt_tZ65 rfl rfl rfl rfl rfl rfl ?_
          refine o_as (bp (decB m (numS n).toNat)) rfl ?_
          refine aops_end ⟨by kernel_rfl, ?_⟩
          refine hK17 _ ?_
          refine awp_seq fun K18 hK18 => ?_
          refine awp_seq fun K19 hK19 => ?_
          refine awp_region rfl ?_
          refine o_mv (bp (decB m (numS n).toNat)) rfl ?_
          refine o_notP (q := decB m (numS n).toNat) Gd.none rfl ?_
          refine aops_end ?_
          refine hK19 _ ?_
          refine awp_condQ (q := ¬ (decB m (numS n).toNat)) rfl (fun h5 => ?_) (fun h5 => ?_)
          · refine awp_seq fun K20 hK20 => ?_
            refine awp_region rfl ?_
            refine o_mv (nm .i64 (decE m (n))) rfl ?_
            refine n_eql (decE m (n)) (4) Gd.none rfl rfl ?_
            refine n_as (v' := (AV.lit (.bool true))) (by exact bpy (by rw [hd.1, if_neg (by assumption)])) ?_
            refine o_mv (AV.lit (.bool true)) rfl ?_
            refine o_loadA [(AV.lit (.int .i64 ((decV m (n)).at'))), (AV.sl 1 (is .i64 ((decV m (n)).regs)))] (Gd.yes rfl rfl rfl) Yt_tA65 rfl rfl rfl rfl rfl ?_
            refine n_as (v' := (cfgV zC)) (by exact congrArg cfgV (hd.2.trans (decC_no (by assumption)))) ?_
            refine o_build [(nm .i64 (0)), (AV.lit (.slice none 0 0))] [] (Gd.yes rfl rfl rfl) Yt_tP65 Yt_tO65 rfl rfl rfl ?_
            refine o_callG [] [(cfgV zC), (AV.agg [(nm .i64 (0)), (AV.lit (.slice none 0 0))])] _ (AV.lit (.bool true)) [(7, (AO.var 65 [(AV.lit (.int .i64 ((decC m (numS n).toNat).at'))), (AV.sl 1 (is .i64 ((decC m (numS n).toNat).regs)))])), (6, (AO.var 65 [(AV.lit (.int .i64 ((decV m (n)).at'))), (AV.sl 1 (is .i64 ((decV m (n)).regs)))])), (5, (AO.var 65 [(AV.lit (.int .i64 (c.at'))), (AV.sl 1 (is .i64 (c.regs)))])), (4, (AO.var 24 [(AV.lit (.int .i64 (m.regs))), (AV.sl 4 (gcells cI (m.code)))])), (3, (AO.var 65 [(AV.lit (.int .i64 (c.at'))), (AV.sl 1 (is .i64 (c.regs)))])), (2, (AO.var 24 [(AV.lit (.int .i64 (m.regs))), (AV.sl 4 (gcells cI (m.code)))]))] (Gd.yes rfl rfl rfl) Yt_tC39 rfl (trivial) rfl rfl (LeL.cons (AV.le_refl _) (LeL.cons (AV.le_agg (LeL.cons (AV.le_refl _) (LeL.cons (AV.le_nil' (by decide) rfl) (LeL.nil)))) (LeL.nil))) (c_vSameCfg zC (by first | assumption | omega | decide)) rfl ?_
            refine o_pickT (AV.lit (.bool true)) Gd.none rfl rfl rfl ?_
            refine o_mv (AV.lit (.bool true)) rfl ?_
            refine o_ct c_awake10 (Gd.yes rfl rfl rfl) Yt_tC16 rfl ?_
            refine o_pickT (AV.lit (.bool true)) Gd.none rfl rfl rfl ?_
            refine o_as (AV.lit (.bool true)) rfl ?_
            refine aops_end ?_
            refine hK20 _ ?_
            refine awp_ret ?_
            refine post_ret ⟨[(AV.lit (.bool true))], And.intro (AV.le_refl _) (trivial), rfl, ?_⟩
            first | rfl | simp [bp]
          · refine awp_skip ?_
            refine hK18 _ ?_
            refine awp_seq fun K21 hK21 => ?_
            refine awp_region rfl ?_
            refine o_mv (nm .i64 (decE m (n))) rfl ?_
            refine n_eql (decE m (n)) (0) Gd.none rfl rfl ?_
            refine n_as (v' := (AV.lit (.bool true))) (by exact bpy (by rw [hd.1, if_pos (Decidable.not_not.1 (by assumption))])) ?_
            refine o_mv (AV.lit (.bool true)) rfl ?_
            refine o_loadA [(AV.lit (.int .i64 ((decV m (n)).at'))), (AV.sl 1 (is .i64 ((decV m (n)).regs)))] (Gd.yes rfl rfl rfl) Yt_tA65 rfl rfl rfl rfl rfl ?_
            refine n_as (v' := (cfgV (decC m (numS n).toNat))) (by exact congrArg cfgV hd.2) ?_
            refine o_loadA [(AV.lit (.int .i64 ((decC m (numS n).toNat).at'))), (AV.sl 1 (is .i64 ((decC m (numS n).toNat).regs)))] (Gd.yes rfl rfl rfl) Yt_tA65 rfl rfl rfl rfl rfl ?_
            refine o_ct (c_vSameCfg (decC m (numS n).toNat) (by first | assumption | omega | decide)) (Gd.yes rfl rfl rfl) Yt_tC39 rfl ?_
            refine o_pickT (AV.lit (.bool true)) Gd.none rfl rfl rfl ?_
            refine o_mv (AV.lit (.bool true)) rfl ?_
            refine o_ct c_awake10 (Gd.yes rfl rfl rfl) Yt_tC16 rfl ?_
            refine o_pickT (AV.lit (.bool true)) Gd.none rfl rfl rfl ?_
            refine o_as (AV.lit (.bool true)) rfl ?_
            refine aops_end ?_
            refine hK21 _ ?_
            refine awp_ret ?_
            refine post_ret ⟨[(AV.lit (.bool true))], And.intro (AV.le_refl _) (trivial), rfl, ?_⟩
            first | rfl | simp [bp]
  · refine awp_skip ?_
    refine hK7 _ ?_
    refine awp_seq fun K22 hK22 => ?_
    refine awp_seq fun K23 hK23 => ?_
    refine awp_region rfl ?_
    refine o_mv (nm .i64 (encE m c)) rfl ?_
    refine n_as (v' := (nm .i64 (1))) (by first | exact congrArg (nm _) (if_pos (by assumption)) | exact congrArg (nm _) (if_neg (by assumption))) ?_
    refine o_mv (nm .i64 (1)) rfl ?_
    refine n_neq (1) (1) Gd.none rfl rfl ?_
    refine o_mv (bp ((1) ≠ (1))) rfl ?_
    refine o_move (AV.lit (.string (encS m c))) (Gd.yes rfl rfl (decide_eq_false (by decide))) rfl ?_
    refine n_as (v' := (AV.lit (.string (({data := #[]} : ByteArray))))) (by first | exact str_as2 (if_pos (by assumption)) | exact str_as2 (if_neg (by assumption))) ?_
    refine o_move (AV.lit (.string (({data := #[]} : ByteArray)))) (Gd.yes rfl rfl (decide_eq_false (by decide))) rfl ?_
    refine o_neqS (a := (({data := #[]} : ByteArray))) (c := (({data := #[]} : ByteArray))) (Gd.yes rfl rfl (decide_eq_false (by decide))) rfl rfl ?_
    refine o_pickF (bp ((({data := #[]} : ByteArray)).toList ≠ (({data := #[]} : ByteArray)).toList)) Gd.none rfl (decide_eq_false (by decide)) rfl ?_
    refine aops_end ?_
    refine hK23 _ ?_
    refine awp_condB (b := decide ((({data := #[]} : ByteArray)).toList ≠ (({data := #[]} : ByteArray)).toList)) rfl (fun hh => absurd (hh.symm.trans (decide_eq_false (fun h => h rfl))) (by decide)) (fun _ => ?_)
    refine awp_skip ?_
    refine hK22 _ ?_
    refine awp_seq fun K24 hK24 => ?_
    refine awp_block ?_
    refine awp_seq fun K25 hK25 => ?_
    refine awp_region rfl ?_
    refine o_loadA [(AV.lit (.int .i64 (m.regs))), (AV.sl 4 (gcells cI (m.code)))] Gd.none Yt_tA24 rfl rfl rfl rfl rfl ?_
    refine o_ct (c_vValid m) Gd.none Yt_tC14 rfl ?_
    refine o_notP (q := okMac m) Gd.none rfl ?_
    refine o_mv (bp (¬ (okMac m))) rfl ?_
    refine o_splitP (q := ¬ (okMac m)) 65 rfl (fun h6 => ?_) (fun h6 => ?_)
    · refine o_skip rfl rfl (decide_eq_true h6) ?_
      refine o_skip rfl rfl (decide_eq_true h6) ?_
      refine o_skip rfl rfl (decide_eq_true h6) ?_
      refine o_pickT (AV.lit (.bool true)) Gd.none rfl (decide_eq_true h6) rfl ?_
      refine o_as (AV.lit (.bool true)) rfl ?_
      refine aops_end ?_
      refine hK25 _ ?_
      refine awp_condB (b := true) rfl (fun _ => ?_) (fun hh => absurd (hh.symm.trans rfl) (by decide))
      refine awp_seq fun K26 hK26 => ?_
      have hd := dec_bad (m := m) (n := n) (.inl h6)
      refine awp_region rfl ?_
      refine o_mv (nm .i64 (decE m (n))) rfl ?_
      refine n_eql (decE m (n)) (1) Gd.none rfl rfl ?_
      refine n_as (v' := (AV.lit (.bool true))) (by exact bpy hd.1) ?_
      refine o_mv (AV.lit (.bool true)) rfl ?_
      refine o_loadA [(AV.lit (.int .i64 ((decV m (n)).at'))), (AV.sl 1 (is .i64 ((decV m (n)).regs)))] (Gd.yes rfl rfl rfl) Yt_tA65 rfl rfl rfl rfl rfl ?_
      refine n_as (v' := (cfgV zC)) (by exact congrArg cfgV hd.2) ?_
      refine o_build [(nm .i64 (0)), (AV.lit (.slice none 0 0))] [] (Gd.yes rfl rfl rfl) Yt_tP65 Yt_tO65 rfl rfl rfl ?_
      refine o_callG [] [(cfgV zC), (AV.agg [(nm .i64 (0)), (AV.lit (.slice none 0 0))])] _ (AV.lit (.bool true)) [(6, (AO.var 65 [(AV.lit (.int .i64 ((decV m (n)).at'))), (AV.sl 1 (is .i64 ((decV m (n)).regs)))])), (5, (AO.var 65 [(AV.lit (.int .i64 (c.at'))), (AV.sl 1 (is .i64 (c.regs)))])), (4, (AO.var 24 [(AV.lit (.int .i64 (m.regs))), (AV.sl 4 (gcells cI (m.code)))])), (3, (AO.var 65 [(AV.lit (.int .i64 (c.at'))), (AV.sl 1 (is .i64 (c.regs)))])), (2, (AO.var 24 [(AV.lit (.int .i64 (m.regs))), (AV.sl 4 (gcells cI (m.code)))]))] (Gd.yes rfl rfl rfl) Yt_tC39 rfl (trivial) rfl rfl (LeL.cons (AV.le_refl _) (LeL.cons (AV.le_agg (LeL.cons (AV.le_refl _) (LeL.cons (AV.le_nil' (by decide) rfl) (LeL.nil)))) (LeL.nil))) (c_vSameCfg zC (by first | assumption | omega | decide)) rfl ?_
      refine o_pickT (AV.lit (.bool true)) Gd.none rfl rfl rfl ?_
      refine o_mv (AV.lit (.bool true)) rfl ?_
      refine o_ct c_awake10 (Gd.yes rfl rfl rfl) Yt_tC16 rfl ?_
      refine o_pickT (AV.lit (.bool true)) Gd.none rfl rfl rfl ?_
      refine o_as (AV.lit (.bool true)) rfl ?_
      refine aops_end ?_
      refine hK26 _ ?_
      refine awp_ret ?_
      refine post_ret ⟨[(AV.lit (.bool true))], And.intro (AV.le_refl _) (trivial), rfl, ?_⟩
      first | rfl | simp [bp]
    · refine o_move (AV.lit (.string (n))) (Gd.yes rfl rfl (decide_eq_false h6)) rfl ?_
      refine o_ct (c_rValid (n) (by first | assumption | decide | omega)) (Gd.yes rfl rfl (decide_eq_false h6)) Yt_tC28 rfl ?_
      refine o_not (b := okS (n)) (Gd.yes rfl rfl (decide_eq_false h6)) rfl ?_
      refine o_pickF (AV.lit (.bool (!(okS (n))))) Gd.none rfl (decide_eq_false h6) rfl ?_
      refine o_as (AV.lit (.bool (!(okS (n))))) rfl ?_
      refine aops_end ?_
      refine hK25 _ ?_
      refine awp_condB (b := !(okS (n))) rfl (fun h7 => ?_) (fun h7 => ?_)
      · refine awp_seq fun K27 hK27 => ?_
        have hd := dec_bad (m := m) (n := n) (.inr (by simpa using h7))
        refine awp_region rfl ?_
        refine o_mv (nm .i64 (decE m (n))) rfl ?_
        refine n_eql (decE m (n)) (1) Gd.none rfl rfl ?_
        refine n_as (v' := (AV.lit (.bool true))) (by exact bpy hd.1) ?_
        refine o_mv (AV.lit (.bool true)) rfl ?_
        refine o_loadA [(AV.lit (.int .i64 ((decV m (n)).at'))), (AV.sl 1 (is .i64 ((decV m (n)).regs)))] (Gd.yes rfl rfl rfl) Yt_tA65 rfl rfl rfl rfl rfl ?_
        refine n_as (v' := (cfgV zC)) (by exact congrArg cfgV hd.2) ?_
        refine o_build [(nm .i64 (0)), (AV.lit (.slice none 0 0))] [] (Gd.yes rfl rfl rfl) Yt_tP65 Yt_tO65 rfl rfl rfl ?_
        refine o_callG [] [(cfgV zC), (AV.agg [(nm .i64 (0)), (AV.lit (.slice none 0 0))])] _ (AV.lit (.bool true)) [(6, (AO.var 65 [(AV.lit (.int .i64 ((decV m (n)).at'))), (AV.sl 1 (is .i64 ((decV m (n)).regs)))])), (5, (AO.var 65 [(AV.lit (.int .i64 (c.at'))), (AV.sl 1 (is .i64 (c.regs)))])), (4, (AO.var 24 [(AV.lit (.int .i64 (m.regs))), (AV.sl 4 (gcells cI (m.code)))])), (3, (AO.var 65 [(AV.lit (.int .i64 (c.at'))), (AV.sl 1 (is .i64 (c.regs)))])), (2, (AO.var 24 [(AV.lit (.int .i64 (m.regs))), (AV.sl 4 (gcells cI (m.code)))]))] (Gd.yes rfl rfl rfl) Yt_tC39 rfl (trivial) rfl rfl (LeL.cons (AV.le_refl _) (LeL.cons (AV.le_agg (LeL.cons (AV.le_refl _) (LeL.cons (AV.le_nil' (by decide) rfl) (LeL.nil)))) (LeL.nil))) (c_vSameCfg zC (by first | assumption | omega | decide)) rfl ?_
        refine o_pickT (AV.lit (.bool true)) Gd.none rfl rfl rfl ?_
        refine o_mv (AV.lit (.bool true)) rfl ?_
        refine o_ct c_awake10 (Gd.yes rfl rfl rfl) Yt_tC16 rfl ?_
        refine o_pickT (AV.lit (.bool true)) Gd.none rfl rfl rfl ?_
        refine o_as (AV.lit (.bool true)) rfl ?_
        refine aops_end ?_
        refine hK27 _ ?_
        refine awp_ret ?_
        refine post_ret ⟨[(AV.lit (.bool true))], And.intro (AV.le_refl _) (trivial), rfl, ?_⟩
        first | rfl | simp [bp]
      · refine awp_seq fun K28 hK28 => ?_
        have hM : okMac m := Decidable.not_not.1 h6
        have ho : okS n = true := by simpa using h7
        refine awp_region rfl ?_
        refine o_mv (AV.lit (.string (n))) rfl ?_
        refine o_ct (c_rParse (n) (by first | assumption | exact okS_iff.1 (by assumption))) Gd.none Yt_tC22 rfl ?_
        refine o_ct (c_rSign ((numS (n)))) Gd.none Yt_tC33 rfl ?_
        refine o_leq (a := (sgn ((numS (n))))) (c := (((0 : Nat) : Int))) Gd.none rfl rfl ?_
        refine o_as (bp ((sgn ((numS (n)))) ≤ (((0 : Nat) : Int)))) rfl ?_
        refine aops_end ?_
        refine hK28 _ ?_
        refine awp_condQ (q := (sgn ((numS (n)))) ≤ (((0 : Nat) : Int))) rfl (fun h8 => ?_) (fun h8 => ?_)
        · refine awp_seq fun K29 hK29 => ?_
          have hd := dec_neg hM ho (fun e => by have q := sgn_le.1 (by assumption); omega)
          refine awp_region rfl ?_
          refine o_mv (nm .i64 (decE m (n))) rfl ?_
          refine n_eql (decE m (n)) (2) Gd.none rfl rfl ?_
          refine n_as (v' := (AV.lit (.bool true))) (by exact bpy hd.1) ?_
          refine o_mv (AV.lit (.bool true)) rfl ?_
          refine o_loadA [(AV.lit (.int .i64 ((decV m (n)).at'))), (AV.sl 1 (is .i64 ((decV m (n)).regs)))] (Gd.yes rfl rfl rfl) Yt_tA65 rfl rfl rfl rfl rfl ?_
          refine n_as (v' := (cfgV zC)) (by exact congrArg cfgV hd.2) ?_
          refine o_build [(nm .i64 (0)), (AV.lit (.slice none 0 0))] [] (Gd.yes rfl rfl rfl) Yt_tP65 Yt_tO65 rfl rfl rfl ?_
          refine o_callG [] [(cfgV zC), (AV.agg [(nm .i64 (0)), (AV.lit (.slice none 0 0))])] _ (AV.lit (.bool true)) [(6, (AO.var 65 [(AV.lit (.int .i64 ((decV m (n)).at'))), (AV.sl 1 (is .i64 ((decV m (n)).regs)))])), (5, (AO.var 65 [(AV.lit (.int .i64 (c.at'))), (AV.sl 1 (is .i64 (c.regs)))])), (4, (AO.var 24 [(AV.lit (.int .i64 (m.regs))), (AV.sl 4 (gcells cI (m.code)))])), (3, (AO.var 65 [(AV.lit (.int .i64 (c.at'))), (AV.sl 1 (is .i64 (c.regs)))])), (2, (AO.var 24 [(AV.lit (.int .i64 (m.regs))), (AV.sl 4 (gcells cI (m.code)))]))] (Gd.yes rfl rfl rfl) Yt_tC39 rfl (trivial) rfl rfl (LeL.cons (AV.le_refl _) (LeL.cons (AV.le_agg (LeL.cons (AV.le_refl _) (LeL.cons (AV.le_nil' (by decide) rfl) (LeL.nil)))) (LeL.nil))) (c_vSameCfg zC (by first | assumption | omega | decide)) rfl ?_
          refine o_pickT (AV.lit (.bool true)) Gd.none rfl rfl rfl ?_
          refine o_mv (AV.lit (.bool true)) rfl ?_
          refine o_ct c_awake10 (Gd.yes rfl rfl rfl) Yt_tC16 rfl ?_
          refine o_pickT (AV.lit (.bool true)) Gd.none rfl rfl rfl ?_
          refine o_as (AV.lit (.bool true)) rfl ?_
          refine aops_end ?_
          refine hK29 _ ?_
          refine awp_ret ?_
          refine post_ret ⟨[(AV.lit (.bool true))], And.intro (AV.le_refl _) (trivial), rfl, ?_⟩
          first | rfl | simp [bp]
        · refine awp_skip ?_
          refine hK24 _ ?_
          refine awp_seq fun K30 hK30 => ?_
          have h0 : 0 < numS n := (by have q := (not_congr sgn_le).1 (by assumption); omega)
          have hd := dec_pos hM ho h0
          have hdl := decC_len m (numS n).toNat hM
          have hfW : Fit ((((numS n).toNat : Nat)) : Int) := (by rw [Int.toNat_of_nonneg (by omega)]; exact fit_numS (okS_iff.1 ho))
          refine awp_regionD rfl ?_
          refine o_loadA [(AV.lit (.int .i64 (m.regs))), (AV.sl 4 (gcells cI (m.code)))] Gd.none Yt_tA24 rfl rfl rfl rfl rfl ?_
          refine o_mv (AV.lit (.string (n))) rfl ?_
          refine o_ct (c_rParse (n) (by first | assumption | exact okS_iff.1 (by assumption))) Gd.none Yt_tC22 rfl ?_
          refine n_as (v' := (intR (((((numS n).toNat : Nat)) : Int)))) (by exact congrArg intR (show numS n = ((((numS n).toNat : Nat)) : Int) by omega)) ?_
          refine o_ct (c_vDecode m (numS n).toNat hM (by omega) hfW) Gd.none Yt_tC43 rfl ?_
          refine o_mv (AV.tup [(cfgV (decC m (numS n).toNat)), (bp (decB m (numS n).toNat))]) rfl ?_
          refine o_extract (cfgV (decC m (numS n).toNat)) Gd.none rfl rfl ?_
          refine o_extract (bp (decB m (numS n).toNat)) Gd.none rfl rfl ?_
          refine o_alloc 7 [(nm .i64 (0)), (AV.lit (.slice none 0 0))] Gd.none Yt_tO65 rfl rfl rfl ?_
          refine o_store [(7, (AO.var 65 [(AV.lit (.int .i64 ((decC m (numS n).toNat).at'))), (AV.sl 1 (is .i64 ((decC m (numS n).toNat).regs)))])), (6, (AO.var 65 [(AV.lit (.int .i64 ((decV m (n)).at'))), (AV.sl 1 (is .i64 ((decV m (n)).regs)))])), (5, (AO.var 65 [(AV.lit (.int .i64 (c.at'))), (AV.sl 1 (is .i64 (c.regs)))])), (4, (AO.var 24 [(AV.lit (.int .i64 (m.regs))), (AV.sl 4 (gcells cI (m.code)))])), (3, (AO.var 65 [(AV.lit (.int .i64 (c.at'))), (AV.sl 1 (is .i64 (c.regs)))])), (2, (AO.var 24 [(AV.lit (.int .i64 (m.regs))), (AV.sl 4 (gcells cI (m.code)))]))] Gd.none Yt_tZ65 rfl rfl rfl rfl rfl rfl ?_
          refine o_as (bp (decB m (numS n).toNat)) rfl ?_
          refine aops_end ⟨by kernel_rfl, ?_⟩
          refine hK30 _ ?_
          refine awp_seq fun K31 hK31 => ?_
          refine awp_seq fun K32 hK32 => ?_
          refine awp_region rfl ?_
          refine o_mv (bp (decB m (numS n).toNat)) rfl ?_
          refine o_notP (q := decB m (numS n).toNat) Gd.none rfl ?_
          refine aops_end ?_
          refine hK32 _ ?_
          refine awp_condQ (q := ¬ (decB m (numS n).toNat)) rfl (fun h9 => ?_) (fun h9 => ?_)
          · refine awp_seq fun K33 hK33 => ?_
            refine awp_region rfl ?_
            refine o_mv (nm .i64 (decE m (n))) rfl ?_
            refine n_eql (decE m (n)) (4) Gd.none rfl rfl ?_
            refine n_as (v' := (AV.lit (.bool true))) (by exact bpy (by rw [hd.1, if_neg (by assumption)])) ?_
            refine o_mv (AV.lit (.bool true)) rfl ?_
            refine o_loadA [(AV.lit (.int .i64 ((decV m (n)).at'))), (AV.sl 1 (is .i64 ((decV m (n)).regs)))] (Gd.yes rfl rfl rfl) Yt_tA65 rfl rfl rfl rfl rfl ?_
            refine n_as (v' := (cfgV zC)) (by exact congrArg cfgV (hd.2.trans (decC_no (by assumption)))) ?_
            refine o_build [(nm .i64 (0)), (AV.lit (.slice none 0 0))] [] (Gd.yes rfl rfl rfl) Yt_tP65 Yt_tO65 rfl rfl rfl ?_
            refine o_callG [] [(cfgV zC), (AV.agg [(nm .i64 (0)), (AV.lit (.slice none 0 0))])] _ (AV.lit (.bool true)) [(7, (AO.var 65 [(AV.lit (.int .i64 ((decC m (numS n).toNat).at'))), (AV.sl 1 (is .i64 ((decC m (numS n).toNat).regs)))])), (6, (AO.var 65 [(AV.lit (.int .i64 ((decV m (n)).at'))), (AV.sl 1 (is .i64 ((decV m (n)).regs)))])), (5, (AO.var 65 [(AV.lit (.int .i64 (c.at'))), (AV.sl 1 (is .i64 (c.regs)))])), (4, (AO.var 24 [(AV.lit (.int .i64 (m.regs))), (AV.sl 4 (gcells cI (m.code)))])), (3, (AO.var 65 [(AV.lit (.int .i64 (c.at'))), (AV.sl 1 (is .i64 (c.regs)))])), (2, (AO.var 24 [(AV.lit (.int .i64 (m.regs))), (AV.sl 4 (gcells cI (m.code)))]))] (Gd.yes rfl rfl rfl) Yt_tC39 rfl (trivial) rfl rfl (LeL.cons (AV.le_refl _) (LeL.cons (AV.le_agg (LeL.cons (AV.le_refl _) (LeL.cons (AV.le_nil' (by decide) rfl) (LeL.nil)))) (LeL.nil))) (c_vSameCfg zC (by first | assumption | omega | decide)) rfl ?_
            refine o_pickT (AV.lit (.bool true)) Gd.none rfl rfl rfl ?_
            refine o_mv (AV.lit (.bool true)) rfl ?_
            refine o_ct c_awake10 (Gd.yes rfl rfl rfl) Yt_tC16 rfl ?_
            refine o_pickT (AV.lit (.bool true)) Gd.none rfl rfl rfl ?_
            refine o_as (AV.lit (.bool true)) rfl ?_
            refine aops_end ?_
            refine hK33 _ ?_
            refine awp_ret ?_
            refine post_ret ⟨[(AV.lit (.bool true))], And.intro (AV.le_refl _) (trivial), rfl, ?_⟩
            first | rfl | simp [bp]
          · refine awp_skip ?_
            refine hK31 _ ?_
            refine awp_seq fun K34 hK34 => ?_
            refine awp_region rfl ?_
            refine o_mv (nm .i64 (decE m (n))) rfl ?_
            refine n_eql (decE m (n)) (0) Gd.none rfl rfl ?_
            refine n_as (v' := (AV.lit (.bool true))) (by exact bpy (by rw [hd.1, if_pos (Decidable.not_not.1 (by assumption))])) ?_
            refine o_mv (AV.lit (.bool true)) rfl ?_
            refine o_loadA [(AV.lit (.int .i64 ((decV m (n)).at'))), (AV.sl 1 (is .i64 ((decV m (n)).regs)))] (Gd.yes rfl rfl rfl) Yt_tA65 rfl rfl rfl rfl rfl ?_
            refine n_as (v' := (cfgV (decC m (numS n).toNat))) (by exact congrArg cfgV hd.2) ?_
            refine o_loadA [(AV.lit (.int .i64 ((decC m (numS n).toNat).at'))), (AV.sl 1 (is .i64 ((decC m (numS n).toNat).regs)))] (Gd.yes rfl rfl rfl) Yt_tA65 rfl rfl rfl rfl rfl ?_
            refine o_ct (c_vSameCfg (decC m (numS n).toNat) (by first | assumption | omega | decide)) (Gd.yes rfl rfl rfl) Yt_tC39 rfl ?_
            refine o_pickT (AV.lit (.bool true)) Gd.none rfl rfl rfl ?_
            refine o_mv (AV.lit (.bool true)) rfl ?_
            refine o_ct c_awake10 (Gd.yes rfl rfl rfl) Yt_tC16 rfl ?_
            refine o_pickT (AV.lit (.bool true)) Gd.none rfl rfl rfl ?_
            refine o_as (AV.lit (.bool true)) rfl ?_
            refine aops_end ?_
            refine hK34 _ ?_
            refine awp_ret ?_
            refine post_ret ⟨[(AV.lit (.bool true))], And.intro (AV.le_refl _) (trivial), rfl, ?_⟩
            first | rfl | simp [bp]

end Go.Proofs.YtnejjdcbbminaaaGreatDoor

set_option linter.unusedVariables false
namespace Go.Proofs.YtnejjdcbbminaaaGreatDoor.fractionCodes
open Go Go.Ab Go.Mth Go.ChangeShapes Go.WideShapes Go.ChangeAt Go.RowKit
theorem reads (os : Os) {H : Type} (enc : TypeId × Value → H) : ∃ places, DataW.whole enc Tryz.prog ((World.laidAll Tryz.prog os laid5).forCall (fun _ _ => 0) ⟨#[], #[.agg #[.int .i64 0, .slice none 0 0], .agg #[.int .i64 0, .slice none 0 0], .string ByteArray.empty], []⟩).memory Tryz.f8.params.toList Rows.fractionCodesSpec.vars false (#[.agg #[.int .i64 0, .slice none 0 0], .agg #[.int .i64 0, .slice none 0 0], .string ByteArray.empty] : Array Value).toList 8 = some ([.agg [.lit (.int .i64 0), .nil], .agg [.lit (.int .i64 0), .nil], .lit (.string [])], [], places) := ⟨[], by kernel_rfl⟩
theorem met (os : Os) : laidMetH Tryz.prog laid5 ((World.laidAll Tryz.prog os laid5).forCall (fun _ _ => 0) ⟨#[], #[.agg #[.int .i64 0, .slice none 0 0], .agg #[.int .i64 0, .slice none 0 0], .string ByteArray.empty], []⟩).memory := (MakeChecks.laidMetH_plain _ _ _ (by kernel_rfl)).mpr (laidMet_laidAll _ (by kernel_rfl) (by kernel_rfl))
theorem specs {H : Type} (ds : List (DataW H)) (h : ds.length = 3) : (Rows.fractionCodesSpec.fn H ds).results = [.lit (.bool true)] ∧ (Rows.fractionCodesSpec.fn H ds).args = ds ∧ (Rows.fractionCodesSpec.fn H ds).vars = [] := by
  rcases ds with _ | ⟨d0, _ | ⟨d1, _ | ⟨d2, _ | ⟨e, t⟩⟩⟩⟩ <;> simp at h <;> exact ⟨rfl, rfl, rfl⟩
set_option maxRecDepth 100000 in
theorem opened {H : Type} (enc : TypeId × Value → H) (W : World) (base : Nat) (args : Array Value) (ds : List (DataW H)) (ps : List MemPlace) (hval : ∀ (j : Nat) t v, (#[24, 65, 9] : Array TypeId)[j]? = some t → args[j]? = some v → Value.okWide Tryz.prog W .any base t v)
    (hA : DataW.TrodAll enc Tryz.prog W 0 (fun _ => true) true [24, 65, 9] args.toList ds ps) (hsz : (DataW.weightsEach Tryz.prog [24, 65, 9] ds).all (· ≤ reachBytes) = true) : ∃ xs, RepL (memOf W) xs noLoc args.toList ∧ ECalls cx 8 xs (.lit (.bool true)) := by
  obtain ⟨v0, vs0, d0, ds0, p0, q0, hargs, rfl, rfl, h0, r0⟩ := trodAll_cons hA
  obtain ⟨v1, vs1, d1, ds1, p1, q1, rfl, rfl, rfl, h1, r1⟩ := trodAll_cons r0
  obtain ⟨v2, vs2, d2, ds2, p2, q2, rfl, rfl, rfl, h2, r2⟩ := trodAll_cons r1
  obtain ⟨rfl, rfl, rfl⟩ := trodAll_nil r2
  obtain rfl : args = #[v0, v1, v2] := by cases args; simp_all
  obtain ⟨m0, e0, bq0⟩ := rep_mac (hval 0 24 v0 rfl rfl) h0 (fun n hn => by simpa using List.all_eq_true.1 hsz n (DataW.weights_mem_each (j := 0) rfl rfl n hn))
  obtain ⟨c1, e1, bq1⟩ := rep_cfg (hval 1 65 v1 rfl rfl) h1 (fun n hn => by simpa using List.all_eq_true.1 hsz n (DataW.weights_mem_each (j := 1) rfl rfl n hn))
  obtain ⟨a2, e2, b2⟩ := rep_str (hval 2 9 v2 rfl rfl) h2
  exact ⟨[macV m0, cfgV c1, .lit (.string a2)], RepL.cons e0 (RepL.cons e1 (RepL.cons e2 (by simp only [RepL]))), c_FractionCodes m0 c1 a2 bq0 bq1 b2⟩
set_option maxRecDepth 100000 in
theorem lifted (os : Os) (started : os.Started) (H : Type) (enc : TypeId × Value → H) (F : Stop.Interp) :
    ReturnsInHanded {} Tryz.checked os 8 .any ((OpenSpec.ofChange Rows.fractionCodesSpec).preRow enc Tryz.prog Tryz.f8 Rows.fractionCodesRow.domain false Rows.fractionCodesRow.laid) (((OpenSpec.ofChange Rows.fractionCodesSpec).at F).post enc Tryz.prog Tryz.f8 false true false false) := by
  obtain ⟨places, hx⟩ := reads os enc
  refine lifted_of (C := Tryz.checked) started cx rfl ownT (by kernel_rfl) Tryz.func8 (witness_laid #[.agg #[.int .i64 0, .slice none 0 0], .agg #[.int .i64 0, .slice none 0 0], .string ByteArray.empty] (by kernel_rfl) (by kernel_rfl) (by kernel_rfl) (OpenSpec.preRow_of_cond 8 hx (by kernel_rfl) (fun k hk => by cases hk) (by kernel_rfl) (met os))) laidOutT (by kernel_rfl) (tb := 4) (by kernel_rfl) u4T rfl (fun ds h => specs ds (h.trans (by kernel_rfl))) (fun W h => tabG_of h) ?_
  intro W base args ds ps hval hA hsz
  exact opened enc W base args ds ps hval hA hsz
theorem said : Rows.FractionCodesSaid :=
  OpenClaim.holds_of_cond 8 Tryz.f8 rfl rfl rfl rfl rfl rfl rfl ⟨rfl, rfl, rfl, rfl, rfl⟩ rfl rfl rfl rfl rfl (by kernel_rfl) Tryz.func8 (by kernel_rfl)
    (of_decide_eq_true (by kernel_rfl)) (by unfold Func.isWrapper; first | (rw [if_pos (by decide +kernel)]; kernel_rfl) | (rw [if_neg (by decide +kernel)]; exact ⟨rfl, rfl⟩))
    (fun os started H enc _ F => by rw [OpenClaim.pre_eq_preRow]; exact lifted os started H enc F)
theorem plain (f : FuncId) (fn : Func) (hf : Tryz.pinned.checked.prog.funcNamed "katabasis/katabasislaw10.FractionCodes" = some f) (hfn : Tryz.pinned.checked.prog.funcs[f]? = some fn) :
    true = Tryz.pinned.checked.prog.looks [] ∧ ∀ (j : Nat) t, fn.params[j]? = some t → Tryz.pinned.checked.prog.wantsStandIn t = false := by
  obtain rfl : f = 8 := Option.some.inj ((show Tryz.prog.funcNamed "katabasis/katabasislaw10.FractionCodes" = some 8 by kernel_rfl).symm.trans hf) |>.symm
  obtain rfl : fn = Tryz.f8 := (Option.some.inj (Tryz.func8.symm.trans hfn)).symm
  refine ⟨by kernel_rfl, fun j t ht => ?_⟩
  rw [Tryz.params8] at ht
  have : t = 24 ∨ t = 65 ∨ t = 9 := by have h := Array.mem_of_getElem? ht; simp at h; first | exact h | (rcases h with h | h | h | h <;> simp [h]) | (rcases h with h | h | h <;> simp [h]) | (rcases h with h | h <;> simp [h])
  rcases this with rfl | rfl | rfl
  · exact (show Tryz.prog.wantsStandIn 24 = false by kernel_rfl)
  · exact (show Tryz.prog.wantsStandIn 65 = false by kernel_rfl)
  · exact (show Tryz.prog.wantsStandIn 9 = false by kernel_rfl)
end Go.Proofs.YtnejjdcbbminaaaGreatDoor.fractionCodes
namespace Go.Proofs.YtnejjdcbbminaaaGreatDoor
open Go
theorem fractionCodes_holds : Rows.FractionCodesCardSaid :=
  Claim7.holds_tied_plain_at .later [] _ _ _ _ fractionCodes.said (fun _ h => by cases h) (by kernel_rfl) (fun _ h => by cases h) fractionCodes_row_tie rfl ⟨rfl, rfl⟩ (by kernel_rfl) rfl fractionCodes.plain (by kernel_rfl)
#print axioms fractionCodes_holds
end Go.Proofs.YtnejjdcbbminaaaGreatDoor

