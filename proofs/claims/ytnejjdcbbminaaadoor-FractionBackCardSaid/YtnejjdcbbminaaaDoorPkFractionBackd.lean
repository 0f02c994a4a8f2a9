/- What the proof of a row of this seat leans on (part 4 of 5): a library of abstract values, walks of functions, and plain laws. -/
import Derived.Test.YtnejjdcbbminaaaDoorPkFractionBackc
set_option linter.unusedVariables false
set_option linter.unusedSimpArgs false
namespace Go.Proofs.YtnejjdcbbminaaaDoor
open Go Go.Ab Go.Mth
theorem Ya_tF24_1 : tyField cx.P 24 1 = some (1, 22) := by kernel_rfl
theorem Ya_tS22 : tySc cx.P 22 = true := by kernel_rfl
theorem Ya_tU22 : cx.P.underlying 22 = some (.slice 50) := by kernel_rfl
theorem Ya_tF50_1 : tyField cx.P 50 1 = some (1, 3) := by kernel_rfl
theorem Ya_tS3 : tySc cx.P 3 = true := by kernel_rfl
theorem Ya_tF24_0 : tyField cx.P 24 0 = some (0, 3) := by kernel_rfl
theorem Ya_tA24 : tyAgg cx.P 24 = some 2 := by kernel_rfl
theorem Ya_tF50_2 : tyField cx.P 50 2 = some (2, 3) := by kernel_rfl
theorem Ya_tC28 : callable cx.P 28 = true := by kernel_rfl
theorem Ya_tF50_0 : tyField cx.P 50 0 = some (0, 3) := by kernel_rfl
theorem Ya_tF50_3 : tyField cx.P 50 3 = some (3, 3) := by kernel_rfl
theorem Ya_tA50 : tyAgg cx.P 50 = some 4 := by kernel_rfl
theorem Ya_tC48 : callable cx.P 48 = true := by kernel_rfl
theorem Ya_tE22 : tyElem cx.P 22 = some (50, 4, 32) := by kernel_rfl
theorem Ya_tC47 : callable cx.P 47 = true := by kernel_rfl
theorem Ya_tC59 : callable cx.P 59 = true := by kernel_rfl
theorem Ya_tC46 : callable cx.P 46 = true := by kernel_rfl
theorem Ya_tU25 : cx.P.underlying 25 = some (.slice 3) := by kernel_rfl
theorem Ya_tE25 : tyElem cx.P 25 = some (3, 1, 8) := by kernel_rfl
theorem Ya_tC30 : callable cx.P 30 = true := by kernel_rfl
theorem Ya_tC51 : callable cx.P 51 = true := by kernel_rfl
theorem Ya_tC25 : callable cx.P 25 = true := by kernel_rfl
theorem Ya_tF27_0 : tyField cx.P 27 0 = some (0, 3) := by kernel_rfl
theorem Ya_tF27_1 : tyField cx.P 27 1 = some (1, 25) := by kernel_rfl
theorem Ya_tS25 : tySc cx.P 25 = true := by kernel_rfl
theorem Ya_tC29 : callable cx.P 29 = true := by kernel_rfl
theorem Ya_tC43 : callable cx.P 43 = true := by kernel_rfl
theorem c_place (m : Mac) (z : Int) : ECalls cx 28 [(macV m), (AV.lit (.int .i64 (z)))] (bp (plc m z)) := by
  refine ecalls_of_awp Tryd.func28 (c := _) rfl (Nat.le_of_ble_eq_true rfl) ?_
  show awp cx 14 _ (postF cx Tryd.f28 _) ⟨[(0, (macV m)), (1, (AV.lit (.int .i64 (z))))], []⟩
  refine awp_seq fun K0 hK0 => ?_
  refine awp_region rfl ?_
  refine o_box 2 [(AV.lit (.int .i64 (m.regs))), (AV.sl 4 (gcells cI (m.code)))] Gd.none rfl rfl ?_
  refine o_as (AV.lit (.bool false)) rfl ?_
  refine aops_end ?_
  refine hK0 _ ?_
  refine awp_seq fun K1 hK1 => ?_
  refine awp_region rfl ?_
  refine o_mv (AV.lit (.int .i64 (z))) rfl ?_
  refine o_geq (a := (z)) (c := (((0 : Nat) : Int))) Gd.none rfl rfl ?_
  refine o_mv (bp ((((0 : Nat) : Int)) ≤ (z))) rfl ?_
  refine o_splitP (q := (((0 : Nat) : Int)) ≤ (z)) 7 rfl (fun h1 => ?_) (fun h1 => ?_)
  · refine o_move (AV.lit (.int .i64 (z))) (Gd.yes rfl rfl (decide_eq_true h1)) rfl ?_
    refine o_fieldRef 1 (Gd.yes rfl rfl (decide_eq_true h1)) Ya_tF24_1 rfl rfl ?_
    refine o_loadS (AV.sl 4 (gcells cI (m.code))) (Gd.yes rfl rfl (decide_eq_true h1)) Ya_tS22 rfl rfl rfl ?_
    refine g_len cI (m.code) cI_len (Gd.yes rfl rfl (decide_eq_true h1)) Ya_tU22 rfl ?_
    refine o_leq (a := (z)) (c := ((((m.code).length : Nat) : Int))) (Gd.yes rfl rfl (decide_eq_true h1)) rfl rfl ?_
    refine o_pickT (bp ((z) ≤ ((((m.code).length : Nat) : Int)))) Gd.none rfl (decide_eq_true h1) rfl ?_
    refine o_as (bp ((z) ≤ ((((m.code).length : Nat) : Int)))) rfl ?_
    refine aops_end ?_
    refine hK1 _ ?_
    refine awp_ret ?_
    refine post_ret ⟨[(bp ((z) ≤ ((((m.code).length : Nat) : Int))))], And.intro (AV.le_refl _) (trivial), rfl, ?_⟩
    first | rfl | exact bpc (by simp only [insP, plc, regP] at *; omega) | exact bpn (by simp only [insP, plc, regP] at *; omega) | exact bpy (by simp only [insP, plc, regP] at *; omega)
  · refine o_skip rfl rfl (decide_eq_false h1) ?_
    refine o_skip rfl rfl (decide_eq_false h1) ?_
    refine o_skip rfl rfl (decide_eq_false h1) ?_
    refine o_skip rfl rfl (decide_eq_false h1) ?_
    refine o_skip rfl rfl (decide_eq_false h1) ?_
    refine o_pickF (AV.lit (.bool false)) Gd.none rfl (decide_eq_false h1) rfl ?_
    refine o_as (AV.lit (.bool false)) rfl ?_
    refine aops_end ?_
    refine hK1 _ ?_
    refine awp_ret ?_
    refine post_ret ⟨[(AV.lit (.bool false))], And.intro (AV.le_refl _) (trivial), rfl, ?_⟩
    first | rfl | exact bpc (by simp only [insP, plc, regP] at *; omega) | exact bpn (by simp only [insP, plc, regP] at *; omega) | exact bpy (by simp only [insP, plc, regP] at *; omega)

theorem c_instr (m : Mac) (x : Ins) : ECalls cx 48 [(macV m), (AV.agg [(AV.lit (.int .i64 ((x).kind))), (AV.lit (.int .i64 ((x).reg))), (AV.lit (.int .i64 ((x).next))), (AV.lit (.int .i64 ((x).els)))])] (bp (insP m x)) := by
  refine ecalls_of_awp Tryd.func48 (c := _) rfl (Nat.le_of_ble_eq_true rfl) ?_
  show awp cx 39 _ (postF cx Tryd.f48 _) ⟨[(0, (macV m)), (1, (AV.agg [(AV.lit (.int .i64 ((x).kind))), (AV.lit (.int .i64 ((x).reg))), (AV.lit (.int .i64 ((x).next))), (AV.lit (.int .i64 ((x).els)))]))], []⟩
  refine awp_seq fun K0 hK0 => ?_
  refine awp_region rfl ?_
  refine o_box 2 [(AV.lit (.int .i64 (m.regs))), (AV.sl 4 (gcells cI (m.code)))] Gd.none rfl rfl ?_
  refine o_box 3 [(AV.lit (.int .i64 ((x).kind))), (AV.lit (.int .i64 ((x).reg))), (AV.lit (.int .i64 ((x).next))), (AV.lit (.int .i64 ((x).els)))] Gd.none rfl rfl ?_
  refine o_as (AV.lit (.bool false)) rfl ?_
  refine aops_end ?_
  refine hK0 _ ?_
  refine awp_seq fun K1 hK1 => ?_
  refine awp_block ?_
  refine awp_seq fun K2 hK2 => ?_
  refine awp_region rfl ?_
  refine o_fieldRef 1 Gd.none Ya_tF50_1 rfl rfl ?_
  refine o_loadS (AV.lit (.int .i64 ((x).reg))) Gd.none Ya_tS3 rfl rfl rfl ?_
  refine o_lss (a := ((x).reg)) (c := (((0 : Nat) : Int))) Gd.none rfl rfl ?_
  refine o_mv (bp (((x).reg) < (((0 : Nat) : Int)))) rfl ?_
  refine o_splitP (q := ((x).reg) < (((0 : Nat) : Int))) 9 rfl (fun h1 => ?_) (fun h1 => ?_)
  · refine o_skip rfl rfl (decide_eq_true h1) ?_
    refine o_skip rfl rfl (decide_eq_true h1) ?_
    refine o_skip rfl rfl (decide_eq_true h1) ?_
    refine o_skip rfl rfl (decide_eq_true h1) ?_
    refine o_skip rfl rfl (decide_eq_true h1) ?_
    refine o_pickT (AV.lit (.bool true)) Gd.none rfl (decide_eq_true h1) rfl ?_
    refine o_mv (AV.lit (.bool true)) rfl ?_
    refine o_skip rfl rfl rfl ?_
    refine o_skip rfl rfl rfl ?_
    refine o_skip rfl rfl rfl ?_
    refine o_skip rfl rfl rfl ?_
    refine o_skip rfl rfl rfl ?_
    refine o_pickT (AV.lit (.bool true)) Gd.none rfl rfl rfl ?_
    refine o_as (AV.lit (.bool true)) rfl ?_
    refine aops_end ?_
    refine hK2 _ ?_
    refine awp_condB (b := true) rfl (fun _ => ?_) (fun hh => absurd (hh.symm.trans rfl) (by decide))
    refine awp_seq fun K3 hK3 => ?_
    refine awp_region rfl ?_
    refine o_as (AV.lit (.bool false)) rfl ?_
    refine aops_end ?_
    refine hK3 _ ?_
    refine awp_ret ?_
    refine post_ret ⟨[(AV.lit (.bool false))], And.intro (AV.le_refl _) (trivial), rfl, ?_⟩
    first | rfl | exact bpc (by simp only [insP, plc, regP] at *; omega) | exact bpn (by simp only [insP, plc, regP] at *; omega) | exact bpy (by simp only [insP, plc, regP] at *; omega)
  · refine o_fieldRef 1 (Gd.yes rfl rfl (decide_eq_false h1)) Ya_tF50_1 rfl rfl ?_
    refine o_loadS (AV.lit (.int .i64 ((x).reg))) (Gd.yes rfl rfl (decide_eq_false h1)) Ya_tS3 rfl rfl rfl ?_
    refine o_fieldRef 0 (Gd.yes rfl rfl (decide_eq_false h1)) Ya_tF24_0 rfl rfl ?_
    refine o_loadS (AV.lit (.int .i64 (m.regs))) (Gd.yes rfl rfl (decide_eq_false h1)) Ya_tS3 rfl rfl rfl ?_
    refine o_geq (a := ((x).reg)) (c := (m.regs)) (Gd.yes rfl rfl (decide_eq_false h1)) rfl rfl ?_
    refine o_pickF (bp ((m.regs) ≤ ((x).reg))) Gd.none rfl (decide_eq_false h1) rfl ?_
    refine o_mv (bp ((m.regs) ≤ ((x).reg))) rfl ?_
    refine o_splitP (q := (m.regs) ≤ ((x).reg)) 16 rfl (fun h2 => ?_) (fun h2 => ?_)
    · refine o_skip rfl rfl (decide_eq_true h2) ?_
      refine o_skip rfl rfl (decide_eq_true h2) ?_
      refine o_skip rfl rfl (decide_eq_true h2) ?_
      refine o_skip rfl rfl (decide_eq_true h2) ?_
      refine o_skip rfl rfl (decide_eq_true h2) ?_
      refine o_pickT (AV.lit (.bool true)) Gd.none rfl (decide_eq_true h2) rfl ?_
      refine o_as (AV.lit (.bool true)) rfl ?_
      refine aops_end ?_
      refine hK2 _ ?_
      refine awp_condB (b := true) rfl (fun _ => ?_) (fun hh => absurd (hh.symm.trans rfl) (by decide))
      refine awp_seq fun K4 hK4 => ?_
      refine awp_region rfl ?_
      refine o_as (AV.lit (.bool false)) rfl ?_
      refine aops_end ?_
      refine hK4 _ ?_
      refine awp_ret ?_
      refine post_ret ⟨[(AV.lit (.bool false))], And.intro (AV.le_refl _) (trivial), rfl, ?_⟩
      first | rfl | exact bpc (by simp only [insP, plc, regP] at *; omega) | exact bpn (by simp only [insP, plc, regP] at *; omega) | exact bpy (by simp only [insP, plc, regP] at *; omega)
    · refine o_loadA [(AV.lit (.int .i64 (m.regs))), (AV.sl 4 (gcells cI (m.code)))] (Gd.yes rfl rfl (decide_eq_false h2)) Ya_tA24 rfl rfl rfl rfl rfl ?_
      refine o_fieldRef 2 (Gd.yes rfl rfl (decide_eq_false h2)) Ya_tF50_2 rfl rfl ?_
      refine o_loadS (AV.lit (.int .i64 ((x).next))) (Gd.yes rfl rfl (decide_eq_false h2)) Ya_tS3 rfl rfl rfl ?_
      refine o_ct (c_place m ((x).next)) (Gd.yes rfl rfl (decide_eq_false h2)) Ya_tC28 rfl ?_
      refine o_notP (q := plc m ((x).next)) (Gd.yes rfl rfl (decide_eq_false h2)) rfl ?_
      refine o_pickF (bp (¬ (plc m ((x).next)))) Gd.none rfl (decide_eq_false h2) rfl ?_
      refine o_as (bp (¬ (plc m ((x).next)))) rfl ?_
      refine aops_end ?_
      refine hK2 _ ?_
      refine awp_condQ (q := ¬ (plc m ((x).next))) rfl (fun h3 => ?_) (fun h3 => ?_)
      · refine awp_seq fun K5 hK5 => ?_
        refine awp_region rfl ?_
        refine o_as (AV.lit (.bool false)) rfl ?_
        refine aops_end ?_
        refine hK5 _ ?_
        refine awp_ret ?_
        refine post_ret ⟨[(AV.lit (.bool false))], And.intro (AV.le_refl _) (trivial), rfl, ?_⟩
        first | rfl | exact bpc (by simp only [insP, plc, regP] at *; omega) | exact bpn (by simp only [insP, plc, regP] at *; omega) | exact bpy (by simp only [insP, plc, regP] at *; omega)
      · refine awp_seq fun K6 hK6 => ?_
        refine awp_region rfl ?_
        refine o_fieldRef 0 Gd.none Ya_tF50_0 rfl rfl ?_
        refine o_loadS (AV.lit (.int .i64 ((x).kind))) Gd.none Ya_tS3 rfl rfl rfl ?_
        refine o_eql (a := ((x).kind)) (c := (((0 : Nat) : Int))) Gd.none rfl rfl ?_
        refine o_as (bp (((x).kind) = (((0 : Nat) : Int)))) rfl ?_
        refine aops_end ?_
        refine hK6 _ ?_
        refine awp_condQ (q := ((x).kind) = (((0 : Nat) : Int))) rfl (fun h4 => ?_) (fun h4 => ?_)
        · refine awp_seq fun K7 hK7 => ?_
          refine awp_region rfl ?_
          refine o_fieldRef 3 Gd.none Ya_tF50_3 rfl rfl ?_
          refine o_loadS (AV.lit (.int .i64 ((x).els))) Gd.none Ya_tS3 rfl rfl rfl ?_
          refine o_eql (a := ((x).els)) (c := (((0 : Nat) : Int))) Gd.none rfl rfl ?_
          refine o_as (bp (((x).els) = (((0 : Nat) : Int)))) rfl ?_
          refine aops_end ?_
          refine hK7 _ ?_
          refine awp_ret ?_
          refine post_ret ⟨[(bp (((x).els) = (((0 : Nat) : Int))))], And.intro (AV.le_refl _) (trivial), rfl, ?_⟩
          first | rfl | exact bpc (by simp only [insP, plc, regP] at *; omega) | exact bpn (by simp only [insP, plc, regP] at *; omega) | exact bpy (by simp only [insP, plc, regP] at *; omega)
        · refine awp_skip ?_
          refine hK1 _ ?_
          refine awp_seq fun K8 hK8 => ?_
          refine awp_region rfl ?_
          refine o_fieldRef 0 Gd.none Ya_tF50_0 rfl rfl ?_
          refine o_loadS (AV.lit (.int .i64 ((x).kind))) Gd.none Ya_tS3 rfl rfl rfl ?_
          refine o_eql (a := ((x).kind)) (c := (((1 : Nat) : Int))) Gd.none rfl rfl ?_
          refine o_mv (bp (((x).kind) = (((1 : Nat) : Int)))) rfl ?_
          refine o_splitP (q := ((x).kind) = (((1 : Nat) : Int))) 33 rfl (fun h5 => ?_) (fun h5 => ?_)
          · refine o_loadA [(AV.lit (.int .i64 (m.regs))), (AV.sl 4 (gcells cI (m.code)))] (Gd.yes rfl rfl (decide_eq_true h5)) Ya_tA24 rfl rfl rfl rfl rfl ?_
            refine o_fieldRef 3 (Gd.yes rfl rfl (decide_eq_true h5)) Ya_tF50_3 rfl rfl ?_
            refine o_loadS (AV.lit (.int .i64 ((x).els))) (Gd.yes rfl rfl (decide_eq_true h5)) Ya_tS3 rfl rfl rfl ?_
            refine o_ct (c_place m ((x).els)) (Gd.yes rfl rfl (decide_eq_true h5)) Ya_tC28 rfl ?_
            refine o_pickT (bp (plc m ((x).els))) Gd.none rfl (decide_eq_true h5) rfl ?_
            refine o_as (bp (plc m ((x).els))) rfl ?_
            refine aops_end ?_
            refine hK8 _ ?_
            refine awp_ret ?_
            refine post_ret ⟨[(bp (plc m ((x).els)))], And.intro (AV.le_refl _) (trivial), rfl, ?_⟩
            first | rfl | exact bpc (by simp only [insP, plc, regP] at *; omega) | exact bpn (by simp only [insP, plc, regP] at *; omega) | exact bpy (by simp only [insP, plc, regP] at *; omega)
          · refine o_skip rfl rfl (decide_eq_false h5) ?_
            refine o_skip rfl rfl (decide_eq_false h5) ?_
            refine o_skip rfl rfl (decide_eq_false h5) ?_
            refine o_skip rfl rfl (decide_eq_false h5) ?_
            refine o_pickF (AV.lit (.bool false)) Gd.none rfl (decide_eq_false h5) rfl ?_
            refine o_as (AV.lit (.bool false)) rfl ?_
            refine aops_end ?_
            refine hK8 _ ?_
            refine awp_ret ?_
            refine post_ret ⟨[(AV.lit (.bool false))], And.intro (AV.le_refl _) (trivial), rfl, ?_⟩
            first | rfl | exact bpc (by simp only [insP, plc, regP] at *; omega) | exact bpn (by simp only [insP, plc, regP] at *; omega) | exact bpy (by simp only [insP, plc, regP] at *; omega)

theorem c_Valid1 (m : Mac) (x : Ins) : ECalls cx 47 [(AV.agg [(AV.lit (.int .i64 ((x).kind))), (AV.lit (.int .i64 ((x).reg))), (AV.lit (.int .i64 ((x).next))), (AV.lit (.int .i64 ((x).els)))]), (AV.ip [(AV.lit (.int .i64 (m.regs))), (AV.sl 4 (gcells cI (m.code)))])] (bp (¬ insP m x)) := by
  refine ecalls_of_awp Tryd.func47 (c := _) rfl (Nat.le_of_ble_eq_true rfl) ?_
  show awp cx 8 _ (postF cx Tryd.f47 _) ⟨[(0, (AV.agg [(AV.lit (.int .i64 ((x).kind))), (AV.lit (.int .i64 ((x).reg))), (AV.lit (.int .i64 ((x).next))), (AV.lit (.int .i64 ((x).els)))])), (1, (AV.ip [(AV.lit (.int .i64 (m.regs))), (AV.sl 4 (gcells cI (m.code)))]))], []⟩
  refine awp_seq fun K0 hK0 => ?_
  refine awp_region rfl ?_
  refine o_box 2 [(AV.lit (.int .i64 ((x).kind))), (AV.lit (.int .i64 ((x).reg))), (AV.lit (.int .i64 ((x).next))), (AV.lit (.int .i64 ((x).els)))] Gd.none rfl rfl ?_
  refine o_as (AV.lit (.bool false)) rfl ?_
  refine aops_end ?_
  refine hK0 _ ?_
  refine awp_seq fun K1 hK1 => ?_
  refine awp_region rfl ?_
  refine o_loadIA [(AV.lit (.int .i64 (m.regs))), (AV.sl 4 (gcells cI (m.code)))] Gd.none Ya_tA24 rfl (Nat.le_of_ble_eq_true rfl) rfl ?_
  refine o_loadA [(AV.lit (.int .i64 ((x).kind))), (AV.lit (.int .i64 ((x).reg))), (AV.lit (.int .i64 ((x).next))), (AV.lit (.int .i64 ((x).els)))] Gd.none Ya_tA50 rfl rfl rfl rfl rfl ?_
  refine o_ct (c_instr m (x)) Gd.none Ya_tC48 rfl ?_
  refine o_notP (q := insP m (x)) Gd.none rfl ?_
  refine o_as (bp (¬ (insP m (x)))) rfl ?_
  refine aops_end ?_
  refine hK1 _ ?_
  refine awp_ret ?_
  refine post_ret ⟨[(bp (¬ (insP m (x))))], And.intro (AV.le_refl _) (trivial), rfl, ?_⟩
  rfl

theorem c_ixIns (m : Mac) (hl : m.code.length ≤ 12) : ECalls cx 59 [(AV.sl 4 (gcells cI (m.code))), (AV.clo 47 [(AV.ip [(AV.lit (.int .i64 (m.regs))), (AV.sl 4 (gcells cI (m.code)))])])] (.lit (.int .i64 (ixP (fun x => ¬ insP m x) m.code))) := by
  refine ecalls_of_awp Tryd.func59 (c := _) rfl (Nat.le_of_ble_eq_true rfl) ?_
  show awp cx 19 _ (postF cx Tryd.f59 _) ⟨[(0, (AV.sl 4 (gcells cI (m.code)))), (1, (AV.clo 47 [(AV.ip [(AV.lit (.int .i64 (m.regs))), (AV.sl 4 (gcells cI (m.code)))])]))], []⟩
  refine awp_seq fun K0 hK0 => ?_
  refine awp_region rfl ?_
  refine o_as (nm .i64 (0)) rfl ?_
  refine aops_end ?_
  refine hK0 _ ?_
  refine awp_seq fun K1 hK1 => ?_
  refine awp_seq fun K2 hK2 => ?_
  refine awp_region rfl ?_
  refine o_mv (AV.sl 4 (gcells cI (m.code))) rfl ?_
  refine g_len cI (m.code) cI_len Gd.none Ya_tU22 rfl ?_
  refine o_mv (nm .i64 (0)) rfl ?_
  refine aops_end ?_
  refine hK2 _ ?_
  refine awp_block ?_
  refine awp_loopR (fun κ σ => ∃ (i : Nat), (i ≤ m.code.length) ∧ (∀ k, k < i → ¬ ((fun x => ¬ insP m x) ((m.code).getD k default))) ∧ (m.code.length - i) = κ ∧ σ = ⟨[(0, (AV.sl 4 (gcells cI (m.code)))), (1, (AV.clo 47 [(AV.ip [(AV.lit (.int .i64 (m.regs))), (AV.sl 4 (gcells cI (m.code)))])])), (7, (nm .i64 (m.code.length))), (8, (nm .i64 (i)))], []⟩) ⟨_, _, ⟨0, (by omega), (fun k hk => by omega), rfl, rfl⟩, ?wk0⟩ ?rd0
  case wk0 =>
    exact Wk.sub (And.intro rfl (And.intro rfl (And.intro (by first | rfl | exact congrArg (nm _) (by omega) | exact nm_int (by omega) | exact nm_int (by simp [IntKind.wrap, IntKind.bits, IntKind.signed]; omega)) (And.intro (by first | rfl | exact congrArg (nm _) (by omega) | exact nm_int (by omega) | exact nm_int (by simp [IntKind.wrap, IntKind.bits, IntKind.signed]; omega)) (trivial))))) (trivial)
  rintro κ _ ⟨i, hi, hb, rfl, rfl⟩
  refine awp_seq fun K3 hK3 => ?_
  refine awp_region rfl ?_
  refine n_lss (i) (m.code.length) Gd.none rfl rfl ?_
  refine aops_end ?_
  refine hK3 _ ?_
  refine awp_seq fun K4 hK4 => ?_
  refine awp_condQ (q := (i) < (m.code.length)) rfl (fun h1 => ?_) (fun h1 => ?_)
  · refine awp_skip ?_
    refine hK4 _ ?_
    refine awp_seq fun K5 hK5 => ?_
    refine awp_block ?_
    refine awp_seq fun K6 hK6 => ?_
    refine awp_region rfl ?_
    refine o_mv (nm .i64 (i)) rfl ?_
    refine o_as (nm .i64 (i)) rfl ?_
    refine aops_end ?_
    refine hK6 _ ?_
    refine awp_seq fun K7 hK7 => ?_
    refine awp_region rfl ?_
    refine o_mv (AV.clo 47 [(AV.ip [(AV.lit (.int .i64 (m.regs))), (AV.sl 4 (gcells cI (m.code)))])]) rfl ?_
    refine o_mv (AV.sl 4 (gcells cI (m.code))) rfl ?_
    refine o_mv (nm .i64 (i)) rfl ?_
    refine g_index cI (m.code) (i) cI_len rfl Gd.none Ya_tE22 rfl rfl (by omega) ?_
    refine g_loadA cI (m.code) (i) default cI_len Gd.none Ya_tA50 rfl (by omega) ?_
    refine o_callG [] [(AV.agg [(AV.lit (.int .i64 ((((m.code).getD (i) default)).kind))), (AV.lit (.int .i64 ((((m.code).getD (i) default)).reg))), (AV.lit (.int .i64 ((((m.code).getD (i) default)).next))), (AV.lit (.int .i64 ((((m.code).getD (i) default)).els)))]), (AV.ip [(AV.lit (.int .i64 (m.regs))), (AV.sl 4 (gcells cI (m.code)))])] _ (bp (¬ (insP m (((m.code).getD (i) default))))) [] Gd.none Ya_tC47 rfl (trivial) rfl rfl (LeL.cons (AV.le_refl _) (LeL.cons (AV.le_refl _) (LeL.nil))) (c_Valid1 m (((m.code).getD (i) default))) rfl ?_
    refine aops_end ?_
    refine hK7 _ ?_
    refine awp_condQ (q := ¬ (insP m (((m.code).getD (i) default)))) rfl (fun h2 => ?_) (fun h2 => ?_)
    · refine awp_seq fun K8 hK8 => ?_
      refine awp_region rfl ?_
      refine o_mv (nm .i64 (i)) rfl ?_
      refine o_as (nm .i64 (i)) rfl ?_
      refine aops_end ?_
      refine hK8 _ ?_
      refine awp_ret ?_
      refine post_ret ⟨[(nm .i64 (i))], And.intro (AV.le_refl _) (trivial), rfl, ?_⟩
      exact congrArg (fun z => AV.lit (.int .i64 z)) (ixP_hit (d := default) (by omega) (by assumption) hb)
    · refine awp_skip ?_
      refine hK5 _ ?_
      refine awp_region rfl ?_
      refine n_add (i) (1) Gd.none rfl rfl (by simp only [topOf]; omega) ?_
      refine o_mv (nm .i64 ((i) + (1))) rfl ?_
      refine aops_end ?_
      refine ⟨_, _, ?lt, ⟨i + 1, (by omega), (fun k hk => by rcases Nat.lt_or_ge k i with e | e; exact hb k e; rw [show k = i by omega]; assumption), rfl, rfl⟩, ?wk⟩
      case lt => omega
      case wk => exact Wk.sub (And.intro rfl (And.intro rfl (And.intro rfl (And.intro (by first | rfl | exact congrArg (nm _) (by omega) | exact nm_int (by omega) | exact nm_int (by simp [IntKind.wrap, IntKind.bits, IntKind.signed]; omega)) (trivial))))) (trivial)
  · refine awp_exit ?_
    refine hK1 _ ?_
    refine awp_seq fun K9 hK9 => ?_
    refine awp_region rfl ?_
    refine o_as (AV.lit (.int .i64 ((-1)))) rfl ?_
    refine aops_end ?_
    refine hK9 _ ?_
    refine awp_ret ?_
    refine post_ret ⟨[(AV.lit (.int .i64 ((-1))))], And.intro (AV.le_refl _) (trivial), rfl, ?_⟩
    exact congrArg (fun z => AV.lit (.int .i64 z)) (ixP_none (d := default) (by omega) hb)

theorem c_hasIns (m : Mac) (hl : m.code.length ≤ 12) : ECalls cx 46 [(AV.sl 4 (gcells cI (m.code))), (AV.clo 47 [(AV.ip [(AV.lit (.int .i64 (m.regs))), (AV.sl 4 (gcells cI (m.code)))])])] (bp (∃ x ∈ m.code, (fun x => ¬ insP m x) x)) := by
  refine ecalls_of_awp Tryd.func46 (c := _) rfl (Nat.le_of_ble_eq_true rfl) ?_
  show awp cx 9 _ (postF cx Tryd.f46 _) ⟨[(0, (AV.sl 4 (gcells cI (m.code)))), (1, (AV.clo 47 [(AV.ip [(AV.lit (.int .i64 (m.regs))), (AV.sl 4 (gcells cI (m.code)))])]))], []⟩
  refine awp_seq fun K0 hK0 => ?_
  refine awp_region rfl ?_
  refine o_as (AV.lit (.bool false)) rfl ?_
  refine aops_end ?_
  refine hK0 _ ?_
  refine awp_seq fun K1 hK1 => ?_
  refine awp_region rfl ?_
  refine o_mv (AV.sl 4 (gcells cI (m.code))) rfl ?_
  refine o_mv (AV.clo 47 [(AV.ip [(AV.lit (.int .i64 (m.regs))), (AV.sl 4 (gcells cI (m.code)))])]) rfl ?_
  refine o_ct (c_ixIns m (by omega)) Gd.none Ya_tC59 rfl ?_
  refine o_geq (a := (ixP (fun x => ¬ insP m x) (m.code))) (c := (((0 : Nat) : Int))) Gd.none rfl rfl ?_
  refine o_as (bp ((((0 : Nat) : Int)) ≤ (ixP (fun x => ¬ insP m x) (m.code)))) rfl ?_
  refine aops_end ?_
  refine hK1 _ ?_
  refine awp_ret ?_
  refine post_ret ⟨[(bp ((((0 : Nat) : Int)) ≤ (ixP (fun x => ¬ insP m x) (m.code))))], And.intro (AV.le_refl _) (trivial), rfl, ?_⟩
  exact bpc (ixP_nn (p := fun x => ¬ insP m x))

theorem c_fValid (m : Mac) : ECalls cx 25 [(macV m)] (bp (okMac m)) := by
  refine ecalls_of_awp Tryd.func25 (c := _) rfl (Nat.le_of_ble_eq_true rfl) ?_
  show awp cx 30 _ (postF cx Tryd.f25 _) ⟨[(0, (macV m))], []⟩
  refine awp_seq fun K0 hK0 => ?_
  refine awp_region rfl ?_
  refine o_box 2 [(AV.lit (.int .i64 (m.regs))), (AV.sl 4 (gcells cI (m.code)))] Gd.none rfl rfl ?_
  refine o_as (AV.lit (.bool false)) rfl ?_
  refine aops_end ?_
  refine hK0 _ ?_
  refine awp_seq fun K1 hK1 => ?_
  refine awp_region rfl ?_
  refine o_fieldRef 0 Gd.none Ya_tF24_0 rfl rfl ?_
  refine o_loadS (AV.lit (.int .i64 (m.regs))) Gd.none Ya_tS3 rfl rfl rfl ?_
  refine o_geq (a := (m.regs)) (c := (((1 : Nat) : Int))) Gd.none rfl rfl ?_
  refine o_mv (bp ((((1 : Nat) : Int)) ≤ (m.regs))) rfl ?_
  refine o_splitP (q := (((1 : Nat) : Int)) ≤ (m.regs)) 6 rfl (fun h1 => ?_) (fun h1 => ?_)
  · refine o_fieldRef 0 (Gd.yes rfl rfl (decide_eq_true h1)) Ya_tF24_0 rfl rfl ?_
    refine o_loadS (AV.lit (.int .i64 (m.regs))) (Gd.yes rfl rfl (decide_eq_true h1)) Ya_tS3 rfl rfl rfl ?_
    refine o_leq (a := (m.regs)) (c := (((4 : Nat) : Int))) (Gd.yes rfl rfl (decide_eq_true h1)) rfl rfl ?_
    refine o_pickT (bp ((m.regs) ≤ (((4 : Nat) : Int)))) Gd.none rfl (decide_eq_true h1) rfl ?_
    refine o_mv (bp ((m.regs) ≤ (((4 : Nat) : Int)))) rfl ?_
    refine o_splitP (q := (m.regs) ≤ (((4 : Nat) : Int))) 11 rfl (fun h2 => ?_) (fun h2 => ?_)
    · refine o_fieldRef 1 (Gd.yes rfl rfl (decide_eq_true h2)) Ya_tF24_1 rfl rfl ?_
      refine o_loadS (AV.sl 4 (gcells cI (m.code))) (Gd.yes rfl rfl (decide_eq_true h2)) Ya_tS22 rfl rfl rfl ?_
      refine g_len cI (m.code) cI_len (Gd.yes rfl rfl (decide_eq_true h2)) Ya_tU22 rfl ?_
      refine n_geq ((m.code).length) (1) (Gd.yes rfl rfl (decide_eq_true h2)) rfl rfl ?_
      refine o_pickT (bp ((1) ≤ ((m.code).length))) Gd.none rfl (decide_eq_true h2) rfl ?_
      refine o_mv (bp ((1) ≤ ((m.code).length))) rfl ?_
      refine o_splitP (q := (1) ≤ ((m.code).length)) 17 rfl (fun h3 => ?_) (fun h3 => ?_)
      · refine o_fieldRef 1 (Gd.yes rfl rfl (decide_eq_true h3)) Ya_tF24_1 rfl rfl ?_
        refine o_loadS (AV.sl 4 (gcells cI (m.code))) (Gd.yes rfl rfl (decide_eq_true h3)) Ya_tS22 rfl rfl rfl ?_
        refine g_len cI (m.code) cI_len (Gd.yes rfl rfl (decide_eq_true h3)) Ya_tU22 rfl ?_
        refine n_leq ((m.code).length) (12) (Gd.yes rfl rfl (decide_eq_true h3)) rfl rfl ?_
        refine o_pickT (bp (((m.code).length) ≤ (12))) Gd.none rfl (decide_eq_true h3) rfl ?_
        refine o_mv (bp (((m.code).length) ≤ (12))) rfl ?_
        refine o_splitP (q := ((m.code).length) ≤ (12)) 23 rfl (fun h4 => ?_) (fun h4 => ?_)
        · refine o_fieldRef 1 (Gd.yes rfl rfl (decide_eq_true h4)) Ya_tF24_1 rfl rfl ?_
          refine o_loadS (AV.sl 4 (gcells cI (m.code))) (Gd.yes rfl rfl (decide_eq_true h4)) Ya_tS22 rfl rfl rfl ?_
          refine o_makeFunc [(AV.ref 2 (0))] (Gd.yes rfl rfl (decide_eq_true h4)) rfl ?_
          refine o_callV [(2, (AO.var 24 [(AV.lit (.int .i64 (m.regs))), (AV.sl 4 (gcells cI (m.code)))]))] [(AV.sl 4 (gcells cI (m.code))), (AV.clo 47 [(AV.ip [(AV.lit (.int .i64 (m.regs))), (AV.sl 4 (gcells cI (m.code)))])])] (.bool (decide (∃ x ∈ (m.code), (fun x => ¬ insP m x) x))) (Gd.yes rfl rfl (decide_eq_true h4)) Ya_tC46 rfl (And.intro rfl (And.intro rfl (trivial))) rfl (by rfl) (c_hasIns m (by omega)) ?_
          refine o_notP (q := ∃ x ∈ (m.code), (fun x => ¬ insP m x) x) (Gd.yes rfl rfl (decide_eq_true h4)) rfl ?_
          refine o_pickT (bp (¬ (∃ x ∈ (m.code), (fun x => ¬ insP m x) x))) Gd.none rfl (decide_eq_true h4) rfl ?_
          refine o_as (bp (¬ (∃ x ∈ (m.code), (fun x => ¬ insP m x) x))) rfl ?_
          refine aops_end ?_
          refine hK1 _ ?_
          refine awp_ret ?_
          refine post_ret ⟨[(bp (¬ (∃ x ∈ (m.code), (fun x => ¬ insP m x) x)))], And.intro (AV.le_refl _) (trivial), rfl, ?_⟩
          first | exact bpn (fun o => by obtain ⟨o1, o2, o3, o4, o5⟩ := o; omega) | exact bpc ⟨fun o => (by rintro ⟨x, hx, hn⟩; exact hn (o.2.2.2.2 x hx)), fun o => ⟨by omega, by omega, by omega, by omega, fun x hx => Decidable.not_not.1 fun hn => o ⟨x, hx, hn⟩⟩⟩
        · refine o_skip rfl rfl (decide_eq_false h4) ?_
          refine o_skip rfl rfl (decide_eq_false h4) ?_
          refine o_skip rfl rfl (decide_eq_false h4) ?_
          refine o_skip rfl rfl (decide_eq_false h4) ?_
          refine o_skip rfl rfl (decide_eq_false h4) ?_
          refine o_pickF (AV.lit (.bool false)) Gd.none rfl (decide_eq_false h4) rfl ?_
          refine o_as (AV.lit (.bool false)) rfl ?_
          refine aops_end ?_
          refine hK1 _ ?_
          refine awp_ret ?_
          refine post_ret ⟨[(AV.lit (.bool false))], And.intro (AV.le_refl _) (trivial), rfl, ?_⟩
          first | exact bpn (fun o => by obtain ⟨o1, o2, o3, o4, o5⟩ := o; omega) | exact bpc ⟨fun o => (by rintro ⟨x, hx, hn⟩; exact hn (o.2.2.2.2 x hx)), fun o => ⟨by omega, by omega, by omega, by omega, fun x hx => Decidable.not_not.1 fun hn => o ⟨x, hx, hn⟩⟩⟩
      · refine o_skip rfl rfl (decide_eq_false h3) ?_
        refine o_skip rfl rfl (decide_eq_false h3) ?_
        refine o_skip rfl rfl (decide_eq_false h3) ?_
        refine o_skip rfl rfl (decide_eq_false h3) ?_
        refine o_pickF (AV.lit (.bool false)) Gd.none rfl (decide_eq_false h3) rfl ?_
        refine o_mv (AV.lit (.bool false)) rfl ?_
        refine o_skip rfl rfl rfl ?_
        refine o_skip rfl rfl rfl ?_
        refine o_skip rfl rfl rfl ?_
        refine o_skip rfl rfl rfl ?_
        refine o_skip rfl rfl rfl ?_
        refine o_pickF (AV.lit (.bool false)) Gd.none rfl rfl rfl ?_
        refine o_as (AV.lit (.bool false)) rfl ?_
        refine aops_end ?_
        refine hK1 _ ?_
        refine awp_ret ?_
        refine post_ret ⟨[(AV.lit (.bool false))], And.intro (AV.le_refl _) (trivial), rfl, ?_⟩
        first | exact bpn (fun o => by obtain ⟨o1, o2, o3, o4, o5⟩ := o; omega) | exact bpc ⟨fun o => (by rintro ⟨x, hx, hn⟩; exact hn (o.2.2.2.2 x hx)), fun o => ⟨by omega, by omega, by omega, by omega, fun x hx => Decidable.not_not.1 fun hn => o ⟨x, hx, hn⟩⟩⟩
    · refine o_skip rfl rfl (decide_eq_false h2) ?_
      refine o_skip rfl rfl (decide_eq_false h2) ?_
      refine o_skip rfl rfl (decide_eq_false h2) ?_
      refine o_skip rfl rfl (decide_eq_false h2) ?_
      refine o_pickF (AV.lit (.bool false)) Gd.none rfl (decide_eq_false h2) rfl ?_
      refine o_mv (AV.lit (.bool false)) rfl ?_
      refine o_skip rfl rfl rfl ?_
      refine o_skip rfl rfl rfl ?_
      refine o_skip rfl rfl rfl ?_
      refine o_skip rfl rfl rfl ?_
      refine o_pickF (AV.lit (.bool false)) Gd.none rfl rfl rfl ?_
      refine o_mv (AV.lit (.bool false)) rfl ?_
      refine o_skip rfl rfl rfl ?_
      refine o_skip rfl rfl rfl ?_
      refine o_skip rfl rfl rfl ?_
      refine o_skip rfl rfl rfl ?_
      refine o_skip rfl rfl rfl ?_
      refine o_pickF (AV.lit (.bool false)) Gd.none rfl rfl rfl ?_
      refine o_as (AV.lit (.bool false)) rfl ?_
      refine aops_end ?_
      refine hK1 _ ?_
      refine awp_ret ?_
      refine post_ret ⟨[(AV.lit (.bool false))], And.intro (AV.le_refl _) (trivial), rfl, ?_⟩
      first | exact bpn (fun o => by obtain ⟨o1, o2, o3, o4, o5⟩ := o; omega) | exact bpc ⟨fun o => (by rintro ⟨x, hx, hn⟩; exact hn (o.2.2.2.2 x hx)), fun o => ⟨by omega, by omega, by omega, by omega, fun x hx => Decidable.not_not.1 fun hn => o ⟨x, hx, hn⟩⟩⟩
  · refine o_skip rfl rfl (decide_eq_false h1) ?_
    refine o_skip rfl rfl (decide_eq_false h1) ?_
    refine o_skip rfl rfl (decide_eq_false h1) ?_
    refine o_pickF (AV.lit (.bool false)) Gd.none rfl (decide_eq_false h1) rfl ?_
    refine o_mv (AV.lit (.bool false)) rfl ?_
    refine o_skip rfl rfl rfl ?_
    refine o_skip rfl rfl rfl ?_
    refine o_skip rfl rfl rfl ?_
    refine o_skip rfl rfl rfl ?_
    refine o_pickF (AV.lit (.bool false)) Gd.none rfl rfl rfl ?_
    refine o_mv (AV.lit (.bool false)) rfl ?_
    refine o_skip rfl rfl rfl ?_
    refine o_skip rfl rfl rfl ?_
    refine o_skip rfl rfl rfl ?_
    refine o_skip rfl rfl rfl ?_
    refine o_pickF (AV.lit (.bool false)) Gd.none rfl rfl rfl ?_
    refine o_mv (AV.lit (.bool false)) rfl ?_
    refine o_skip rfl rfl rfl ?_
    refine o_skip rfl rfl rfl ?_
    refine o_skip rfl rfl rfl ?_
    refine o_skip rfl rfl rfl ?_
    refine o_skip rfl rfl rfl ?_
    refine o_pickF (AV.lit (.bool false)) Gd.none rfl rfl rfl ?_
    refine o_as (AV.lit (.bool false)) rfl ?_
    refine aops_end ?_
    refine hK1 _ ?_
    refine awp_ret ?_
    refine post_ret ⟨[(AV.lit (.bool false))], And.intro (AV.le_refl _) (trivial), rfl, ?_⟩
    first | exact bpn (fun o => by obtain ⟨o1, o2, o3, o4, o5⟩ := o; omega) | exact bpc ⟨fun o => (by rintro ⟨x, hx, hn⟩; exact hn (o.2.2.2.2 x hx)), fun o => ⟨by omega, by omega, by omega, by omega, fun x hx => Decidable.not_not.1 fun hn => o ⟨x, hx, hn⟩⟩⟩

theorem c_Fits1 (n : Int) : ECalls cx 30 [(AV.lit (.int .i64 (n)))] (bp (¬ regP n)) := by
  refine ecalls_of_awp Tryd.func30 (c := _) rfl (Nat.le_of_ble_eq_true rfl) ?_
  show awp cx 9 _ (postF cx Tryd.f30 _) ⟨[(0, (AV.lit (.int .i64 (n))))], []⟩
  refine awp_seq fun K0 hK0 => ?_
  refine awp_region rfl ?_
  refine o_as (AV.lit (.bool false)) rfl ?_
  refine aops_end ?_
  refine hK0 _ ?_
  refine awp_seq fun K1 hK1 => ?_
  refine awp_region rfl ?_
  refine o_mv (AV.lit (.int .i64 (n))) rfl ?_
  refine o_lss (a := (n)) (c := (((0 : Nat) : Int))) Gd.none rfl rfl ?_
  refine o_mv (bp ((n) < (((0 : Nat) : Int)))) rfl ?_
  refine o_splitP (q := (n) < (((0 : Nat) : Int))) 5 rfl (fun h1 => ?_) (fun h1 => ?_)
  · refine o_skip rfl rfl (decide_eq_true h1) ?_
    refine o_skip rfl rfl (decide_eq_true h1) ?_
    refine o_pickT (AV.lit (.bool true)) Gd.none rfl (decide_eq_true h1) rfl ?_
    refine o_as (AV.lit (.bool true)) rfl ?_
    refine aops_end ?_
    refine hK1 _ ?_
    refine awp_ret ?_
    refine post_ret ⟨[(AV.lit (.bool true))], And.intro (AV.le_refl _) (trivial), rfl, ?_⟩
    first | rfl | exact bpc (by simp only [insP, plc, regP] at *; omega) | exact bpn (by simp only [insP, plc, regP] at *; omega) | exact bpy (by simp only [insP, plc, regP] at *; omega)
  · refine o_move (AV.lit (.int .i64 (n))) (Gd.yes rfl rfl (decide_eq_false h1)) rfl ?_
    refine o_gtr (a := (n)) (c := (((1000 : Nat) : Int))) (Gd.yes rfl rfl (decide_eq_false h1)) rfl rfl ?_
    refine o_pickF (bp ((((1000 : Nat) : Int)) < (n))) Gd.none rfl (decide_eq_false h1) rfl ?_
    refine o_as (bp ((((1000 : Nat) : Int)) < (n))) rfl ?_
    refine aops_end ?_
    refine hK1 _ ?_
    refine awp_ret ?_
    refine post_ret ⟨[(bp ((((1000 : Nat) : Int)) < (n)))], And.intro (AV.le_refl _) (trivial), rfl, ?_⟩
    first | rfl | exact bpc (by simp only [insP, plc, regP] at *; omega) | exact bpn (by simp only [insP, plc, regP] at *; omega) | exact bpy (by simp only [insP, plc, regP] at *; omega)

theorem c_ixReg (l : List Int) (hl : l.length ≤ 4) : ECalls cx 51 [(AV.sl 1 (is .i64 (l))), (AV.clo 30 [])] (.lit (.int .i64 (ixP (fun n => ¬ regP n) l))) := by
  refine ecalls_of_awp Tryd.func51 (c := _) rfl (Nat.le_of_ble_eq_true rfl) ?_
  show awp cx 19 _ (postF cx Tryd.f51 _) ⟨[(0, (AV.sl 1 (is .i64 (l)))), (1, (AV.clo 30 []))], []⟩
  refine awp_seq fun K0 hK0 => ?_
  refine awp_region rfl ?_
  refine o_as (nm .i64 (0)) rfl ?_
  refine aops_end ?_
  refine hK0 _ ?_
  refine awp_seq fun K1 hK1 => ?_
  refine awp_seq fun K2 hK2 => ?_
  refine awp_region rfl ?_
  refine o_mv (AV.sl 1 (is .i64 (l))) rfl ?_
  refine i_len (l) Gd.none Ya_tU25 rfl ?_
  refine o_mv (nm .i64 (0)) rfl ?_
  refine aops_end ?_
  refine hK2 _ ?_
  refine awp_block ?_
  refine awp_loopR (fun κ σ => ∃ (i : Nat), (i ≤ l.length) ∧ (∀ k, k < i → ¬ ((fun n => ¬ regP n) ((l).getD k 0))) ∧ (l.length - i) = κ ∧ σ = ⟨[(0, (AV.sl 1 (is .i64 (l)))), (1, (AV.clo 30 [])), (7, (nm .i64 (l.length))), (8, (nm .i64 (i)))], []⟩) ⟨_, _, ⟨0, (by omega), (fun k hk => by omega), rfl, rfl⟩, ?wk0⟩ ?rd0
  case wk0 =>
    exact Wk.sub (And.intro rfl (And.intro rfl (And.intro (by first | rfl | exact congrArg (nm _) (by omega) | exact nm_int (by omega) | exact nm_int (by simp [IntKind.wrap, IntKind.bits, IntKind.signed]; omega)) (And.intro (by first | rfl | exact congrArg (nm _) (by omega) | exact nm_int (by omega) | exact nm_int (by simp [IntKind.wrap, IntKind.bits, IntKind.signed]; omega)) (trivial))))) (trivial)
  rintro κ _ ⟨i, hi, hb, rfl, rfl⟩
  refine awp_seq fun K3 hK3 => ?_
  refine awp_region rfl ?_
  refine n_lss (i) (l.length) Gd.none rfl rfl ?_
  refine aops_end ?_
  refine hK3 _ ?_
  refine awp_seq fun K4 hK4 => ?_
  refine awp_condQ (q := (i) < (l.length)) rfl (fun h1 => ?_) (fun h1 => ?_)
  · refine awp_skip ?_
    refine hK4 _ ?_
    refine awp_seq fun K5 hK5 => ?_
    refine awp_block ?_
    refine awp_seq fun K6 hK6 => ?_
    refine awp_region rfl ?_
    refine o_mv (nm .i64 (i)) rfl ?_
    refine o_as (nm .i64 (i)) rfl ?_
    refine aops_end ?_
    refine hK6 _ ?_
    refine awp_seq fun K7 hK7 => ?_
    refine awp_region rfl ?_
    refine o_mv (AV.clo 30 []) rfl ?_
    refine o_mv (AV.sl 1 (is .i64 (l))) rfl ?_
    refine o_mv (nm .i64 (i)) rfl ?_
    refine i_index (l) (i) Gd.none Ya_tE25 rfl rfl (by omega) ?_
    refine i_loadI (l) (i) Gd.none Ya_tS3 rfl (by omega) ?_
    refine o_callG [] [(AV.lit (.int .i64 ((l).getD (i) 0)))] _ (bp (¬ (regP ((l).getD (i) 0)))) [] Gd.none Ya_tC30 rfl (trivial) rfl rfl (LeL.cons (AV.le_refl _) (LeL.nil)) (c_Fits1 ((l).getD (i) 0)) rfl ?_
    refine aops_end ?_
    refine hK7 _ ?_
    refine awp_condQ (q := ¬ (regP ((l).getD (i) 0))) rfl (fun h2 => ?_) (fun h2 => ?_)
    · refine awp_seq fun K8 hK8 => ?_
      refine awp_region rfl ?_
      refine o_mv (nm .i64 (i)) rfl ?_
      refine o_as (nm .i64 (i)) rfl ?_
      refine aops_end ?_
      refine hK8 _ ?_
      refine awp_ret ?_
      refine post_ret ⟨[(nm .i64 (i))], And.intro (AV.le_refl _) (trivial), rfl, ?_⟩
      exact congrArg (fun z => AV.lit (.int .i64 z)) (ixP_hit (d := 0) (by omega) (by assumption) hb)
    · refine awp_skip ?_
      refine hK5 _ ?_
      refine awp_region rfl ?_
      refine n_add (i) (1) Gd.none rfl rfl (by simp only [topOf]; omega) ?_
      refine o_mv (nm .i64 ((i) + (1))) rfl ?_
      refine aops_end ?_
      refine ⟨_, _, ?lt, ⟨i + 1, (by omega), (fun k hk => by rcases Nat.lt_or_ge k i with e | e; exact hb k e; rw [show k = i by omega]; assumption), rfl, rfl⟩, ?wk⟩
      case lt => omega
      case wk => exact Wk.sub (And.intro rfl (And.intro rfl (And.intro rfl (And.intro (by first | rfl | exact congrArg (nm _) (by omega) | exact nm_int (by omega) | exact nm_int (by simp [IntKind.wrap, IntKind.bits, IntKind.signed]; omega)) (trivial))))) (trivial)
  · refine awp_exit ?_
    refine hK1 _ ?_
    refine awp_seq fun K9 hK9 => ?_
    refine awp_region rfl ?_
    refine o_as (AV.lit (.int .i64 ((-1)))) rfl ?_
    refine aops_end ?_
    refine hK9 _ ?_
    refine awp_ret ?_
    refine post_ret ⟨[(AV.lit (.int .i64 ((-1))))], And.intro (AV.le_refl _) (trivial), rfl, ?_⟩
    exact congrArg (fun z => AV.lit (.int .i64 z)) (ixP_none (d := 0) (by omega) hb)

theorem c_hasReg (l : List Int) (hl : l.length ≤ 4) : ECalls cx 29 [(AV.sl 1 (is .i64 (l))), (AV.clo 30 [])] (bp (∃ x ∈ l, (fun n => ¬ regP n) x)) := by
  refine ecalls_of_awp Tryd.func29 (c := _) rfl (Nat.le_of_ble_eq_true rfl) ?_
  show awp cx 9 _ (postF cx Tryd.f29 _) ⟨[(0, (AV.sl 1 (is .i64 (l)))), (1, (AV.clo 30 []))], []⟩
  refine awp_seq fun K0 hK0 => ?_
  refine awp_region rfl ?_
  refine o_as (AV.lit (.bool false)) rfl ?_
  refine aops_end ?_
  refine hK0 _ ?_
  refine awp_seq fun K1 hK1 => ?_
  refine awp_region rfl ?_
  refine o_mv (AV.sl 1 (is .i64 (l))) rfl ?_
  refine o_mv (AV.clo 30 []) rfl ?_
  refine o_ct (c_ixReg (l) (by omega)) Gd.none Ya_tC51 rfl ?_
  refine o_geq (a := (ixP (fun n => ¬ regP n) (l))) (c := (((0 : Nat) : Int))) Gd.none rfl rfl ?_
  refine o_as (bp ((((0 : Nat) : Int)) ≤ (ixP (fun n => ¬ regP n) (l)))) rfl ?_
  refine aops_end ?_
  refine hK1 _ ?_
  refine awp_ret ?_
  refine post_ret ⟨[(bp ((((0 : Nat) : Int)) ≤ (ixP (fun n => ¬ regP n) (l))))], And.intro (AV.le_refl _) (trivial), rfl, ?_⟩
  exact bpc (ixP_nn (p := fun n => ¬ regP n))

theorem c_fFits (m : Mac) (c : Cfg) : ECalls cx 11 [(macV m), (cfgV c)] (bp (okCfg m c)) := by
  refine ecalls_of_awp Tryd.func11 (c := _) rfl (Nat.le_of_ble_eq_true rfl) ?_
  show awp cx 27 _ (postF cx Tryd.f11 _) ⟨[(0, (macV m)), (1, (cfgV c))], []⟩
  refine awp_seq fun K0 hK0 => ?_
  refine awp_region rfl ?_
  refine o_box 2 [(AV.lit (.int .i64 (m.regs))), (AV.sl 4 (gcells cI (m.code)))] Gd.none rfl rfl ?_
  refine o_box 3 [(AV.lit (.int .i64 (c.at'))), (AV.sl 1 (is .i64 (c.regs)))] Gd.none rfl rfl ?_
  refine o_as (AV.lit (.bool false)) rfl ?_
  refine aops_end ?_
  refine hK0 _ ?_
  refine awp_seq fun K1 hK1 => ?_
  refine awp_region rfl ?_
  refine o_loadA [(AV.lit (.int .i64 (m.regs))), (AV.sl 4 (gcells cI (m.code)))] Gd.none Ya_tA24 rfl rfl rfl rfl rfl ?_
  refine o_ct (c_fValid m) Gd.none Ya_tC25 rfl ?_
  refine o_mv (bp (okMac m)) rfl ?_
  refine o_splitP (q := okMac m) 7 rfl (fun h1 => ?_) (fun h1 => ?_)
  · have hoM := h1
    obtain ⟨o1, o2, o3, o4, o5⟩ := hoM
    refine o_loadA [(AV.lit (.int .i64 (m.regs))), (AV.sl 4 (gcells cI (m.code)))] (Gd.yes rfl rfl (decide_eq_true h1)) Ya_tA24 rfl rfl rfl rfl rfl ?_
    refine o_fieldRef 0 (Gd.yes rfl rfl (decide_eq_true h1)) Ya_tF27_0 rfl rfl ?_
    refine o_loadS (AV.lit (.int .i64 (c.at'))) (Gd.yes rfl rfl (decide_eq_true h1)) Ya_tS3 rfl rfl rfl ?_
    refine o_ct (c_place m (c.at')) (Gd.yes rfl rfl (decide_eq_true h1)) Ya_tC28 rfl ?_
    refine o_pickT (bp (plc m (c.at'))) Gd.none rfl (decide_eq_true h1) rfl ?_
    refine o_mv (bp (plc m (c.at'))) rfl ?_
    refine o_splitP (q := plc m (c.at')) 13 rfl (fun h2 => ?_) (fun h2 => ?_)
    · refine o_fieldRef 1 (Gd.yes rfl rfl (decide_eq_true h2)) Ya_tF27_1 rfl rfl ?_
      refine o_loadS (AV.sl 1 (is .i64 (c.regs))) (Gd.yes rfl rfl (decide_eq_true h2)) Ya_tS25 rfl rfl rfl ?_
      refine i_len (c.regs) (Gd.yes rfl rfl (decide_eq_true h2)) Ya_tU25 rfl ?_
      refine o_fieldRef 0 (Gd.yes rfl rfl (decide_eq_true h2)) Ya_tF24_0 rfl rfl ?_
      refine o_loadS (AV.lit (.int .i64 (m.regs))) (Gd.yes rfl rfl (decide_eq_true h2)) Ya_tS3 rfl rfl rfl ?_
      refine o_eql (a := ((((c.regs).length : Nat) : Int))) (c := (m.regs)) (Gd.yes rfl rfl (decide_eq_true h2)) rfl rfl ?_
      refine o_pickT (bp (((((c.regs).length : Nat) : Int)) = (m.regs))) Gd.none rfl (decide_eq_true h2) rfl ?_
      refine o_mv (bp (((((c.regs).length : Nat) : Int)) = (m.regs))) rfl ?_
      refine o_splitP (q := ((((c.regs).length : Nat) : Int)) = (m.regs)) 21 rfl (fun h3 => ?_) (fun h3 => ?_)
      · refine o_fieldRef 1 (Gd.yes rfl rfl (decide_eq_true h3)) Ya_tF27_1 rfl rfl ?_
        refine o_loadS (AV.sl 1 (is .i64 (c.regs))) (Gd.yes rfl rfl (decide_eq_true h3)) Ya_tS25 rfl rfl rfl ?_
        refine o_ct (c_hasReg (c.regs) (by omega)) (Gd.yes rfl rfl (decide_eq_true h3)) Ya_tC29 rfl ?_
        refine o_notP (q := ∃ x ∈ (c.regs), (fun n => ¬ regP n) x) (Gd.yes rfl rfl (decide_eq_true h3)) rfl ?_
        refine o_pickT (bp (¬ (∃ x ∈ (c.regs), (fun n => ¬ regP n) x))) Gd.none rfl (decide_eq_true h3) rfl ?_
        refine o_as (bp (¬ (∃ x ∈ (c.regs), (fun n => ¬ regP n) x))) rfl ?_
        refine aops_end ?_
        refine hK1 _ ?_
        refine awp_ret ?_
        refine post_ret ⟨[(bp (¬ (∃ x ∈ (c.regs), (fun n => ¬ regP n) x)))], And.intro (AV.le_refl _) (trivial), rfl, ?_⟩
        first | exact bpn (fun o => absurd o.1 (by assumption)) | exact bpn (fun o => absurd o.2.1 (by assumption)) | exact bpn (fun o => absurd o.2.2.1 (by assumption)) | exact bpc ⟨fun o => (by rintro ⟨x, hx, hn⟩; exact hn (o.2.2.2 x hx)), fun o => ⟨h1, by assumption, by assumption, fun x hx => Decidable.not_not.1 fun hn => o ⟨x, hx, hn⟩⟩⟩
      · refine o_skip rfl rfl (decide_eq_false h3) ?_
        refine o_skip rfl rfl (decide_eq_false h3) ?_
        refine o_skip rfl rfl (decide_eq_false h3) ?_
        refine o_skip rfl rfl (decide_eq_false h3) ?_
        refine o_pickF (AV.lit (.bool false)) Gd.none rfl (decide_eq_false h3) rfl ?_
        refine o_as (AV.lit (.bool false)) rfl ?_
        refine aops_end ?_
        refine hK1 _ ?_
        refine awp_ret ?_
        refine post_ret ⟨[(AV.lit (.bool false))], And.intro (AV.le_refl _) (trivial), rfl, ?_⟩
        first | exact bpn (fun o => absurd o.1 (by assumption)) | exact bpn (fun o => absurd o.2.1 (by assumption)) | exact bpn (fun o => absurd o.2.2.1 (by assumption)) | exact bpc ⟨fun o => (by rintro ⟨x, hx, hn⟩; exact hn (o.2.2.2 x hx)), fun o => ⟨h1, by assumption, by assumption, fun x hx => Decidable.not_not.1 fun hn => o ⟨x, hx, hn⟩⟩⟩
    · refine o_skip rfl rfl (decide_eq_false h2) ?_
      refine o_skip rfl rfl (decide_eq_false h2) ?_
      refine o_skip rfl rfl (decide_eq_false h2) ?_
      refine o_skip rfl rfl (decide_eq_false h2) ?_
      refine o_skip rfl rfl (decide_eq_false h2) ?_
      refine o_skip rfl rfl (decide_eq_false h2) ?_
      refine o_pickF (AV.lit (.bool false)) Gd.none rfl (decide_eq_false h2) rfl ?_
      refine o_mv (AV.lit (.bool false)) rfl ?_
      refine o_skip rfl rfl rfl ?_
      refine o_skip rfl rfl rfl ?_
      refine o_skip rfl rfl rfl ?_
      refine o_skip rfl rfl rfl ?_
      refine o_pickF (AV.lit (.bool false)) Gd.none rfl rfl rfl ?_
      refine o_as (AV.lit (.bool false)) rfl ?_
      refine aops_end ?_
      refine hK1 _ ?_
      refine awp_ret ?_
      refine post_ret ⟨[(AV.lit (.bool false))], And.intro (AV.le_refl _) (trivial), rfl, ?_⟩
      first | exact bpn (fun o => absurd o.1 (by assumption)) | exact bpn (fun o => absurd o.2.1 (by assumption)) | exact bpn (fun o => absurd o.2.2.1 (by assumption)) | exact bpc ⟨fun o => (by rintro ⟨x, hx, hn⟩; exact hn (o.2.2.2 x hx)), fun o => ⟨h1, by assumption, by assumption, fun x hx => Decidable.not_not.1 fun hn => o ⟨x, hx, hn⟩⟩⟩
  · refine o_skip rfl rfl (decide_eq_false h1) ?_
    refine o_skip rfl rfl (decide_eq_false h1) ?_
    refine o_skip rfl rfl (decide_eq_false h1) ?_
    refine o_skip rfl rfl (decide_eq_false h1) ?_
    refine o_pickF (AV.lit (.bool false)) Gd.none rfl (decide_eq_false h1) rfl ?_
    refine o_mv (AV.lit (.bool false)) rfl ?_
    refine o_skip rfl rfl rfl ?_
    refine o_skip rfl rfl rfl ?_
    refine o_skip rfl rfl rfl ?_
    refine o_skip rfl rfl rfl ?_
    refine o_skip rfl rfl rfl ?_
    refine o_skip rfl rfl rfl ?_
    refine o_pickF (AV.lit (.bool false)) Gd.none rfl rfl rfl ?_
    refine o_mv (AV.lit (.bool false)) rfl ?_
    refine o_skip rfl rfl rfl ?_
    refine o_skip rfl rfl rfl ?_
    refine o_skip rfl rfl rfl ?_
    refine o_skip rfl rfl rfl ?_
    refine o_pickF (AV.lit (.bool false)) Gd.none rfl rfl rfl ?_
    refine o_as (AV.lit (.bool false)) rfl ?_
    refine aops_end ?_
    refine hK1 _ ?_
    refine awp_ret ?_
    refine post_ret ⟨[(AV.lit (.bool false))], And.intro (AV.le_refl _) (trivial), rfl, ?_⟩
    first | exact bpn (fun o => absurd o.1 (by assumption)) | exact bpn (fun o => absurd o.2.1 (by assumption)) | exact bpn (fun o => absurd o.2.2.1 (by assumption)) | exact bpc ⟨fun o => (by rintro ⟨x, hx, hn⟩; exact hn (o.2.2.2 x hx)), fun o => ⟨h1, by assumption, by assumption, fun x hx => Decidable.not_not.1 fun hn => o ⟨x, hx, hn⟩⟩⟩

theorem c_primes1 (n p : Nat) (hp : 0 < p) : ECalls cx 43 [(nm .i64 (p)), (AV.ip [(nm .i64 (n))])] (bp (n % p = 0)) := by
  refine ecalls_of_awp Tryd.func43 (c := _) rfl (Nat.le_of_ble_eq_true rfl) ?_
  show awp cx 8 _ (postF cx Tryd.f43 _) ⟨[(0, (nm .i64 (p))), (1, (AV.ip [(nm .i64 (n))]))], []⟩
  refine awp_seq fun K0 hK0 => ?_
  refine awp_region rfl ?_
  refine o_as (AV.lit (.bool false)) rfl ?_
  refine aops_end ?_
  refine hK0 _ ?_
  refine awp_seq fun K1 hK1 => ?_
  refine awp_region rfl ?_
  refine o_loadIS (nm .i64 (n)) Gd.none Ya_tS3 rfl rfl ?_
  refine o_mv (nm .i64 (p)) rfl ?_
  refine n_rem (n) (p) Gd.none rfl rfl (by omega) ?_
  refine n_eql ((n) % (p)) (0) Gd.none rfl rfl ?_
  refine o_as (bp (((n) % (p)) = (0))) rfl ?_
  refine aops_end ?_
  refine hK1 _ ?_
  refine awp_ret ?_
  refine post_ret ⟨[(bp (((n) % (p)) = (0)))], And.intro (AV.le_refl _) (trivial), rfl, ?_⟩
  rfl

theorem c_ixPrm (n : Nat) (l : List Nat) (hl : l.length ≤ 30) (hp : ∀ p ∈ l, 0 < p) : ECalls cx 51 [(AV.sl 1 (ns .i64 (l))), (AV.clo 43 [(AV.ip [(nm .i64 (n))])])] (.lit (.int .i64 (ixP (fun (p : Nat) => n % p = 0) l))) := by
  refine ecalls_of_awp Tryd.func51 (c := _) rfl (Nat.le_of_ble_eq_true rfl) ?_
  show awp cx 19 _ (postF cx Tryd.f51 _) ⟨[(0, (AV.sl 1 (ns .i64 (l)))), (1, (AV.clo 43 [(AV.ip [(nm .i64 (n))])]))], []⟩
  refine awp_seq fun K0 hK0 => ?_
  refine awp_region rfl ?_
  refine o_as (nm .i64 (0)) rfl ?_
  refine aops_end ?_
  refine hK0 _ ?_
  refine awp_seq fun K1 hK1 => ?_
  refine awp_seq fun K2 hK2 => ?_
  refine awp_region rfl ?_
  refine o_mv (AV.sl 1 (ns .i64 (l))) rfl ?_
  refine n_len (l) Gd.none Ya_tU25 rfl ?_
  refine o_mv (nm .i64 (0)) rfl ?_
  refine aops_end ?_
  refine hK2 _ ?_
  refine awp_block ?_
  refine awp_loopR (fun κ σ => ∃ (i : Nat), (i ≤ l.length) ∧ (∀ k, k < i → ¬ ((fun (p : Nat) => n % p = 0) ((l).getD k 0))) ∧ (l.length - i) = κ ∧ σ = ⟨[(0, (AV.sl 1 (ns .i64 (l)))), (1, (AV.clo 43 [(AV.ip [(nm .i64 (n))])])), (7, (nm .i64 (l.length))), (8, (nm .i64 (i)))], []⟩) ⟨_, _, ⟨0, (by omega), (fun k hk => by omega), rfl, rfl⟩, ?wk0⟩ ?rd0
  case wk0 =>
    exact Wk.sub (And.intro rfl (And.intro rfl (And.intro (by first | rfl | exact congrArg (nm _) (by omega) | exact nm_int (by omega) | exact nm_int (by simp [IntKind.wrap, IntKind.bits, IntKind.signed]; omega)) (And.intro (by first | rfl | exact congrArg (nm _) (by omega) | exact nm_int (by omega) | exact nm_int (by simp [IntKind.wrap, IntKind.bits, IntKind.signed]; omega)) (trivial))))) (trivial)
  rintro κ _ ⟨i, hi, hb, rfl, rfl⟩
  refine awp_seq fun K3 hK3 => ?_
  refine awp_region rfl ?_
  refine n_lss (i) (l.length) Gd.none rfl rfl ?_
  refine aops_end ?_
  refine hK3 _ ?_
  refine awp_seq fun K4 hK4 => ?_
  refine awp_condQ (q := (i) < (l.length)) rfl (fun h1 => ?_) (fun h1 => ?_)
  · refine awp_skip ?_
    refine hK4 _ ?_
    refine awp_seq fun K5 hK5 => ?_
    refine awp_block ?_
    refine awp_seq fun K6 hK6 => ?_
    refine awp_region rfl ?_
    refine o_mv (nm .i64 (i)) rfl ?_
    refine o_as (nm .i64 (i)) rfl ?_
    refine aops_end ?_
    refine hK6 _ ?_
    refine awp_seq fun K7 hK7 => ?_
    refine awp_region rfl ?_
    refine o_mv (AV.clo 43 [(AV.ip [(nm .i64 (n))])]) rfl ?_
    refine o_mv (AV.sl 1 (ns .i64 (l))) rfl ?_
    refine o_mv (nm .i64 (i)) rfl ?_
    refine n_index (l) (i) Gd.none Ya_tE25 rfl rfl (by omega) ?_
    refine n_loadI (l) (i) Gd.none Ya_tS3 rfl (by omega) ?_
    refine o_callG [] [(nm .i64 ((l).getD (i) 0)), (AV.ip [(nm .i64 (n))])] _ (bp ((n) % ((l).getD (i) 0) = 0)) [] Gd.none Ya_tC43 rfl (trivial) rfl rfl (LeL.cons (AV.le_refl _) (LeL.cons (AV.le_refl _) (LeL.nil))) (c_primes1 (n) ((l).getD (i) 0) (hp _ (gdm (by omega)))) rfl ?_
    refine aops_end ?_
    refine hK7 _ ?_
    refine awp_condQ (q := (n) % ((l).getD (i) 0) = 0) rfl (fun h2 => ?_) (fun h2 => ?_)
    · refine awp_seq fun K8 hK8 => ?_
      refine awp_region rfl ?_
      refine o_mv (nm .i64 (i)) rfl ?_
      refine o_as (nm .i64 (i)) rfl ?_
      refine aops_end ?_
      refine hK8 _ ?_
      refine awp_ret ?_
      refine post_ret ⟨[(nm .i64 (i))], And.intro (AV.le_refl _) (trivial), rfl, ?_⟩
      exact congrArg (fun z => AV.lit (.int .i64 z)) (ixP_hit (d := 0) (by omega) (by assumption) hb)
    · refine awp_skip ?_
      refine hK5 _ ?_
      refine awp_region rfl ?_
      refine n_add (i) (1) Gd.none rfl rfl (by simp only [topOf]; omega) ?_
      refine o_mv (nm .i64 ((i) + (1))) rfl ?_
      refine aops_end ?_
      refine ⟨_, _, ?lt, ⟨i + 1, (by omega), (fun k hk => by rcases Nat.lt_or_ge k i with e | e; exact hb k e; rw [show k = i by omega]; assumption), rfl, rfl⟩, ?wk⟩
      case lt => omega
      case wk => exact Wk.sub (And.intro rfl (And.intro rfl (And.intro rfl (And.intro (by first | rfl | exact congrArg (nm _) (by omega) | exact nm_int (by omega) | exact nm_int (by simp [IntKind.wrap, IntKind.bits, IntKind.signed]; omega)) (trivial))))) (trivial)
  · refine awp_exit ?_
    refine hK1 _ ?_
    refine awp_seq fun K9 hK9 => ?_
    refine awp_region rfl ?_
    refine o_as (AV.lit (.int .i64 ((-1)))) rfl ?_
    refine aops_end ?_
    refine hK9 _ ?_
    refine awp_ret ?_
    refine post_ret ⟨[(AV.lit (.int .i64 ((-1))))], And.intro (AV.le_refl _) (trivial), rfl, ?_⟩
    exact congrArg (fun z => AV.lit (.int .i64 z)) (ixP_none (d := 0) (by omega) hb)

theorem c_hasPrm (n : Nat) (l : List Nat) (hl : l.length ≤ 30) (hp : ∀ p ∈ l, 0 < p) : ECalls cx 29 [(AV.sl 1 (ns .i64 (l))), (AV.clo 43 [(AV.ip [(nm .i64 (n))])])] (bp (∃ x ∈ l, (fun (p : Nat) => n % p = 0) x)) := by
  refine ecalls_of_awp Tryd.func29 (c := _) rfl (Nat.le_of_ble_eq_true rfl) ?_
  show awp cx 9 _ (postF cx Tryd.f29 _) ⟨[(0, (AV.sl 1 (ns .i64 (l)))), (1, (AV.clo 43 [(AV.ip [(nm .i64 (n))])]))], []⟩
  refine awp_seq fun K0 hK0 => ?_
  refine awp_region rfl ?_
  refine o_as (AV.lit (.bool false)) rfl ?_
  refine aops_end ?_
  refine hK0 _ ?_
  refine awp_seq fun K1 hK1 => ?_
  refine awp_region rfl ?_
  refine o_mv (AV.sl 1 (ns .i64 (l))) rfl ?_
  refine o_mv (AV.clo 43 [(AV.ip [(nm .i64 (n))])]) rfl ?_
  refine o_ct (c_ixPrm (n) (l) (by first | omega | assumption) (by assumption)) Gd.none Ya_tC51 rfl ?_
  refine o_geq (a := (ixP (fun (p : Nat) => (n) % p = 0) (l))) (c := (((0 : Nat) : Int))) Gd.none rfl rfl ?_
  refine o_as (bp ((((0 : Nat) : Int)) ≤ (ixP (fun (p : Nat) => (n) % p = 0) (l)))) rfl ?_
  refine aops_end ?_
  refine hK1 _ ?_
  refine awp_ret ?_
  refine post_ret ⟨[(bp ((((0 : Nat) : Int)) ≤ (ixP (fun (p : Nat) => (n) % p = 0) (l))))], And.intro (AV.le_refl _) (trivial), rfl, ?_⟩
  exact bpc (ixP_nn (p := fun (p : Nat) => n % p = 0))

end Go.Proofs.YtnejjdcbbminaaaDoor

set_option linter.unusedVariables false
set_option linter.unusedSimpArgs false
namespace Go.Mth
open Go.Ab
theorem txt_nil : txt 0 = ⟨#[48]⟩ := by
  simp [txt, txtL]
  rfl
theorem fit_tiny {z : Int} (h : z.natAbs < 100) : Fit z := fit_of_pow (k := 2) h (by decide) (by decide)
theorem ok_of_txt {a : ByteArray} {z : Int} (h : txt z = a) (hz : z.natAbs < 100) : okS a = true ∧ numS a = z := by
  subst h
  exact ⟨okS_iff.2 (okS_txt (fit_tiny hz)), numS_txt z⟩
noncomputable def sumS (a b : ByteArray) : ByteArray := if okS a && okS b then toldS (numS a + numS b) else { data := #[] }
noncomputable def proS (a b : ByteArray) : ByteArray := if okS a && okS b then toldS (numS a * numS b) else { data := #[] }
def alikeS (a b : ByteArray) : Prop := a = { data := #[] } ∨ b = { data := #[] } ∨ a = b
noncomputable instance (a b : ByteArray) : Decidable (alikeS a b) := Classical.propDecidable _
def divsS (d n : ByteArray) : Prop := divE n d = 0 ∧ divR n d = ⟨#[48]⟩
noncomputable instance (d n : ByteArray) : Decidable (divsS d n) := Classical.propDecidable _
theorem told_sz (z : Int) : (toldS z).size ≤ 9223372036854775807 := by
  unfold toldS
  split
  · rename_i h
    rw [txt_len]
    have : (txtL z).length ≤ 2001 := by
      unfold txtL
      have hn := h
      unfold Fit ndig at hn
      split
      · simp
      · rename_i h0
        rw [if_neg (by omega)] at hn
        split <;> simp <;> omega
    omega
  · decide
end Go.Mth

set_option linter.unusedVariables false
set_option linter.unusedSimpArgs false
namespace Go.Proofs.YtnejjdcbbminaaaDoor
open Go Go.Ab Go.Mth
theorem Yb_tO58 : tyZero cx.P 58 = some [(Go.Value.int IntKind.i64 0), (Go.Value.int IntKind.i64 0), (Go.Value.int IntKind.i64 0), (Go.Value.int IntKind.i64 0), (Go.Value.int IntKind.i64 0), (Go.Value.int IntKind.i64 0), (Go.Value.int IntKind.i64 0), (Go.Value.int IntKind.i64 0), (Go.Value.int IntKind.i64 0), (Go.Value.int IntKind.i64 0), (Go.Value.int IntKind.i64 0), (Go.Value.int IntKind.i64 0), (Go.Value.int IntKind.i64 0), (Go.Value.int IntKind.i64 0), (Go.Value.int IntKind.i64 0), (Go.Value.int IntKind.i64 0), (Go.Value.int IntKind.i64 0), (Go.Value.int IntKind.i64 0), (Go.Value.int IntKind.i64 0), (Go.Value.int IntKind.i64 0), (Go.Value.int IntKind.i64 0), (Go.Value.int IntKind.i64 0), (Go.Value.int IntKind.i64 0), (Go.Value.int IntKind.i64 0), (Go.Value.int IntKind.i64 0), (Go.Value.int IntKind.i64 0), (Go.Value.int IntKind.i64 0), (Go.Value.int IntKind.i64 0), (Go.Value.int IntKind.i64 0), (Go.Value.int IntKind.i64 0)] := by kernel_rfl
theorem Yb_tO3 : tyZero cx.P 3 = some [(Go.Value.int IntKind.i64 0)] := by kernel_rfl
theorem Yb_tZ3 : tySize cx.P 3 = some 1 := by kernel_rfl
theorem Yb_tS3 : tySc cx.P 3 = true := by kernel_rfl
theorem Yb_tR58 : tyArr cx.P 58 = some (30, 3, 1) := by kernel_rfl
theorem Yb_tC29 : callable cx.P 29 = true := by kernel_rfl
theorem Yb_tA58 : tyAgg cx.P 58 = some 30 := by kernel_rfl
theorem Yb_tZ58 : tySize cx.P 58 = some 30 := by kernel_rfl
theorem Yb_tC23 : callable cx.P 23 = true := by kernel_rfl
theorem Yb_tF24_0 : tyField cx.P 24 0 = some (0, 3) := by kernel_rfl
theorem Yb_tO54 : tyZero cx.P 54 = some [(Go.Value.string {data := #[]}), (Go.Value.string {data := #[]})] := by kernel_rfl
theorem Yb_tC20 : callable cx.P 20 = true := by kernel_rfl
theorem Yb_tP54 : tyPlaces cx.P 54 = some (fun i => (#[(0, 1), (1, 1)] : Array (Nat × Nat))[i]?) := by kernel_rfl
theorem Yb_tZ54 : tySize cx.P 54 = some 2 := by kernel_rfl
theorem Yb_tA54 : tyAgg cx.P 54 = some 2 := by kernel_rfl
theorem c_primes  : ECalls cx 23 [] (AV.agg (ns .i64 P30)) := by
  refine ecalls_of_awp Tryd.func23 (c := _) rfl (Nat.le_of_ble_eq_true rfl) ?_
  show awp cx 20 _ (postF cx Tryd.f23 _) ⟨[], []⟩
  refine awp_seq fun K0 hK0 => ?_
  refine awp_region rfl ?_
  refine o_alloc 2 [(nm .i64 (0)), (nm .i64 (0)), (nm .i64 (0)), (nm .i64 (0)), (nm .i64 (0)), (nm .i64 (0)), (nm .i64 (0)), (nm .i64 (0)), (nm .i64 (0)), (nm .i64 (0)), (nm .i64 (0)), (nm .i64 (0)), (nm .i64 (0)), (nm .i64 (0)), (nm .i64 (0)), (nm .i64 (0)), (nm .i64 (0)), (nm .i64 (0)), (nm .i64 (0)), (nm .i64 (0)), (nm .i64 (0)), (nm .i64 (0)), (nm .i64 (0)), (nm .i64 (0)), (nm .i64 (0)), (nm .i64 (0)), (nm .i64 (0)), (nm .i64 (0)), (nm .i64 (0)), (nm .i64 (0))] Gd.none Yb_tO58 rfl rfl rfl ?_
  refine aops_end ?_
  refine hK0 _ ?_
  refine awp_seq fun K1 hK1 => ?_
  refine awp_region rfl ?_
  refine o_alloc 3 [(nm .i64 (0)), (nm .i64 (0)), (nm .i64 (0)), (nm .i64 (0)), (nm .i64 (0)), (nm .i64 (0)), (nm .i64 (0)), (nm .i64 (0)), (nm .i64 (0)), (nm .i64 (0)), (nm .i64 (0)), (nm .i64 (0)), (nm .i64 (0)), (nm .i64 (0)), (nm .i64 (0)), (nm .i64 (0)), (nm .i64 (0)), (nm .i64 (0)), (nm .i64 (0)), (nm .i64 (0)), (nm .i64 (0)), (nm .i64 (0)), (nm .i64 (0)), (nm .i64 (0)), (nm .i64 (0)), (nm .i64 (0)), (nm .i64 (0)), (nm .i64 (0)), (nm .i64 (0)), (nm .i64 (0))] Gd.none Yb_tO58 rfl rfl rfl ?_
  refine aops_end ?_
  refine hK1 _ ?_
  refine awp_seq fun K2 hK2 => ?_
  refine awp_region rfl ?_
  refine o_alloc 4 [(nm .i64 (0))] Gd.none Yb_tO3 rfl rfl rfl ?_
  refine o_store [(4, (AO.var 3 [(nm .i64 (1))])), (3, (AO.var 58 [(nm .i64 (0)), (nm .i64 (0)), (nm .i64 (0)), (nm .i64 (0)), (nm .i64 (0)), (nm .i64 (0)), (nm .i64 (0)), (nm .i64 (0)), (nm .i64 (0)), (nm .i64 (0)), (nm .i64 (0)), (nm .i64 (0)), (nm .i64 (0)), (nm .i64 (0)), (nm .i64 (0)), (nm .i64 (0)), (nm .i64 (0)), (nm .i64 (0)), (nm .i64 (0)), (nm .i64 (0)), (nm .i64 (0)), (nm .i64 (0)), (nm .i64 (0)), (nm .i64 (0)), (nm .i64 (0)), (nm .i64 (0)), (nm .i64 (0)), (nm .i64 (0)), (nm .i64 (0)), (nm .i64 (0))])), (2, (AO.var 58 [(nm .i64 (0)), (nm .i64 (0)), (nm .i64 (0)), (nm .i64 (0)), (nm .i64 (0)), (nm .i64 (0)), (nm .i64 (0)), (nm .i64 (0)), (nm .i64 (0)), (nm .i64 (0)), (nm .i64 (0)), (nm .i64 (0)), (nm .i64 (0)), (nm .i64 (0)), (nm .i64 (0)), (nm .i64 (0)), (nm .i64 (0)), (nm .i64 (0)), (nm .i64 (0)), (nm .i64 (0)), (nm .i64 (0)), (nm .i64 (0)), (nm .i64 (0)), (nm .i64 (0)), (nm .i64 (0)), (nm .i64 (0)), (nm .i64 (0)), (nm .i64 (0)), (nm .i64 (0)), (nm .i64 (0))]))] Gd.none Yb_tZ3 rfl rfl rfl rfl rfl rfl ?_
  refine aops_end ?_
  refine hK2 _ ?_
  refine awp_seq fun K3 hK3 => ?_
  refine awp_seq fun K4 hK4 => ?_
  refine awp_region rfl ?_
  refine o_mv (nm .i64 (0)) rfl ?_
  refine aops_end ?_
  refine hK4 _ ?_
  refine awp_block ?_
  refine awp_loopR (fun κ σ => ∃ (i : Nat), (i ≤ 30) ∧ (30 - i) = κ ∧ σ = ⟨[(0, (AV.ref 2 (0))), (1, (AV.ref 3 (0))), (2, (AV.ref 4 (0))), (4, (nm .i64 (i)))], [(2, (AO.var 58 [(nm .i64 (0)), (nm .i64 (0)), (nm .i64 (0)), (nm .i64 (0)), (nm .i64 (0)), (nm .i64 (0)), (nm .i64 (0)), (nm .i64 (0)), (nm .i64 (0)), (nm .i64 (0)), (nm .i64 (0)), (nm .i64 (0)), (nm .i64 (0)), (nm .i64 (0)), (nm .i64 (0)), (nm .i64 (0)), (nm .i64 (0)), (nm .i64 (0)), (nm .i64 (0)), (nm .i64 (0)), (nm .i64 (0)), (nm .i64 (0)), (nm .i64 (0)), (nm .i64 (0)), (nm .i64 (0)), (nm .i64 (0)), (nm .i64 (0)), (nm .i64 (0)), (nm .i64 (0)), (nm .i64 (0))])), (3, (AO.var 58 (ns .i64 (arr i)))), (4, (AO.var 3 [(nm .i64 (prv i))]))]⟩) ⟨_, _, ⟨0, (by omega), rfl, rfl⟩, ?wk0⟩ ?rd0
  case wk0 =>
    exact Wk.sub (And.intro rfl (And.intro rfl (And.intro rfl (And.intro (by first | rfl | exact congrArg (nm _) (by omega) | exact nm_int (by omega) | exact nm_int (by simp [IntKind.wrap, IntKind.bits, IntKind.signed]; omega)) (trivial))))) (And.intro (by first | rfl | (first | (show some (AO.var _ (ns .i64 ((arr i).set i n))) = some (AO.var _ (ns .i64 (arr (i + 1)))); rw [hnE, arr_set i (by omega)]) | (rw [hnE]; rfl))) (And.intro (by first | rfl | (first | (show some (AO.var _ (ns .i64 ((arr i).set i n))) = some (AO.var _ (ns .i64 (arr (i + 1)))); rw [hnE, arr_set i (by omega)]) | (rw [hnE]; rfl))) (And.intro (by first | rfl | (first | (show some (AO.var _ (ns .i64 ((arr i).set i n))) = some (AO.var _ (ns .i64 (arr (i + 1)))); rw [hnE, arr_set i (by omega)]) | (rw [hnE]; rfl))) (trivial))))
  rintro κ _ ⟨i, hi, rfl, rfl⟩
  refine awp_seq fun K5 hK5 => ?_
  refine awp_region rfl ?_
  refine n_lss (i) (30) Gd.none rfl rfl ?_
  refine aops_end ?_
  refine hK5 _ ?_
  refine awp_seq fun K6 hK6 => ?_
  refine awp_condQ (q := (i) < (30)) rfl (fun h1 => ?_) (fun h1 => ?_)
  · have hu := p30_up i h1
    have hal2 := arr_len hi
    refine awp_skip ?_
    refine hK6 _ ?_
    refine awp_seq fun K7 hK7 => ?_
    refine awp_block ?_
    refine awp_seq fun K8 hK8 => ?_
    refine awp_region rfl ?_
    refine o_mv (nm .i64 (i)) rfl ?_
    refine o_as (nm .i64 (i)) rfl ?_
    refine aops_end ?_
    refine hK8 _ ?_
    refine awp_seq fun K9 hK9 => ?_
    refine awp_seq fun K10 hK10 => ?_
    refine awp_region rfl ?_
    refine o_loadS (nm .i64 (prv i)) Gd.none Yb_tS3 rfl rfl rfl ?_
    refine n_add (prv i) (1) Gd.none rfl rfl (by simp only [topOf]; omega) ?_
    refine o_store [(2, (AO.var 58 [(nm .i64 (0)), (nm .i64 (0)), (nm .i64 (0)), (nm .i64 (0)), (nm .i64 (0)), (nm .i64 (0)), (nm .i64 (0)), (nm .i64 (0)), (nm .i64 (0)), (nm .i64 (0)), (nm .i64 (0)), (nm .i64 (0)), (nm .i64 (0)), (nm .i64 (0)), (nm .i64 (0)), (nm .i64 (0)), (nm .i64 (0)), (nm .i64 (0)), (nm .i64 (0)), (nm .i64 (0)), (nm .i64 (0)), (nm .i64 (0)), (nm .i64 (0)), (nm .i64 (0)), (nm .i64 (0)), (nm .i64 (0)), (nm .i64 (0)), (nm .i64 (0)), (nm .i64 (0)), (nm .i64 (0))])), (3, (AO.var 58 (ns .i64 (arr i)))), (4, (AO.var 3 [(nm .i64 ((prv i) + (1)))]))] Gd.none Yb_tZ3 rfl rfl rfl rfl rfl rfl ?_
    refine aops_end ?_
    refine hK10 _ ?_
    refine awp_block ?_
    refine awp_loopR (fun κ σ => ∃ (n : Nat), (prv i < n) ∧ (n ≤ P30.getD i 0) ∧ (114 - n) = κ ∧ σ = ⟨[(0, (AV.ref 2 (0))), (1, (AV.ref 3 (0))), (2, (AV.ref 4 (0))), (3, (nm .i64 (i))), (4, (nm .i64 (i)))], [(2, (AO.var 58 [(nm .i64 (0)), (nm .i64 (0)), (nm .i64 (0)), (nm .i64 (0)), (nm .i64 (0)), (nm .i64 (0)), (nm .i64 (0)), (nm .i64 (0)), (nm .i64 (0)), (nm .i64 (0)), (nm .i64 (0)), (nm .i64 (0)), (nm .i64 (0)), (nm .i64 (0)), (nm .i64 (0)), (nm .i64 (0)), (nm .i64 (0)), (nm .i64 (0)), (nm .i64 (0)), (nm .i64 (0)), (nm .i64 (0)), (nm .i64 (0)), (nm .i64 (0)), (nm .i64 (0)), (nm .i64 (0)), (nm .i64 (0)), (nm .i64 (0)), (nm .i64 (0)), (nm .i64 (0)), (nm .i64 (0))])), (3, (AO.var 58 (ns .i64 (arr i)))), (4, (AO.var 3 [(nm .i64 (n))]))]⟩) ⟨_, _, ⟨prv i + 1, (by omega), (by omega), rfl, rfl⟩, ?wk1⟩ ?rd1
    case wk1 =>
      exact Wk.sub (And.intro rfl (And.intro rfl (And.intro rfl (And.intro rfl (And.intro rfl (trivial)))))) (And.intro rfl (And.intro rfl (And.intro (by first | rfl | (first | (show some (AO.var _ (ns .i64 ((arr i).set i n))) = some (AO.var _ (ns .i64 (arr (i + 1)))); rw [hnE, arr_set i (by omega)]) | (rw [hnE]; rfl))) (trivial))))
    rintro κ _ ⟨n, hn1, hn2, rfl, rfl⟩
    have hal : ((arr i).take i).length ≤ 30 := by rw [arr_take hi, List.length_take]; omega
    have hap : ∀ p ∈ (arr i).take i, 0 < p := by rw [arr_take hi]; exact fun p hp => p30_pos p (List.mem_of_mem_take hp)
    refine awp_seq fun K11 hK11 => ?_
    refine awp_seq fun K12 hK12 => ?_
    refine awp_region rfl ?_
    refine o_mv (nm .i64 (i)) rfl ?_
    refine n_sliceArr (0) (i) (0) (i) Gd.none Yb_tR58 rfl rfl rfl rfl (hi_nm rfl) (by omega) (by omega) (by first | rfl | simp) (by first | rfl | omega) ?_
    refine o_makeFunc [(AV.ref 4 (0))] Gd.none rfl ?_
    refine o_callV [(3, (AO.var 58 (ns .i64 (arr i)))), (4, (AO.var 3 [(nm .i64 (n))]))] [(AV.sl 1 (ns .i64 ((arr i).take (i)))), (AV.clo 43 [(AV.ip [(nm .i64 (n))])])] (.bool (decide (∃ x ∈ ((arr i).take (i)), (fun (p : Nat) => (n) % p = 0) x))) Gd.none Yb_tC29 rfl (And.intro rfl (And.intro (closedL_ns _ _) (And.intro rfl (And.intro rfl (trivial))))) rfl (by show [AV.frzV 4 _ (AV.frzV 3 _ (AV.vw 3 0 1 i)), _] = _; rw [frzV_vw (by omega)]; rfl) (c_hasPrm (n) ((arr i).take (i)) (by first | omega | assumption) (by assumption)) ?_
    refine aops_end ?_
    refine hK12 _ ?_
    refine awp_condQ (q := ∃ x ∈ ((arr i).take (i)), (fun (p : Nat) => (n) % p = 0) x) rfl (fun h2 => ?_) (fun h2 => ?_)
    · refine awp_skip ?_
      refine hK11 _ ?_
      refine awp_seq fun K13 hK13 => ?_
      refine awp_block ?_
      refine awp_skip ?_
      refine hK13 _ ?_
      refine awp_region rfl ?_
      refine o_loadS (nm .i64 (n)) Gd.none Yb_tS3 rfl rfl rfl ?_
      refine n_add (n) (1) Gd.none rfl rfl (by simp only [topOf]; omega) ?_
      refine o_store [(2, (AO.var 58 [(nm .i64 (0)), (nm .i64 (0)), (nm .i64 (0)), (nm .i64 (0)), (nm .i64 (0)), (nm .i64 (0)), (nm .i64 (0)), (nm .i64 (0)), (nm .i64 (0)), (nm .i64 (0)), (nm .i64 (0)), (nm .i64 (0)), (nm .i64 (0)), (nm .i64 (0)), (nm .i64 (0)), (nm .i64 (0)), (nm .i64 (0)), (nm .i64 (0)), (nm .i64 (0)), (nm .i64 (0)), (nm .i64 (0)), (nm .i64 (0)), (nm .i64 (0)), (nm .i64 (0)), (nm .i64 (0)), (nm .i64 (0)), (nm .i64 (0)), (nm .i64 (0)), (nm .i64 (0)), (nm .i64 (0))])), (3, (AO.var 58 (ns .i64 (arr i)))), (4, (AO.var 3 [(nm .i64 ((n) + (1)))]))] Gd.none Yb_tZ3 rfl rfl rfl rfl rfl rfl ?_
      refine aops_end ?_
      refine ⟨_, _, ?lt, ⟨n + 1, (by omega), (by have hne : n ≠ P30.getD i 0 := fun e => p30_miss i h1 (by rw [← arr_take hi, ← e]; exact h2); omega), rfl, rfl⟩, ?wk⟩
      case lt => omega
      case wk => exact Wk.sub (And.intro rfl (And.intro rfl (And.intro rfl (And.intro rfl (And.intro rfl (trivial)))))) (And.intro rfl (And.intro rfl (And.intro (by first | rfl | (first | (show some (AO.var _ (ns .i64 ((arr i).set i n))) = some (AO.var _ (ns .i64 (arr (i + 1)))); rw [hnE, arr_set i (by omega)]) | (rw [hnE]; rfl))) (trivial))))
    · have hnE : n = P30.getD i 0 := Nat.le_antisymm hn2 (Nat.not_lt.1 fun e => h2 (by rw [arr_take hi]; exact p30_hit i h1 n (by omega) hn1 e))
      refine awp_exit ?_
      refine hK9 _ ?_
      refine awp_region rfl ?_
      refine o_mv (nm .i64 (i)) rfl ?_
      refine o_loadS (nm .i64 (n)) Gd.none Yb_tS3 rfl rfl rfl ?_
      refine n_indexArr (i) (i) Gd.none Yb_tR58 rfl rfl (by omega) (by first | rfl | simp) ?_
      refine n_storeArr (arr i) (i) (n) [(2, (AO.var 58 [(nm .i64 (0)), (nm .i64 (0)), (nm .i64 (0)), (nm .i64 (0)), (nm .i64 (0)), (nm .i64 (0)), (nm .i64 (0)), (nm .i64 (0)), (nm .i64 (0)), (nm .i64 (0)), (nm .i64 (0)), (nm .i64 (0)), (nm .i64 (0)), (nm .i64 (0)), (nm .i64 (0)), (nm .i64 (0)), (nm .i64 (0)), (nm .i64 (0)), (nm .i64 (0)), (nm .i64 (0)), (nm .i64 (0)), (nm .i64 (0)), (nm .i64 (0)), (nm .i64 (0)), (nm .i64 (0)), (nm .i64 (0)), (nm .i64 (0)), (nm .i64 (0)), (nm .i64 (0)), (nm .i64 (0))])), (3, (AO.var 58 (ns .i64 ((arr i).set (i) (n))))), (4, (AO.var 3 [(nm .i64 (n))]))] Gd.none Yb_tZ3 rfl rfl rfl (by omega) rfl ?_
      refine aops_end ?_
      refine hK7 _ ?_
      refine awp_region rfl ?_
      refine n_add (i) (1) Gd.none rfl rfl (by simp only [topOf]; omega) ?_
      refine o_mv (nm .i64 ((i) + (1))) rfl ?_
      refine aops_end ?_
      refine ⟨_, _, ?lt, ⟨i + 1, (by omega), rfl, rfl⟩, ?wk⟩
      case lt => omega
      case wk => exact Wk.sub (And.intro rfl (And.intro rfl (And.intro rfl (And.intro (by first | rfl | exact congrArg (nm _) (by omega) | exact nm_int (by omega) | exact nm_int (by simp [IntKind.wrap, IntKind.bits, IntKind.signed]; omega)) (trivial))))) (And.intro rfl (And.intro (by first | rfl | (first | (show some (AO.var _ (ns .i64 ((arr i).set i n))) = some (AO.var _ (ns .i64 (arr (i + 1)))); rw [hnE, arr_set i (by omega)]) | (rw [hnE]; rfl))) (And.intro (by first | rfl | (first | (show some (AO.var _ (ns .i64 ((arr i).set i n))) = some (AO.var _ (ns .i64 (arr (i + 1)))); rw [hnE, arr_set i (by omega)]) | (rw [hnE]; rfl))) (trivial))))
  · have hal2 := arr_len hi
    refine awp_exit ?_
    refine hK3 _ ?_
    refine awp_seq fun K14 hK14 => ?_
    refine awp_region rfl ?_
    refine n_loadArrA (arr i) Gd.none Yb_tA58 rfl rfl (by exact hal2) ?_
    refine n_as (v' := (AV.agg (ns .i64 (P30)))) (by rw [show i = 30 by omega]; rfl) ?_
    refine n_storeArrA (P30) [(2, (AO.var 58 (ns .i64 (P30)))), (3, (AO.var 58 (ns .i64 (arr i)))), (4, (AO.var 3 [(nm .i64 (prv i))]))] Gd.none Yb_tZ58 rfl rfl rfl (by rfl) rfl rfl ?_
    refine aops_end ?_
    refine hK14 _ ?_
    refine awp_ret ?_
    refine post_ret ⟨[(AV.agg (ns .i64 (P30)))], And.intro ⟨2, (AO.var 58 (ns .i64 (P30))), rfl, rfl, rfl, Or.inl ⟨Yb_tA58, AV.le_refl _⟩⟩ (trivial), rfl, ?_⟩
    rfl

theorem c_own (m : Mac) (z : Int) (h0 : 0 ≤ m.regs + 2 * z) (h1 : m.regs + 2 * z < 30) (h2 : 0 ≤ m.regs) (h3 : m.regs ≤ 4) : ECalls cx 21 [(macV m), (AV.lit (.int .i64 (z)))] (nm .i64 (ownP m z)) := by
  refine ecalls_of_awp Tryd.func21 (c := _) rfl (Nat.le_of_ble_eq_true rfl) ?_
  show awp cx 12 _ (postF cx Tryd.f21 _) ⟨[(0, (macV m)), (1, (AV.lit (.int .i64 (z))))], []⟩
  refine awp_seq fun K0 hK0 => ?_
  refine awp_region rfl ?_
  refine o_box 2 [(AV.lit (.int .i64 (m.regs))), (AV.sl 4 (gcells cI (m.code)))] Gd.none rfl rfl ?_
  refine o_as (nm .i64 (0)) rfl ?_
  refine aops_end ?_
  refine hK0 _ ?_
  refine awp_seq fun K1 hK1 => ?_
  refine awp_regionD rfl ?_
  refine o_ct c_primes Gd.none Yb_tC23 rfl ?_
  refine o_fieldRef 0 Gd.none Yb_tF24_0 rfl rfl ?_
  refine o_loadS (AV.lit (.int .i64 (m.regs))) Gd.none Yb_tS3 rfl rfl rfl ?_
  refine o_mv (AV.lit (.int .i64 (z))) rfl ?_
  refine o_mul (a := (((2 : Nat) : Int))) (c := (z)) Gd.none rfl rfl (by exact wrap64 (by omega) (by omega)) ?_
  refine o_add (a := (m.regs)) (c := ((((2 : Nat) : Int)) * (z))) Gd.none rfl rfl (by exact wrap64 (by omega) (by omega)) ?_
  refine n_as (v' := (nm .i64 ((m.regs + 2 * z).toNat))) (nm_int (by omega)) ?_
  refine n_indexAgg (P30) ((m.regs + 2 * z).toNat) Gd.none Yb_tR58 Yb_tS3 rfl rfl (by rfl) (by omega) ?_
  refine o_as (nm .i64 ((P30).getD ((m.regs + 2 * z).toNat) 0)) rfl ?_
  refine aops_end ⟨by kernel_rfl, ?_⟩
  refine hK1 _ ?_
  refine awp_ret ?_
  refine post_ret ⟨[(nm .i64 ((P30).getD ((m.regs + 2 * z).toNat) 0))], And.intro (AV.le_refl _) (trivial), rfl, ?_⟩
  rfl

theorem c_twin (m : Mac) (z : Int) (h0 : 0 ≤ m.regs + 2 * z) (h1 : m.regs + 2 * z < 29) (h2 : 0 ≤ m.regs) (h3 : m.regs ≤ 4) : ECalls cx 32 [(macV m), (AV.lit (.int .i64 (z)))] (nm .i64 (twnP m z)) := by
  refine ecalls_of_awp Tryd.func32 (c := _) rfl (Nat.le_of_ble_eq_true rfl) ?_
  show awp cx 13 _ (postF cx Tryd.f32 _) ⟨[(0, (macV m)), (1, (AV.lit (.int .i64 (z))))], []⟩
  refine awp_seq fun K0 hK0 => ?_
  refine awp_region rfl ?_
  refine o_box 2 [(AV.lit (.int .i64 (m.regs))), (AV.sl 4 (gcells cI (m.code)))] Gd.none rfl rfl ?_
  refine o_as (nm .i64 (0)) rfl ?_
  refine aops_end ?_
  refine hK0 _ ?_
  refine awp_seq fun K1 hK1 => ?_
  refine awp_regionD rfl ?_
  refine o_ct c_primes Gd.none Yb_tC23 rfl ?_
  refine o_fieldRef 0 Gd.none Yb_tF24_0 rfl rfl ?_
  refine o_loadS (AV.lit (.int .i64 (m.regs))) Gd.none Yb_tS3 rfl rfl rfl ?_
  refine o_mv (AV.lit (.int .i64 (z))) rfl ?_
  refine o_mul (a := (((2 : Nat) : Int))) (c := (z)) Gd.none rfl rfl (by exact wrap64 (by omega) (by omega)) ?_
  refine o_add (a := (m.regs)) (c := ((((2 : Nat) : Int)) * (z))) Gd.none rfl rfl (by exact wrap64 (by omega) (by omega)) ?_
  refine o_add (a := ((m.regs) + ((((2 : Nat) : Int)) * (z)))) (c := (((1 : Nat) : Int))) Gd.none rfl rfl (by exact wrap64 (by omega) (by omega)) ?_
  refine n_as (v' := (nm .i64 ((m.regs + 2 * z + 1).toNat))) (nm_int (by omega)) ?_
  refine n_indexAgg (P30) ((m.regs + 2 * z + 1).toNat) Gd.none Yb_tR58 Yb_tS3 rfl rfl (by rfl) (by omega) ?_
  refine o_as (nm .i64 ((P30).getD ((m.regs + 2 * z + 1).toNat) 0)) rfl ?_
  refine aops_end ⟨by kernel_rfl, ?_⟩
  refine hK1 _ ?_
  refine awp_ret ?_
  refine post_ret ⟨[(nm .i64 ((P30).getD ((m.regs + 2 * z + 1).toNat) 0))], And.intro (AV.le_refl _) (trivial), rfl, ?_⟩
  rfl

theorem c_frac (a b : Nat) (ha : a ≤ 9223372036854775807) (hb : b ≤ 9223372036854775807) : ECalls cx 31 [(nm .i64 (a)), (nm .i64 (b))] (.agg [.lit (.string (txt ((a : Nat) : Int))), .lit (.string (txt ((b : Nat) : Int)))]) := by
  refine ecalls_of_awp Tryd.func31 (c := _) rfl (Nat.le_of_ble_eq_true rfl) ?_
  show awp cx 10 _ (postF cx Tryd.f31 _) ⟨[(0, (nm .i64 (a))), (1, (nm .i64 (b)))], []⟩
  refine awp_seq fun K0 hK0 => ?_
  refine awp_region rfl ?_
  refine o_alloc 2 [(AV.lit (.string (({data := #[]} : ByteArray)))), (AV.lit (.string (({data := #[]} : ByteArray))))] Gd.none Yb_tO54 rfl rfl rfl ?_
  refine aops_end ?_
  refine hK0 _ ?_
  refine awp_seq fun K1 hK1 => ?_
  refine awp_region rfl ?_
  refine o_mv (nm .i64 (a)) rfl ?_
  refine o_ct (c_itoa (a) (by omega)) Gd.none Yb_tC20 rfl ?_
  refine o_mv (nm .i64 (b)) rfl ?_
  refine o_ct (c_itoa (b) (by omega)) Gd.none Yb_tC20 rfl ?_
  refine o_build [(AV.lit (.string (txt ((a : Nat) : Int)))), (AV.lit (.string (txt ((b : Nat) : Int))))] [(0, [(AV.lit (.string (txt ((a : Nat) : Int))))]), (1, [(AV.lit (.string (txt ((b : Nat) : Int))))])] Gd.none Yb_tP54 Yb_tO54 rfl rfl rfl ?_
  refine o_store [(2, (AO.var 54 [(AV.lit (.string (txt ((a : Nat) : Int)))), (AV.lit (.string (txt ((b : Nat) : Int))))]))] Gd.none Yb_tZ54 rfl rfl rfl rfl rfl rfl ?_
  refine aops_end ?_
  refine hK1 _ ?_
  refine awp_ret ?_
  refine post_ret ⟨[(AV.agg [(AV.lit (.string (txt ((a : Nat) : Int)))), (AV.lit (.string (txt ((b : Nat) : Int))))])], And.intro ⟨2, (AO.var 54 [(AV.lit (.string (txt ((a : Nat) : Int)))), (AV.lit (.string (txt ((b : Nat) : Int))))]), rfl, rfl, rfl, Or.inl ⟨Yb_tA54, AV.le_refl _⟩⟩ (trivial), rfl, ?_⟩
  rfl

end Go.Proofs.YtnejjdcbbminaaaDoor

set_option linter.unusedVariables false
set_option linter.unusedSimpArgs false
namespace Go.Mth
open Go.Ab
variable {a b c : ByteArray}
theorem ok_zero : okS ⟨#[48]⟩ = true ∧ numS ⟨#[48]⟩ = 0 := ok_of_txt txt_nil (by decide)
noncomputable abbrev gG (a b : ByteArray) : ByteArray := if okS a && okS b then toldS ((Int.gcd (numS a) (numS b) : Nat) : Int) else { data := #[] }
theorem gcd_fit {x y : Int} (hx : Fit x) (hy : Fit y) : Fit ((Int.gcd x y : Nat) : Int) := by
  rcases Nat.eq_zero_or_pos x.natAbs with e | e
  · refine fit_le ?_ hy
    show Nat.gcd x.natAbs y.natAbs ≤ _
    rw [e, Nat.gcd_zero_left]
    exact Nat.le_refl _
  · exact fit_le (Nat.gcd_le_left y.natAbs e) hx
end Go.Mth

set_option linter.unusedVariables false
set_option linter.unusedSimpArgs false
namespace Go.Mth
open Go.Ab
theorem txt_sz2 {z : Int} (h : Fit z) : (txt z).size ≤ 9223372036854775807 := by have := told_sz z; rwa [(told_fit h).1] at this
end Go.Mth

set_option linter.unusedVariables false
set_option linter.unusedSimpArgs false
namespace Go.Mth
open Go.Ab
noncomputable def posE (a : ByteArray) : Nat := if okS a = true then (if 0 < numS a then 0 else 2) else 1
theorem posE_0 {a : ByteArray} : posE a = 0 ↔ okS a = true ∧ 0 < numS a := by
  unfold posE
  by_cases h : okS a = true <;> by_cases h2 : 0 < numS a <;> simp [h, h2]
theorem cmp_0 (a : ByteArray) (h : okS a = true) : (if okS a && okS ⟨#[48]⟩ then cmpZ (numS a) (numS ⟨#[48]⟩) else 0) = cmpZ (numS a) 0 := by
  rw [if_pos (by rw [h, ok_zero.1]; rfl), ok_zero.2]
theorem cmpZ_le {x y : Int} : cmpZ x y ≤ 0 ↔ x ≤ y := by unfold cmpZ; repeat' split <;> omega
def redP (f : Frc) : Prop := (okS f.num = true ∧ 0 < numS f.num) ∧ (okS f.den = true ∧ 0 < numS f.den) ∧ Int.gcd (numS f.num) (numS f.den) = 1
noncomputable instance (f : Frc) : Decidable (redP f) := by unfold redP; infer_instance
def lstP (l : List Frc) : Prop := l.length ≤ 100 ∧ ∀ f ∈ l, redP f
noncomputable instance (l : List Frc) : Decidable (lstP l) := by unfold lstP; infer_instance
noncomputable def askE (l : List Frc) (n : ByteArray) : Nat := if lstP l then posE n else 1
theorem askE_0 {l : List Frc} {n : ByteArray} : askE l n = 0 ↔ lstP l ∧ okS n = true ∧ 0 < numS n := by
  unfold askE
  by_cases h : lstP l
  · rw [if_pos h, posE_0]; exact ⟨fun e => ⟨h, e⟩, fun e => e.2⟩
  · rw [if_neg h]; exact ⟨fun e => absurd e (by decide), fun e => absurd e.1 h⟩
theorem gcd_str {a b : ByteArray} (h : okS a = true ∧ okS b = true) : (if okS a && okS b then toldS ((Int.gcd (numS a) (numS b) : Nat) : Int) else ({ data := #[] } : ByteArray)) = txt ((Int.gcd (numS a) (numS b) : Nat) : Int) := by
  rw [if_pos (by rw [h.1, h.2]; rfl)]
  exact (told_fit (gcd_fit (fit_numS (okS_iff.1 h.1)) (fit_numS (okS_iff.1 h.2)))).1
theorem gcd_one {a b : ByteArray} (h : okS a = true ∧ okS b = true) : (if okS a && okS b then toldS ((Int.gcd (numS a) (numS b) : Nat) : Int) else ({ data := #[] } : ByteArray)).toList = ByteArray.toList ⟨#[49]⟩ ↔ Int.gcd (numS a) (numS b) = 1 := by
  rw [gcd_str h, str_eq, ← txt_one]
  exact ⟨fun e => by have := txt_inj e; omega, fun e => by rw [e]; rfl⟩
theorem mul_str {a b : ByteArray} (h : okS a = true ∧ okS b = true) : (if okS a && okS b then toldS (numS a * numS b) else ({ data := #[] } : ByteArray)) = toldS (numS a * numS b) ∧ (if okS a && okS b then toldE (numS a * numS b) else 1) = toldE (numS a * numS b) :=
  ⟨if_pos (by rw [h.1, h.2]; rfl), if_pos (by rw [h.1, h.2]; rfl)⟩
def hitP (z : Int) (f : Frc) : Prop := z % numS f.den = 0
instance (z : Int) (f : Frc) : Decidable (hitP z f) := by unfold hitP; infer_instance
def fstI (l : List Frc) (z : Int) : Int := ixP (hitP z) l
def fstS (l : List Frc) (z : Int) : ByteArray := if ∃ f ∈ l, hitP z f then txt (z / numS (l.getD (fstI l z).toNat default).den) else { data := #[] }
theorem fst_hit {l : List Frc} {z : Int} {i : Nat} (hi : i < l.length) (h : hitP z (l.getD i default)) (hb : ∀ k, k < i → ¬ hitP z (l.getD k default)) : fstI l z = (i : Int) ∧ fstS l z = txt (z / numS (l.getD i default).den) := by
  have e : fstI l z = (i : Int) := ixP_hit hi h hb
  refine ⟨e, ?_⟩
  unfold fstS
  rw [if_pos (some_of hi h), e, Int.toNat_natCast]
theorem fst_none {l : List Frc} {z : Int} {i : Nat} (hi : l.length ≤ i) (hb : ∀ k, k < i → ¬ hitP z (l.getD k default)) : fstI l z = -1 ∧ fstS l z = { data := #[] } := by
  refine ⟨ixP_none hi hb, ?_⟩
  unfold fstS
  rw [if_neg (none_of hi fun k hk _ => hb k hk)]
theorem hit_str {l : List Frc} {i : Nat} {n : ByteArray} (hl : lstP l) (hn : okS n = true) (hi : i < l.length) : divQ n (l.getD i default).den = txt (numS n / numS (l.getD i default).den) ∧ ((divR n (l.getD i default).den).toList = ByteArray.toList ⟨#[48]⟩ ↔ hitP (numS n) (l.getD i default)) := by
  have h := (hl.2 _ (gdm (d := default) hi)).2.1
  obtain ⟨e1, e2, _⟩ := div_yes ⟨hn, h.1⟩ h.2
  refine ⟨e1, ?_⟩
  rw [e2, str_eq, ← txt_zero]
  exact ⟨fun e => txt_inj e, fun e => by rw [show numS n % numS (l.getD i default).den = 0 from e]⟩
theorem fstI_nn {l : List Frc} {z : Int} : (∃ f ∈ l, hitP z f) ↔ 0 ≤ fstI l z := ixP_nn
theorem fstI_bd {l : List Frc} {z : Int} (h : 0 ≤ fstI l z) : (fstI l z).toNat < l.length ∧ hitP z (l.getD (fstI l z).toNat default) := by
  have hx : ∃ x ∈ l, hitP z x := fstI_nn.2 h
  have e : fstI l z = (l.findIdx (fun x => decide (hitP z x)) : Int) := if_pos hx
  have hlt : l.findIdx (fun x => decide (hitP z x)) < l.length := by
    obtain ⟨x, hx, hp⟩ := hx
    exact List.findIdx_lt_length_of_exists ⟨x, hx, by simpa using hp⟩
  rw [e, Int.toNat_natCast]
  refine ⟨hlt, ?_⟩
  have := List.findIdx_getElem (w := hlt)
  rw [List.getD_eq_getElem?_getD, List.getElem?_eq_getElem hlt]
  simpa using this
noncomputable def firI (l : List Frc) (n : ByteArray) : Int := if askE l n = 0 ∧ 0 ≤ fstI l (numS n) then fstI l (numS n) else 0
noncomputable def firE (l : List Frc) (n : ByteArray) : Nat := if askE l n = 0 then (if 0 ≤ fstI l (numS n) then 0 else 4) else askE l n
def nxF (l : List Frc) (z : Int) : Int := z / numS (l.getD (fstI l z).toNat default).den * numS (l.getD (fstI l z).toNat default).num
noncomputable def ply (l : List Frc) : Nat → Int → Nat → ByteArray × Nat × Nat
  | 0, z, c => (txt z, c, 0)
  | k + 1, z, c => if 0 ≤ fstI l z then (if Fit (nxF l z) then ply l k (nxF l z) (c + 1) else ({ data := #[] }, 0, 3)) else (txt z, c, 0)
noncomputable def plyA (l : List Frc) (n : ByteArray) (k : Int) : ByteArray × Nat × Nat := if askE l n = 0 then (if 0 ≤ k ∧ k ≤ 20000 then ply l k.toNat (numS n) 0 else ({ data := #[] }, 0, 2)) else ({ data := #[] }, 0, askE l n)
theorem fst_str {l : List Frc} {z : Int} (hl : lstP l) (h : 0 ≤ fstI l z) (hz : 0 < z) (hf : Fit z) : fstS l z = txt (z / numS (l.getD (fstI l z).toNat default).den) ∧ Fit (z / numS (l.getD (fstI l z).toNat default).den) ∧ 0 < z / numS (l.getD (fstI l z).toNat default).den := by
  obtain ⟨h1, h2⟩ := fstI_bd h
  have h3 := (hl.2 _ (gdm (d := default) h1)).2.1.2
  refine ⟨if_pos (fstI_nn.2 h), fit_le ?_ hf, ?_⟩
  · rw [Int.natAbs_ediv_of_dvd (Int.dvd_of_emod_eq_zero h2)]; exact Nat.div_le_self _ _
  · exact Int.ediv_pos_of_pos_of_dvd hz (by omega) (Int.dvd_of_emod_eq_zero h2)
theorem ply_next {l : List Frc} {k i : Nat} {z : Int} (h : i < k) (hf : 0 ≤ fstI l z) (hF : Fit (nxF l z)) : ply l (k - i) z i = ply l (k - (i + 1)) (nxF l z) (i + 1) := by
  rw [show k - i = (k - (i + 1)) + 1 by omega]
  exact (if_pos hf).trans (if_pos hF)
theorem ply_big {l : List Frc} {k i : Nat} {z : Int} (h : i < k) (hf : 0 ≤ fstI l z) (hF : ¬ Fit (nxF l z)) : ply l (k - i) z i = ({ data := #[] }, 0, 3) := by
  rw [show k - i = (k - (i + 1)) + 1 by omega]
  exact (if_pos hf).trans (if_neg hF)
theorem ply_stop {l : List Frc} {k i : Nat} {z : Int} (h : i < k) (hf : ¬ 0 ≤ fstI l z) : ply l (k - i) z i = (txt z, i, 0) := by
  rw [show k - i = (k - (i + 1)) + 1 by omega]
  exact if_neg hf
theorem plyA_0 {l : List Frc} {n : ByteArray} {k : Int} (h : askE l n = 0) (h2 : 0 ≤ k ∧ k ≤ 20000) : plyA l n k = ply l k.toNat (numS n) 0 := (if_pos h).trans (if_pos h2)
theorem plyA_1 {l : List Frc} {n : ByteArray} {k : Int} (h : ¬ askE l n = 0) : plyA l n k = ({ data := #[] }, 0, askE l n) := if_neg h
theorem plyA_2 {l : List Frc} {n : ByteArray} {k : Int} (h : askE l n = 0) (h2 : ¬ (0 ≤ k ∧ k ≤ 20000)) : plyA l n k = ({ data := #[] }, 0, 2) := (if_pos h).trans (if_neg h2)
theorem tld_ok {z : Int} (h : ¬ toldE z ≠ 0) : Fit z := Decidable.not_not.1 fun e => h (by unfold toldE; rw [if_neg e]; decide)
theorem tld_big {z : Int} (h : toldE z ≠ 0) : ¬ Fit z := fun e => h (told_fit e).2
theorem tld_3 {z : Int} (h : ¬ Fit z) : toldE z = 3 := if_neg h
def cmX (o d : Int) : Int := o / ((Int.gcd o d : Nat) : Int) * d
noncomputable def com : List Frc → Int → ByteArray × Nat
  | [], o => (txt o, 0)
  | f :: r, o => if Fit (cmX o (numS f.den)) then com r (cmX o (numS f.den)) else ({ data := #[] }, 3)
noncomputable def comA (l : List Frc) : ByteArray × Nat := if lstP l then com l 1 else ({ data := #[] }, 1)
end Go.Mth

set_option linter.unusedVariables false
set_option linter.unusedSimpArgs false
namespace Go.Mth
open Go.Ab
theorem row_gs {α : Type} {e : TypeId} {n : Nat} {c : α → List AV} {xs ys : List α} (h : xs = ys) : (some (AO.row e n (gcells c xs)) : Option AO) = some (AO.row e n (gcells c ys)) := by rw [h]
theorem ownP_bd (m : Mac) (z : Int) : ownP m z ≤ 113 := p30_bd _
theorem twnP_bd (m : Mac) (z : Int) : twnP m z ≤ 113 := p30_bd _
def frc (a b : Nat) : Frc := ⟨txt ((a : Nat) : Int), txt ((b : Nat) : Int)⟩
def rgP (x : Ins) : Nat := P30.getD x.reg.toNat 0
def insF (m : Mac) (s : Nat) (x : Ins) : List Frc := if x.kind = 0 then [frc (twnP m x.next * rgP x) (ownP m s)] else [frc (twnP m x.next) (ownP m s * rgP x), frc (twnP m x.els) (ownP m s)]
def cmp1 (m : Mac) : Nat → List Frc
  | 0 => []
  | i + 1 => cmp1 m i ++ insF m i (m.code.getD i default)
def cmp2 (m : Mac) : Nat → List Frc
  | 0 => cmp1 m m.code.length
  | i + 1 => cmp2 m i ++ [frc (ownP m i) (twnP m i)]
def cmpR (m : Mac) : List Frc := if okMac m then cmp2 m (m.code.length + 1) else []
def cmpE (m : Mac) : Nat := if okMac m then 0 else 1
theorem cmp1_len (m : Mac) : ∀ i, (cmp1 m i).length ≤ 2 * i
  | 0 => Nat.le_refl _
  | i + 1 => by
    have := cmp1_len m i
    rw [cmp1, List.length_append]
    unfold insF
    split <;> simp <;> omega
theorem cmp2_len (m : Mac) : ∀ i, (cmp2 m i).length ≤ 2 * m.code.length + i
  | 0 => cmp1_len m _
  | i + 1 => by
    have := cmp2_len m i
    rw [cmp2, List.length_append, List.length_singleton]
    omega
theorem cmp1_a {m : Mac} {i : Nat} {x : Ins} (hx : m.code.getD i default = x) (h : x.kind = 0) : cmp1 m i ++ [frc (twnP m x.next * rgP x) (ownP m i)] = cmp1 m (i + 1) := by
  subst hx
  rw [cmp1, insF, if_pos h]
theorem cmp1_b {m : Mac} {i : Nat} {x : Ins} (hx : m.code.getD i default = x) (h : ¬ x.kind = 0) : cmp1 m i ++ [frc (twnP m x.next) (ownP m i * rgP x), frc (twnP m x.els) (ownP m i)] = cmp1 m (i + 1) := by
  subst hx
  rw [cmp1, insF, if_neg h]
def prdZ : Nat → List Int → Int
  | _, [] => 1
  | i, n :: r => ((P30.getD i 0 : Nat) : Int) ^ n.toNat * prdZ (i + 1) r
def numC (m : Mac) (c : Cfg) : Int := ((ownP m c.at' : Nat) : Int) * prdZ 0 c.regs
noncomputable def encS (m : Mac) (c : Cfg) : ByteArray := if okCfg m c then toldS (numC m c) else { data := #[] }
noncomputable def encE (m : Mac) (c : Cfg) : Nat := if okCfg m c then toldE (numC m c) else 1
theorem prd_pos : ∀ (l : List Int) (i : Nat), i + l.length ≤ 30 → 0 < prdZ i l
  | [], _, _ => by simp [prdZ]
  | n :: r, i, h => by
    have h' : i + 1 + r.length ≤ 30 := by simp at h; omega
    have h2 := p30_ge i (by simp at h; omega)
    exact Int.mul_pos (Int.pow_pos (by omega)) (prd_pos r (i + 1) h')
theorem prd_drop {l : List Int} {i j : Nat} (h : i < l.length) : prdZ j (l.drop i) = ((P30.getD j 0 : Nat) : Int) ^ (l.getD i 0).toNat * prdZ (j + 1) (l.drop (i + 1)) := by
  rw [List.drop_eq_getElem_cons h, show l.getD i 0 = l[i] by rw [List.getD_eq_getElem?_getD, List.getElem?_eq_getElem h]; rfl]
  rfl
theorem fit_113 {n : Nat} (h : n ≤ 113) : Fit ((n : Nat) : Int) := fit_of_pow (k := 3) (by rw [Int.natAbs_natCast]; omega) (by decide) (by decide)
theorem fit_mul_le {x y : Int} (hx : 0 < x) (hy : 0 < y) (h : Fit (x * y)) : Fit x ∧ Fit y := by
  have e : (x * y).natAbs = x.natAbs * y.natAbs := Int.natAbs_mul x y
  constructor
  · exact fit_le (by rw [e]; exact Nat.le_mul_of_pos_right _ (by omega)) h
  · exact fit_le (by rw [e]; exact Nat.le_mul_of_pos_left _ (by omega)) h
theorem pow_str {p : Nat} {n : Int} (hp : p ≤ 113) (h : 0 ≤ n ∧ n ≤ 1000) : powS (txt ((p : Nat) : Int)) n = toldS (((p : Nat) : Int) ^ n.toNat) ∧ powE (txt ((p : Nat) : Int)) n = toldE (((p : Nat) : Int) ^ n.toNat) := by
  have o := okS_iff.2 (okS_txt (fit_113 hp))
  have q : powIn n := by unfold powIn; omega
  unfold powS powE
  rw [if_pos ⟨o, q⟩, if_pos o, if_pos q, numS_txt]
  exact ⟨rfl, rfl⟩
end Go.Mth

set_option linter.unusedVariables false
set_option linter.unusedSimpArgs false
namespace Go.Mth
open Go Go.Ab
def digW (l : List Frc) : Nat → Int
  | 0 => 0
  | i + 1 => IntKind.wrap .i64 (IntKind.wrap .i64 (digW l i + (((l.getD i default).num.size : Nat) : Int)) + (((l.getD i default).den.size : Nat) : Int))
def lightP (l : List Frc) : Prop := l.length ≤ 2000 ∧ (100 < l.length ∨ digW l l.length ≤ 8000)
instance (l : List Frc) : Decidable (lightP l) := by unfold lightP; infer_instance
def adM : Mac := ⟨2, [⟨1, 0, 1, 2⟩, ⟨0, 1, 0, 0⟩]⟩
def exC : Cfg := ⟨0, [2, 1]⟩
def exP : List (Nat × Nat) := [(13, 10), (19, 5), (21, 11), (5, 7), (11, 13), (17, 19)]
def exF : List Frc := exP.map fun p => frc p.1 p.2
def exL : List Frc := [⟨⟨#[49, 51]⟩, ⟨#[49, 48]⟩⟩, ⟨⟨#[49, 57]⟩, ⟨#[53]⟩⟩, ⟨⟨#[50, 49]⟩, ⟨#[49, 49]⟩⟩, ⟨⟨#[53]⟩, ⟨#[55]⟩⟩, ⟨⟨#[49, 49]⟩, ⟨#[49, 51]⟩⟩, ⟨⟨#[49, 55]⟩, ⟨#[49, 57]⟩⟩]
theorem tx5 : txt 5 = ⟨#[53]⟩ := by simp [txt, txtL, decs, strN]; rfl
theorem tx7 : txt 7 = ⟨#[55]⟩ := by simp [txt, txtL, decs, strN]; rfl
theorem tx10 : txt 10 = ⟨#[49, 48]⟩ := by simp [txt, txtL, decs, strN]; rfl
theorem tx11 : txt 11 = ⟨#[49, 49]⟩ := by simp [txt, txtL, decs, strN]; rfl
theorem tx13 : txt 13 = ⟨#[49, 51]⟩ := by simp [txt, txtL, decs, strN]; rfl
theorem tx17 : txt 17 = ⟨#[49, 55]⟩ := by simp [txt, txtL, decs, strN]; rfl
theorem tx19 : txt 19 = ⟨#[49, 57]⟩ := by simp [txt, txtL, decs, strN]; rfl
theorem tx21 : txt 21 = ⟨#[50, 49]⟩ := by simp [txt, txtL, decs, strN]; rfl
theorem tx60 : txt 60 = ⟨#[54, 48]⟩ := by simp [txt, txtL, decs, strN]; rfl
theorem tx90 : txt 90 = ⟨#[57, 48]⟩ := by simp [txt, txtL, decs, strN]; rfl
theorem exF_L : exF = exL := by
  show [(⟨txt 13, txt 10⟩ : Frc), ⟨txt 19, txt 5⟩, ⟨txt 21, txt 11⟩, ⟨txt 5, txt 7⟩, ⟨txt 11, txt 13⟩, ⟨txt 17, txt 19⟩] = exL
  rw [tx13, tx10, tx19, tx5, tx21, tx11, tx7, tx17]
  rfl
theorem ad_ok : okMac adM := by decide
theorem ex_cmp : cmpR adM = exL ∧ cmpE adM = 0 := by
  refine ⟨?_, if_pos ad_ok⟩
  rw [← exF_L]
  exact (if_pos ad_ok).trans rfl
theorem ex_enc : encS adM exC = ⟨#[54, 48]⟩ ∧ encE adM exC = 0 := by
  have h : okCfg adM exC := by decide
  have e : numC adM exC = 60 := by decide
  have f : Fit 60 := fit_113 (n := 60) (by decide)
  refine ⟨?_, ?_⟩
  · rw [encS, if_pos h, e, (told_fit f).1, tx60]
  · rw [encE, if_pos h, e, (told_fit f).2]
theorem red_frc {a b : Nat} (ha : 0 < a ∧ a ≤ 113) (hb : 0 < b ∧ b ≤ 113) (hg : Nat.gcd a b = 1) : redP (frc a b) := by
  unfold redP frc
  simp only [numS_txt]
  exact ⟨⟨okS_iff.2 (okS_txt (fit_113 ha.2)), by omega⟩, ⟨okS_iff.2 (okS_txt (fit_113 hb.2)), by omega⟩, by rw [Int.gcd_natCast_natCast]; exact hg⟩
theorem ex_lst : lstP exL := by
  rw [← exF_L]
  refine ⟨by decide, fun f hf => ?_⟩
  obtain ⟨p, hp, rfl⟩ := List.mem_map.1 hf
  have : ∀ p ∈ exP, (0 < p.1 ∧ p.1 ≤ 113) ∧ (0 < p.2 ∧ p.2 ≤ 113) ∧ Nat.gcd p.1 p.2 = 1 := by decide
  exact red_frc (this p hp).1 (this p hp).2.1 (this p hp).2.2
theorem ex_sz : ∀ f ∈ exL, f.num.size ≤ 9223372036854775807 ∧ f.den.size ≤ 9223372036854775807 := by decide
theorem hit_frc (z : Int) (a b : Nat) : hitP z (frc a b) ↔ z % ((b : Nat) : Int) = 0 := by unfold hitP frc; simp only [numS_txt]
theorem ply_s {l : List Frc} {k c : Nat} {z w : Int} (h : 0 ≤ fstI l z) (e : nxF l z = w) (hF : Fit w) : ply l (k + 1) z c = ply l k w (c + 1) := by
  subst e
  exact (if_pos h).trans (if_pos hF)
theorem ex_hit {z w : Int} {i : Nat} (hi : i < 6) (h : z % (((exP.getD i (0, 0)).2 : Nat) : Int) = 0) (hb : ∀ k, k < i → ¬ z % (((exP.getD k (0, 0)).2 : Nat) : Int) = 0) (hw : z / (((exP.getD i (0, 0)).2 : Nat) : Int) * (((exP.getD i (0, 0)).1 : Nat) : Int) = w) : 0 ≤ fstI exF z ∧ nxF exF z = w := by
  have e : ∀ k, k < 6 → exF.getD k default = frc (exP.getD k (0, 0)).1 (exP.getD k (0, 0)).2 := by
    intro k hk
    match k, hk with
    | 0, _ => rfl
    | 1, _ => rfl
    | 2, _ => rfl
    | 3, _ => rfl
    | 4, _ => rfl
    | 5, _ => rfl
  obtain ⟨h1, h2⟩ := fst_hit (l := exF) (z := z) (i := i) (by rw [show exF.length = 6 from rfl]; exact hi) (by rw [e i hi, hit_frc]; exact h) (fun k hk => by rw [e k (by omega), hit_frc]; exact hb k hk)
  refine ⟨by rw [h1]; omega, ?_⟩
  unfold nxF
  rw [h1, Int.toNat_natCast, e i hi]
  show z / numS (txt _) * numS (txt _) = w
  rw [numS_txt, numS_txt]
  exact hw
theorem ex_ply : ply exF 4 60 0 = (txt 90, 4, 0) := by
  obtain ⟨a1, a2⟩ := ex_hit (z := 60) (w := 78) (i := 0) (by decide) (by decide) (by decide) (by decide)
  obtain ⟨b1, b2⟩ := ex_hit (z := 78) (w := 66) (i := 4) (by decide) (by decide) (by decide) (by decide)
  obtain ⟨c1, c2⟩ := ex_hit (z := 66) (w := 126) (i := 2) (by decide) (by decide) (by decide) (by decide)
  obtain ⟨d1, d2⟩ := ex_hit (z := 126) (w := 90) (i := 3) (by decide) (by decide) (by decide) (by decide)
  rw [ply_s a1 a2 (fit_113 (n := 78) (by decide)), ply_s b1 b2 (fit_113 (n := 66) (by decide)), ply_s c1 c2 (fit_of_pow (k := 3) (by decide) (by decide) (by decide)), ply_s d1 d2 (fit_113 (n := 90) (by decide))]
  rfl
theorem ex_play : plyA exL ⟨#[54, 48]⟩ 4 = (⟨#[57, 48]⟩, 4, 0) := by
  have h := ok_of_txt tx60 (by decide)
  rw [plyA_0 (askE_0.2 ⟨ex_lst, h.1, by rw [h.2]; decide⟩) (by decide), h.2, ← exF_L, ← tx90]
  exact ex_ply
end Go.Mth

set_option linter.unusedVariables false
set_option linter.unusedSimpArgs false
namespace Go.Mth
open Go Go.Ab
def redV (f : Frc) : Prop := (okS f.num = true ∧ okS f.den = true) ∧ 0 < numS f.den ∧ Int.gcd (numS f.num) (numS f.den) = 1
noncomputable instance (f : Frc) : Decidable (redV f) := by unfold redV; infer_instance
def nxV (l : List Frc) (z : Int) : Int := if 0 ≤ fstI l z then nxF l z else 0
def plyV (l : List Frc) : Nat → Int → Nat → Int → Int × Nat × Nat × Bool
  | 0, z, c, _ => (z, c, 0, true)
  | k + 1, z, c, w => if w - ((l.length : Int) + 1) * ((ndig z.natAbs : Int) + 20) < 0 then (0, 0, 0, false) else if 0 ≤ fstI l z then (if Fit (nxF l z) then plyV l k (nxF l z) (c + 1) (w - ((l.length : Int) + 1) * ((ndig z.natAbs : Int) + 20)) else (0, 0, 3, true)) else (z, c, 0, true)
def comR : List Frc → Int → Int
  | [], o => o
  | f :: r, o => if Fit o then comR r (cmX o (numS f.den)) else o
end Go.Mth

set_option linter.unusedVariables false
set_option linter.unusedSimpArgs false
namespace Go.Mth
open Go Go.Ab
def nodiv (p d : Nat) : Prop := ∀ e, e < d → 2 ≤ e → p % e ≠ 0
instance (p d : Nat) : Decidable (nodiv p d) := by unfold nodiv; infer_instance
theorem p30_cop : ∀ i < 30, ∀ j < 30, i ≠ j → Nat.gcd (P30.getD i 0) (P30.getD j 0) = 1 := by decide +kernel
def fineF (f : Frc) : Prop := redP f ∧ f.num.size ≤ 9223372036854775807 ∧ f.den.size ≤ 9223372036854775807
end Go.Mth

set_option linter.unusedVariables false
set_option linter.unusedSimpArgs false
namespace Go.Ab
theorem Wk.cells {C : Ctx} {n : Nat} {σ : St} {i ty : Nat} {cs cs' : List AV} (hs : lookO σ.objs i = some (.var ty cs)) (hl : LeL cs cs') : Wk C n σ ⟨σ.slots, (i, .var ty cs') :: σ.objs⟩ := fun w0 H L a w hr => by
  have conv : ∀ j o, lookO ((i, .var ty cs') :: σ.objs) j = some o → (j = i ∧ o = .var ty cs') ∨ (j ≠ i ∧ σ.sem.μ j = some o) := fun j o ho => by
    simp only [lookO] at ho
    by_cases h2 : j = i
    · subst h2
      simp at ho
      exact .inl ⟨rfl, ho.symm⟩
    · rw [beq_ne (fun e => h2 e.symm)] at ho
      exact .inr ⟨h2, ho⟩
  have hi0 := hr.objs i (.var ty cs) hs
  refine ⟨H, L, Ext.refl _ _, ⟨hr.glob, hr.heap, hr.size, hr.slot, fun j o ho => ?_, fun j k o o' g x x' hjk hj hk => ?_, hr.below, hr.defers⟩⟩
  · rcases conv j o ho with ⟨rfl, rfl⟩ | ⟨h1, h2⟩
    · obtain ⟨g, vs, a1, a2, a3, a4, a5, a6⟩ := hi0
      exact ⟨g, vs, a1, a2, hl.rep a3, a4, a5, a6⟩
    · exact hr.objs j o h2
  · have conv' : ∀ j o, lookO ((i, .var ty cs') :: σ.objs) j = some o → ∃ o', σ.sem.μ j = some o' := fun j o ho => by
      rcases conv j o ho with ⟨rfl, rfl⟩ | ⟨h1, h2⟩
      · exact ⟨_, hs⟩
      · exact ⟨_, h2⟩
    obtain ⟨o1, h1⟩ := conv' j o hj
    obtain ⟨o2, h2⟩ := conv' k o' hk
    exact hr.apart j k o1 o2 g x x' hjk h1 h2
end Go.Ab
namespace Go.Mth
open Go.Ab
def gC (a b : Nat) : Prop := ((digs a).getD ((digs a).length - 1) 0) ≤ ((digs b).getD ((digs b).length - 1) 0) ∧ 0 < (digs a).length - (digs b).length
instance (a b : Nat) : Decidable (gC a b) := inferInstanceAs (Decidable ((digs a).getD ((digs a).length - 1) 0 ≤ ((digs b).getD ((digs b).length - 1) 0) ∧ 0 < (digs a).length - (digs b).length))
def gSh (a b : Nat) : Nat := if gC a b then (digs a).length - (digs b).length - 1 else (digs a).length - (digs b).length
def gTop (a b : Nat) : Nat := if gC a b then ((digs a).getD ((digs a).length - 1) 0) * 1000000000 + (digs a).getD ((digs a).length - 2) 0 else ((digs a).getD ((digs a).length - 1) 0)
def gQ (a b : Nat) : Nat := max (gTop a b / ((digs b).getD ((digs b).length - 1) 0 + 1)) 1
def guessN (a b : Nat) : Nat := 1000000000 ^ gSh a b * gQ a b
end Go.Mth

set_option linter.unusedVariables false
set_option linter.unusedSimpArgs false
namespace Go.Proofs.YtnejjdcbbminaaaDoor
open Go Go.Ab Go.Mth
end Go.Proofs.YtnejjdcbbminaaaDoor

set_option linter.unusedVariables false
set_option linter.unusedSimpArgs false
namespace Go.Proofs.YtnejjdcbbminaaaDoor
open Go Go.Ab Go.Mth
theorem Ym_tF24_1 : tyField cx.P 24 1 = some (1, 22) := by kernel_rfl
theorem Ym_tS22 : tySc cx.P 22 = true := by kernel_rfl
theorem Ym_tU22 : cx.P.underlying 22 = some (.slice 50) := by kernel_rfl
theorem Ym_tF24_0 : tyField cx.P 24 0 = some (0, 3) := by kernel_rfl
theorem Ym_tS3 : tySc cx.P 3 = true := by kernel_rfl
theorem Ym_tE22 : tyElem cx.P 22 = some (50, 4, 32) := by kernel_rfl
theorem Ym_tA50 : tyAgg cx.P 50 = some 4 := by kernel_rfl
theorem Ym_tO50 : tyZero cx.P 50 = some [(Go.Value.int IntKind.i64 0), (Go.Value.int IntKind.i64 0), (Go.Value.int IntKind.i64 0), (Go.Value.int IntKind.i64 0)] := by kernel_rfl
theorem Ym_tZ50 : tySize cx.P 50 = some 4 := by kernel_rfl
theorem Ym_tF50_0 : tyField cx.P 50 0 = some (0, 3) := by kernel_rfl
theorem Ym_tF50_1 : tyField cx.P 50 1 = some (1, 3) := by kernel_rfl
theorem Ym_tF50_2 : tyField cx.P 50 2 = some (2, 3) := by kernel_rfl
theorem Ym_tF50_3 : tyField cx.P 50 3 = some (3, 3) := by kernel_rfl
theorem c_vValid (m : Mac) : ECalls cx 6 [(macV m)] (bp (okMac m)) := by
  refine ecalls_of_awp Tryd.func6 (c := _) rfl (Nat.le_of_ble_eq_true rfl) ?_
  show awp cx 87 _ (postF cx Tryd.f6 _) ⟨[(0, (macV m))], []⟩
  refine awp_seq fun K0 hK0 => ?_
  refine awp_region rfl ?_
  refine o_box 2 [(AV.lit (.int .i64 (m.regs))), (AV.sl 4 (gcells cI (m.code)))] Gd.none rfl rfl ?_
  refine o_as (AV.lit (.bool false)) rfl ?_
  refine aops_end ?_
  refine hK0 _ ?_
  refine awp_seq fun K1 hK1 => ?_
  refine awp_region rfl ?_
  refine o_fieldRef 1 Gd.none Ym_tF24_1 rfl rfl ?_
  refine o_loadS (AV.sl 4 (gcells cI (m.code))) Gd.none Ym_tS22 rfl rfl rfl ?_
  refine g_len cI (m.code) cI_len Gd.none Ym_tU22 rfl ?_
  refine o_as (nm .i64 ((m.code).length)) rfl ?_
  refine aops_end ?_
  refine hK1 _ ?_
  refine awp_seq fun K2 hK2 => ?_
  refine awp_seq fun K3 hK3 => ?_
  refine awp_region rfl ?_
  refine o_fieldRef 0 Gd.none Ym_tF24_0 rfl rfl ?_
  refine o_loadS (AV.lit (.int .i64 (m.regs))) Gd.none Ym_tS3 rfl rfl rfl ?_
  refine o_lss (a := (m.regs)) (c := (((1 : Nat) : Int))) Gd.none rfl rfl ?_
  refine o_mv (bp ((m.regs) < (((1 : Nat) : Int)))) rfl ?_
  refine o_splitP (q := (m.regs) < (((1 : Nat) : Int))) 12 rfl (fun h1 => ?_) (fun h1 => ?_)
  · refine o_skip rfl rfl (decide_eq_true h1) ?_
    refine o_skip rfl rfl (decide_eq_true h1) ?_
    refine o_skip rfl rfl (decide_eq_true h1) ?_
    refine o_pickT (AV.lit (.bool true)) Gd.none rfl (decide_eq_true h1) rfl ?_
    refine o_mv (AV.lit (.bool true)) rfl ?_
    refine o_skip rfl rfl rfl ?_
    refine o_skip rfl rfl rfl ?_
    refine o_pickT (AV.lit (.bool true)) Gd.none rfl rfl rfl ?_
    refine o_mv (AV.lit (.bool true)) rfl ?_
    refine o_skip rfl rfl rfl ?_
    refine o_skip rfl rfl rfl ?_
    refine o_pickT (AV.lit (.bool true)) Gd.none rfl rfl rfl ?_
    refine aops_end ?_
    refine hK3 _ ?_
    refine awp_condB (b := true) rfl (fun _ => ?_) (fun hh => absurd (hh.symm.trans rfl) (by decide))
    refine awp_seq fun K4 hK4 => ?_
    refine awp_region rfl ?_
    refine o_as (AV.lit (.bool false)) rfl ?_
    refine aops_end ?_
    refine hK4 _ ?_
    refine awp_ret ?_
    refine post_ret ⟨[(AV.lit (.bool false))], And.intro (AV.le_refl _) (trivial), rfl, ?_⟩
    first | exact bpy ⟨by omega, by omega, by omega, by omega, fun x hx => by obtain ⟨k, hk, rfl⟩ := List.getElem_of_mem hx; have := hb k (by omega); rwa [List.getD_eq_getElem?_getD, List.getElem?_eq_getElem hk] at this⟩ | exact bpn (fun o => by obtain ⟨o1, o2, o3, o4, o5⟩ := o; omega) | exact bpn (fun o => by have hx := o.2.2.2.2 _ (gdm (d := default) (show i < m.code.length by omega)); clear hb o; unfold insP plc at hx; omega)
  · refine o_fieldRef 0 (Gd.yes rfl rfl (decide_eq_false h1)) Ym_tF24_0 rfl rfl ?_
    refine o_loadS (AV.lit (.int .i64 (m.regs))) (Gd.yes rfl rfl (decide_eq_false h1)) Ym_tS3 rfl rfl rfl ?_
    refine o_gtr (a := (m.regs)) (c := (((4 : Nat) : Int))) (Gd.yes rfl rfl (decide_eq_false h1)) rfl rfl ?_
    refine o_pickF (bp ((((4 : Nat) : Int)) < (m.regs))) Gd.none rfl (decide_eq_false h1) rfl ?_
    refine o_mv (bp ((((4 : Nat) : Int)) < (m.regs))) rfl ?_
    refine o_splitP (q := (((4 : Nat) : Int)) < (m.regs)) 17 rfl (fun h2 => ?_) (fun h2 => ?_)
    · refine o_skip rfl rfl (decide_eq_true h2) ?_
      refine o_skip rfl rfl (decide_eq_true h2) ?_
      refine o_pickT (AV.lit (.bool true)) Gd.none rfl (decide_eq_true h2) rfl ?_
      refine o_mv (AV.lit (.bool true)) rfl ?_
      refine o_skip rfl rfl rfl ?_
      refine o_skip rfl rfl rfl ?_
      refine o_pickT (AV.lit (.bool true)) Gd.none rfl rfl rfl ?_
      refine aops_end ?_
      refine hK3 _ ?_
      refine awp_condB (b := true) rfl (fun _ => ?_) (fun hh => absurd (hh.symm.trans rfl) (by decide))
      refine awp_seq fun K5 hK5 => ?_
      refine awp_region rfl ?_
      refine o_as (AV.lit (.bool false)) rfl ?_
      refine aops_end ?_
      refine hK5 _ ?_
      refine awp_ret ?_
      refine post_ret ⟨[(AV.lit (.bool false))], And.intro (AV.le_refl _) (trivial), rfl, ?_⟩
      first | exact bpy ⟨by omega, by omega, by omega, by omega, fun x hx => by obtain ⟨k, hk, rfl⟩ := List.getElem_of_mem hx; have := hb k (by omega); rwa [List.getD_eq_getElem?_getD, List.getElem?_eq_getElem hk] at this⟩ | exact bpn (fun o => by obtain ⟨o1, o2, o3, o4, o5⟩ := o; omega) | exact bpn (fun o => by have hx := o.2.2.2.2 _ (gdm (d := default) (show i < m.code.length by omega)); clear hb o; unfold insP plc at hx; omega)
    · refine o_move (nm .i64 ((m.code).length)) (Gd.yes rfl rfl (decide_eq_false h2)) rfl ?_
      refine n_lss ((m.code).length) (1) (Gd.yes rfl rfl (decide_eq_false h2)) rfl rfl ?_
      refine o_pickF (bp (((m.code).length) < (1))) Gd.none rfl (decide_eq_false h2) rfl ?_
      refine o_mv (bp (((m.code).length) < (1))) rfl ?_
      refine o_splitP (q := ((m.code).length) < (1)) 21 rfl (fun h3 => ?_) (fun h3 => ?_)
      · refine o_skip rfl rfl (decide_eq_true h3) ?_
        refine o_skip rfl rfl (decide_eq_true h3) ?_
        refine o_pickT (AV.lit (.bool true)) Gd.none rfl (decide_eq_true h3) rfl ?_
        refine aops_end ?_
        refine hK3 _ ?_
        refine awp_condB (b := true) rfl (fun _ => ?_) (fun hh => absurd (hh.symm.trans rfl) (by decide))
        refine awp_seq fun K6 hK6 => ?_
        refine awp_region rfl ?_
        refine o_as (AV.lit (.bool false)) rfl ?_
        refine aops_end ?_
        refine hK6 _ ?_
        refine awp_ret ?_
        refine post_ret ⟨[(AV.lit (.bool false))], And.intro (AV.le_refl _) (trivial), rfl, ?_⟩
        first | exact bpy ⟨by omega, by omega, by omega, by omega, fun x hx => by obtain ⟨k, hk, rfl⟩ := List.getElem_of_mem hx; have := hb k (by omega); rwa [List.getD_eq_getElem?_getD, List.getElem?_eq_getElem hk] at this⟩ | exact bpn (fun o => by obtain ⟨o1, o2, o3, o4, o5⟩ := o; omega) | exact bpn (fun o => by have hx := o.2.2.2.2 _ (gdm (d := default) (show i < m.code.length by omega)); clear hb o; unfold insP plc at hx; omega)
      · refine o_move (nm .i64 ((m.code).length)) (Gd.yes rfl rfl (decide_eq_false h3)) rfl ?_
        refine n_gtr ((m.code).length) (12) (Gd.yes rfl rfl (decide_eq_false h3)) rfl rfl ?_
        refine o_pickF (bp ((12) < ((m.code).length))) Gd.none rfl (decide_eq_false h3) rfl ?_
        refine aops_end ?_
        refine hK3 _ ?_
        refine awp_condQ (q := (12) < ((m.code).length)) rfl (fun h4 => ?_) (fun h4 => ?_)
        · refine awp_seq fun K7 hK7 => ?_
          refine awp_region rfl ?_
          refine o_as (AV.lit (.bool false)) rfl ?_
          refine aops_end ?_
          refine hK7 _ ?_
          refine awp_ret ?_
          refine post_ret ⟨[(AV.lit (.bool false))], And.intro (AV.le_refl _) (trivial), rfl, ?_⟩
          first | exact bpy ⟨by omega, by omega, by omega, by omega, fun x hx => by obtain ⟨k, hk, rfl⟩ := List.getElem_of_mem hx; have := hb k (by omega); rwa [List.getD_eq_getElem?_getD, List.getElem?_eq_getElem hk] at this⟩ | exact bpn (fun o => by obtain ⟨o1, o2, o3, o4, o5⟩ := o; omega) | exact bpn (fun o => by have hx := o.2.2.2.2 _ (gdm (d := default) (show i < m.code.length by omega)); clear hb o; unfold insP plc at hx; omega)
        · refine awp_skip ?_
          refine hK2 _ ?_
          refine awp_seq fun K8 hK8 => ?_
          refine awp_seq fun K9 hK9 => ?_
          refine awp_region rfl ?_
          refine o_as (nm .i64 (0)) rfl ?_
          refine aops_end ?_
          refine hK9 _ ?_
          refine awp_block ?_
          refine awp_loopR (fun κ σ => ∃ (i : Nat), (i ≤ m.code.length) ∧ (∀ k, k < i → insP m (m.code.getD k default)) ∧ (m.code.length - i) = κ ∧ σ = ⟨[(1, (AV.ref 2 (0))), (3, (nm .i64 (m.code.length))), (4, (nm .i64 (i)))], [(2, (AO.var 24 [(AV.lit (.int .i64 (m.regs))), (AV.sl 4 (gcells cI (m.code)))]))]⟩) ⟨_, _, ⟨0, (by omega), (fun k hk => by omega), rfl, rfl⟩, ?wk0⟩ ?rd0
          case wk0 =>
            exact Wk.sub (And.intro rfl (And.intro (by first | rfl | exact congrArg (nm _) (by omega) | exact nm_int (by omega) | exact nm_int (by simp [IntKind.wrap, IntKind.bits, IntKind.signed]; omega)) (And.intro (by first | rfl | exact congrArg (nm _) (by omega) | exact nm_int (by omega) | exact nm_int (by simp [IntKind.wrap, IntKind.bits, IntKind.signed]; omega)) (trivial)))) (And.intro rfl (trivial))
          rintro κ _ ⟨i, hi, hb, rfl, rfl⟩
          refine awp_seq fun K10 hK10 => ?_
          refine awp_seq fun K11 hK11 => ?_
          refine awp_region rfl ?_
          refine o_mv (nm .i64 (i)) rfl ?_
          refine o_mv (nm .i64 (m.code.length)) rfl ?_
          refine n_lss (i) (m.code.length) Gd.none rfl rfl ?_
          refine aops_end ?_
          refine hK11 _ ?_
          refine awp_condQ (q := (i) < (m.code.length)) rfl (fun h5 => ?_) (fun h5 => ?_)
          · refine awp_skip ?_
            refine hK10 _ ?_
            refine awp_seq fun K12 hK12 => ?_
            refine awp_block ?_
            refine awp_seq fun K13 hK13 => ?_
            refine awp_region rfl ?_
            refine o_fieldRef 1 Gd.none Ym_tF24_1 rfl rfl ?_
            refine o_loadS (AV.sl 4 (gcells cI (m.code))) Gd.none Ym_tS22 rfl rfl rfl ?_
            refine o_mv (nm .i64 (i)) rfl ?_
            refine g_index cI (m.code) (i) cI_len rfl Gd.none Ym_tE22 rfl rfl (by omega) ?_
            refine g_loadA cI (m.code) (i) default cI_len Gd.none Ym_tA50 rfl (by omega) ?_
            refine o_alloc 101 [(nm .i64 (0)), (nm .i64 (0)), (nm .i64 (0)), (nm .i64 (0))] Gd.none Ym_tO50 rfl rfl rfl ?_
            refine o_store [(101, (AO.var 50 [(AV.lit (.int .i64 ((((m.code).getD (i) default)).kind))), (AV.lit (.int .i64 ((((m.code).getD (i) default)).reg))), (AV.lit (.int .i64 ((((m.code).getD (i) default)).next))), (AV.lit (.int .i64 ((((m.code).getD (i) default)).els)))])), (2, (AO.var 24 [(AV.lit (.int .i64 (m.regs))), (AV.sl 4 (gcells cI (m.code)))]))] Gd.none Ym_tZ50 rfl rfl rfl rfl rfl rfl ?_
            refine aops_end ?_
            refine hK13 _ ?_
            refine awp_seq fun K14 hK14 => ?_
            refine awp_region rfl ?_
            refine o_fieldRef 0 Gd.none Ym_tF50_0 rfl rfl ?_
            refine o_loadS (AV.lit (.int .i64 ((((m.code).getD (i) default)).kind))) Gd.none Ym_tS3 rfl rfl rfl ?_
            refine o_neq (a := ((((m.code).getD (i) default)).kind)) (c := (((0 : Nat) : Int))) Gd.none rfl rfl ?_
            refine o_mv (bp (((((m.code).getD (i) default)).kind) ≠ (((0 : Nat) : Int)))) rfl ?_
            refine o_splitP (q := ((((m.code).getD (i) default)).kind) ≠ (((0 : Nat) : Int))) 38 rfl (fun h6 => ?_) (fun h6 => ?_)
            · refine o_fieldRef 0 (Gd.yes rfl rfl (decide_eq_true h6)) Ym_tF50_0 rfl rfl ?_
              refine o_loadS (AV.lit (.int .i64 ((((m.code).getD (i) default)).kind))) (Gd.yes rfl rfl (decide_eq_true h6)) Ym_tS3 rfl rfl rfl ?_
              refine o_neq (a := ((((m.code).getD (i) default)).kind)) (c := (((1 : Nat) : Int))) (Gd.yes rfl rfl (decide_eq_true h6)) rfl rfl ?_
              refine o_pickT (bp (((((m.code).getD (i) default)).kind) ≠ (((1 : Nat) : Int)))) Gd.none rfl (decide_eq_true h6) rfl ?_
              refine o_mv (bp (((((m.code).getD (i) default)).kind) ≠ (((1 : Nat) : Int)))) rfl ?_
              refine o_splitP (q := ((((m.code).getD (i) default)).kind) ≠ (((1 : Nat) : Int))) 43 rfl (fun h7 => ?_) (fun h7 => ?_)
              · refine o_skip rfl rfl (decide_eq_true h7) ?_
                refine o_skip rfl rfl (decide_eq_true h7) ?_
                refine o_skip rfl rfl (decide_eq_true h7) ?_
                refine o_pickT (AV.lit (.bool true)) Gd.none rfl (decide_eq_true h7) rfl ?_
                refine o_mv (AV.lit (.bool true)) rfl ?_
                refine o_skip rfl rfl rfl ?_
                refine o_skip rfl rfl rfl ?_
                refine o_skip rfl rfl rfl ?_
                refine o_skip rfl rfl rfl ?_
                refine o_skip rfl rfl rfl ?_
                refine o_pickT (AV.lit (.bool true)) Gd.none rfl rfl rfl ?_
                refine o_mv (AV.lit (.bool true)) rfl ?_
                refine o_skip rfl rfl rfl ?_
                refine o_skip rfl rfl rfl ?_
                refine o_skip rfl rfl rfl ?_
                refine o_pickT (AV.lit (.bool true)) Gd.none rfl rfl rfl ?_
                refine o_mv (AV.lit (.bool true)) rfl ?_
                refine o_skip rfl rfl rfl ?_
                refine o_skip rfl rfl rfl ?_
                refine o_skip rfl rfl rfl ?_
                refine o_skip rfl rfl rfl ?_
                refine o_pickT (AV.lit (.bool true)) Gd.none rfl rfl rfl ?_
                refine o_mv (AV.lit (.bool true)) rfl ?_
                refine o_skip rfl rfl rfl ?_
                refine o_skip rfl rfl rfl ?_
                refine o_skip rfl rfl rfl ?_
                refine o_pickT (AV.lit (.bool true)) Gd.none rfl rfl rfl ?_
                refine o_mv (AV.lit (.bool true)) rfl ?_
                refine o_skip rfl rfl rfl ?_
                refine o_skip rfl rfl rfl ?_
                refine o_skip rfl rfl rfl ?_
                refine o_skip rfl rfl rfl ?_
                refine o_pickT (AV.lit (.bool true)) Gd.none rfl rfl rfl ?_
                refine o_mv (AV.lit (.bool true)) rfl ?_
                refine o_skip rfl rfl rfl ?_
                refine o_skip rfl rfl rfl ?_
                refine o_skip rfl rfl rfl ?_
                refine o_skip rfl rfl rfl ?_
                refine o_skipU rfl rfl ?_
                refine o_skipU rfl rfl ?_
                refine o_skipU rfl rfl ?_
                refine o_skip rfl rfl rfl ?_
                refine o_pickT (AV.lit (.bool true)) Gd.none rfl rfl rfl ?_
                refine aops_end ?_
                refine hK14 _ ?_
                refine awp_condB (b := true) rfl (fun _ => ?_) (fun hh => absurd (hh.symm.trans rfl) (by decide))
                refine awp_seq fun K15 hK15 => ?_
                refine awp_region rfl ?_
                refine o_as (AV.lit (.bool false)) rfl ?_
                refine aops_end ?_
                refine hK15 _ ?_
                refine awp_ret ?_
                refine post_ret ⟨[(AV.lit (.bool false))], And.intro (AV.le_refl _) (trivial), rfl, ?_⟩
                first | exact bpy ⟨by omega, by omega, by omega, by omega, fun x hx => by obtain ⟨k, hk, rfl⟩ := List.getElem_of_mem hx; have := hb k (by omega); rwa [List.getD_eq_getElem?_getD, List.getElem?_eq_getElem hk] at this⟩ | exact bpn (fun o => by obtain ⟨o1, o2, o3, o4, o5⟩ := o; omega) | exact bpn (fun o => by have hx := o.2.2.2.2 _ (gdm (d := default) (show i < m.code.length by omega)); clear hb o; unfold insP plc at hx; omega)
              · refine o_fieldRef 1 (Gd.yes rfl rfl (decide_eq_false h7)) Ym_tF50_1 rfl rfl ?_
                refine o_loadS (AV.lit (.int .i64 ((((m.code).getD (i) default)).reg))) (Gd.yes rfl rfl (decide_eq_false h7)) Ym_tS3 rfl rfl rfl ?_
                refine o_lss (a := ((((m.code).getD (i) default)).reg)) (c := (((0 : Nat) : Int))) (Gd.yes rfl rfl (decide_eq_false h7)) rfl rfl ?_
                refine o_pickF (bp (((((m.code).getD (i) default)).reg) < (((0 : Nat) : Int)))) Gd.none rfl (decide_eq_false h7) rfl ?_
                refine o_mv (bp (((((m.code).getD (i) default)).reg) < (((0 : Nat) : Int)))) rfl ?_
                refine o_splitP (q := ((((m.code).getD (i) default)).reg) < (((0 : Nat) : Int))) 48 rfl (fun h8 => ?_) (fun h8 => ?_)
                · refine o_skip rfl rfl (decide_eq_true h8) ?_
                  refine o_skip rfl rfl (decide_eq_true h8) ?_
                  refine o_skip rfl rfl (decide_eq_true h8) ?_
                  refine o_skip rfl rfl (decide_eq_true h8) ?_
                  refine o_skip rfl rfl (decide_eq_true h8) ?_
                  refine o_pickT (AV.lit (.bool true)) Gd.none rfl (decide_eq_true h8) rfl ?_
                  refine o_mv (AV.lit (.bool true)) rfl ?_
                  refine o_skip rfl rfl rfl ?_
                  refine o_skip rfl rfl rfl ?_
                  refine o_skip rfl rfl rfl ?_
                  refine o_pickT (AV.lit (.bool true)) Gd.none rfl rfl rfl ?_
                  refine o_mv (AV.lit (.bool true)) rfl ?_
                  refine o_skip rfl rfl rfl ?_
                  refine o_skip rfl rfl rfl ?_
                  refine o_skip rfl rfl rfl ?_
                  refine o_skip rfl rfl rfl ?_
                  refine o_pickT (AV.lit (.bool true)) Gd.none rfl rfl rfl ?_
                  refine o_mv (AV.lit (.bool true)) rfl ?_
                  refine o_skip rfl rfl rfl ?_
                  refine o_skip rfl rfl rfl ?_
                  refine o_skip rfl rfl rfl ?_
                  refine o_pickT (AV.lit (.bool true)) Gd.none rfl rfl rfl ?_
                  refine o_mv (AV.lit (.bool true)) rfl ?_
                  refine o_skip rfl rfl rfl ?_
                  refine o_skip rfl rfl rfl ?_
                  refine o_skip rfl rfl rfl ?_
                  refine o_skip rfl rfl rfl ?_
                  refine o_pickT (AV.lit (.bool true)) Gd.none rfl rfl rfl ?_
                  refine o_mv (AV.lit (.bool true)) rfl ?_
                  refine o_skip rfl rfl rfl ?_
                  refine o_skip rfl rfl rfl ?_
                  refine o_skip rfl rfl rfl ?_
                  refine o_skip rfl rfl rfl ?_
                  refine o_skipU rfl rfl ?_
                  refine o_skipU rfl rfl ?_
                  refine o_skipU rfl rfl ?_
                  refine o_skip rfl rfl rfl ?_
                  refine o_pickT (AV.lit (.bool true)) Gd.none rfl rfl rfl ?_
                  refine aops_end ?_
                  refine hK14 _ ?_
                  refine awp_condB (b := true) rfl (fun _ => ?_) (fun hh => absurd (hh.symm.trans rfl) (by decide))
                  refine awp_seq fun K16 hK16 => ?_
                  refine awp_region rfl ?_
                  refine o_as (AV.lit (.bool false)) rfl ?_
                  refine aops_end ?_
                  refine hK16 _ ?_
                  refine awp_ret ?_
                  refine post_ret ⟨[(AV.lit (.bool false))], And.intro (AV.le_refl _) (trivial), rfl, ?_⟩
                  first | exact bpy ⟨by omega, by omega, by omega, by omega, fun x hx => by obtain ⟨k, hk, rfl⟩ := List.getElem_of_mem hx; have := hb k (by omega); rwa [List.getD_eq_getElem?_getD, List.getElem?_eq_getElem hk] at this⟩ | exact bpn (fun o => by obtain ⟨o1, o2, o3, o4, o5⟩ := o; omega) | exact bpn (fun o => by have hx := o.2.2.2.2 _ (gdm (d := default) (show i < m.code.length by omega)); clear hb o; unfold insP plc at hx; omega)
                · refine o_fieldRef 1 (Gd.yes rfl rfl (decide_eq_false h8)) Ym_tF50_1 rfl rfl ?_
                  refine o_loadS (AV.lit (.int .i64 ((((m.code).getD (i) default)).reg))) (Gd.yes rfl rfl (decide_eq_false h8)) Ym_tS3 rfl rfl rfl ?_
                  refine o_fieldRef 0 (Gd.yes rfl rfl (decide_eq_false h8)) Ym_tF24_0 rfl rfl ?_
                  refine o_loadS (AV.lit (.int .i64 (m.regs))) (Gd.yes rfl rfl (decide_eq_false h8)) Ym_tS3 rfl rfl rfl ?_
                  refine o_geq (a := ((((m.code).getD (i) default)).reg)) (c := (m.regs)) (Gd.yes rfl rfl (decide_eq_false h8)) rfl rfl ?_
                  refine o_pickF (bp ((m.regs) ≤ ((((m.code).getD (i) default)).reg))) Gd.none rfl (decide_eq_false h8) rfl ?_
                  refine o_mv (bp ((m.regs) ≤ ((((m.code).getD (i) default)).reg))) rfl ?_
                  refine o_splitP (q := (m.regs) ≤ ((((m.code).getD (i) default)).reg)) 55 rfl (fun h9 => ?_) (fun h9 => ?_)
                  · refine o_skip rfl rfl (decide_eq_true h9) ?_
                    refine o_skip rfl rfl (decide_eq_true h9) ?_
                    refine o_skip rfl rfl (decide_eq_true h9) ?_
                    refine o_pickT (AV.lit (.bool true)) Gd.none rfl (decide_eq_true h9) rfl ?_
                    refine o_mv (AV.lit (.bool true)) rfl ?_
                    refine o_skip rfl rfl rfl ?_
                    refine o_skip rfl rfl rfl ?_
                    refine o_skip rfl rfl rfl ?_
                    refine o_skip rfl rfl rfl ?_
                    refine o_pickT (AV.lit (.bool true)) Gd.none rfl rfl rfl ?_
                    refine o_mv (AV.lit (.bool true)) rfl ?_
                    refine o_skip rfl rfl rfl ?_
                    refine o_skip rfl rfl rfl ?_
                    refine o_skip rfl rfl rfl ?_
                    refine o_pickT (AV.lit (.bool true)) Gd.none rfl rfl rfl ?_
                    refine o_mv (AV.lit (.bool true)) rfl ?_
                    refine o_skip rfl rfl rfl ?_
                    refine o_skip rfl rfl rfl ?_
                    refine o_skip rfl rfl rfl ?_
                    refine o_skip rfl rfl rfl ?_
                    refine o_pickT (AV.lit (.bool true)) Gd.none rfl rfl rfl ?_
                    refine o_mv (AV.lit (.bool true)) rfl ?_
                    refine o_skip rfl rfl rfl ?_
                    refine o_skip rfl rfl rfl ?_
                    refine o_skip rfl rfl rfl ?_
                    refine o_skip rfl rfl rfl ?_
                    refine o_skipU rfl rfl ?_
                    refine o_skipU rfl rfl ?_
                    refine o_skipU rfl rfl ?_
                    refine o_skip rfl rfl rfl ?_
                    refine o_pickT (AV.lit (.bool true)) Gd.none rfl rfl rfl ?_
                    refine aops_end ?_
                    refine hK14 _ ?_
                    refine awp_condB (b := true) rfl (fun _ => ?_) (fun hh => absurd (hh.symm.trans rfl) (by decide))
                    refine awp_seq fun K17 hK17 => ?_
                    refine awp_region rfl ?_
                    refine o_as (AV.lit (.bool false)) rfl ?_
                    refine aops_end ?_
                    refine hK17 _ ?_
                    refine awp_ret ?_
                    refine post_ret ⟨[(AV.lit (.bool false))], And.intro (AV.le_refl _) (trivial), rfl, ?_⟩
                    first | exact bpy ⟨by omega, by omega, by omega, by omega, fun x hx => by obtain ⟨k, hk, rfl⟩ := List.getElem_of_mem hx; have := hb k (by omega); rwa [List.getD_eq_getElem?_getD, List.getElem?_eq_getElem hk] at this⟩ | exact bpn (fun o => by obtain ⟨o1, o2, o3, o4, o5⟩ := o; omega) | exact bpn (fun o => by have hx := o.2.2.2.2 _ (gdm (d := default) (show i < m.code.length by omega)); clear hb o; unfold insP plc at hx; omega)
                  · refine o_fieldRef 2 (Gd.yes rfl rfl (decide_eq_false h9)) Ym_tF50_2 rfl rfl ?_
                    refine o_loadS (AV.lit (.int .i64 ((((m.code).getD (i) default)).next))) (Gd.yes rfl rfl (decide_eq_false h9)) Ym_tS3 rfl rfl rfl ?_
                    refine o_lss (a := ((((m.code).getD (i) default)).next)) (c := (((0 : Nat) : Int))) (Gd.yes rfl rfl (decide_eq_false h9)) rfl rfl ?_
                    refine o_pickF (bp (((((m.code).getD (i) default)).next) < (((0 : Nat) : Int)))) Gd.none rfl (decide_eq_false h9) rfl ?_
                    refine o_mv (bp (((((m.code).getD (i) default)).next) < (((0 : Nat) : Int)))) rfl ?_
                    refine o_splitP (q := ((((m.code).getD (i) default)).next) < (((0 : Nat) : Int))) 60 rfl (fun h10 => ?_) (fun h10 => ?_)
                    · refine o_skip rfl rfl (decide_eq_true h10) ?_
                      refine o_skip rfl rfl (decide_eq_true h10) ?_
                      refine o_skip rfl rfl (decide_eq_true h10) ?_
                      refine o_skip rfl rfl (decide_eq_true h10) ?_
                      refine o_pickT (AV.lit (.bool true)) Gd.none rfl (decide_eq_true h10) rfl ?_
                      refine o_mv (AV.lit (.bool true)) rfl ?_
                      refine o_skip rfl rfl rfl ?_
                      refine o_skip rfl rfl rfl ?_
                      refine o_skip rfl rfl rfl ?_
                      refine o_pickT (AV.lit (.bool true)) Gd.none rfl rfl rfl ?_
                      refine o_mv (AV.lit (.bool true)) rfl ?_
                      refine o_skip rfl rfl rfl ?_
                      refine o_skip rfl rfl rfl ?_
                      refine o_skip rfl rfl rfl ?_
                      refine o_skip rfl rfl rfl ?_
                      refine o_pickT (AV.lit (.bool true)) Gd.none rfl rfl rfl ?_
                      refine o_mv (AV.lit (.bool true)) rfl ?_
                      refine o_skip rfl rfl rfl ?_
                      refine o_skip rfl rfl rfl ?_
                      refine o_skip rfl rfl rfl ?_
                      refine o_skip rfl rfl rfl ?_
                      refine o_skipU rfl rfl ?_
                      refine o_skipU rfl rfl ?_
                      refine o_skipU rfl rfl ?_
                      refine o_skip rfl rfl rfl ?_
                      refine o_pickT (AV.lit (.bool true)) Gd.none rfl rfl rfl ?_
                      refine aops_end ?_
                      refine hK14 _ ?_
                      refine awp_condB (b := true) rfl (fun _ => ?_) (fun hh => absurd (hh.symm.trans rfl) (by decide))
                      refine awp_seq fun K18 hK18 => ?_
                      refine awp_region rfl ?_
                      refine o_as (AV.lit (.bool false)) rfl ?_
                      refine aops_end ?_
                      refine hK18 _ ?_
                      refine awp_ret ?_
                      refine post_ret ⟨[(AV.lit (.bool false))], And.intro (AV.le_refl _) (trivial), rfl, ?_⟩
                      first | exact bpy ⟨by omega, by omega, by omega, by omega, fun x hx => by obtain ⟨k, hk, rfl⟩ := List.getElem_of_mem hx; have := hb k (by omega); rwa [List.getD_eq_getElem?_getD, List.getElem?_eq_getElem hk] at this⟩ | exact bpn (fun o => by obtain ⟨o1, o2, o3, o4, o5⟩ := o; omega) | exact bpn (fun o => by have hx := o.2.2.2.2 _ (gdm (d := default) (show i < m.code.length by omega)); clear hb o; unfold insP plc at hx; omega)
                    · refine o_fieldRef 2 (Gd.yes rfl rfl (decide_eq_false h10)) Ym_tF50_2 rfl rfl ?_
                      refine o_loadS (AV.lit (.int .i64 ((((m.code).getD (i) default)).next))) (Gd.yes rfl rfl (decide_eq_false h10)) Ym_tS3 rfl rfl rfl ?_
                      refine o_move (nm .i64 (m.code.length)) (Gd.yes rfl rfl (decide_eq_false h10)) rfl ?_
                      refine o_gtr (a := ((((m.code).getD (i) default)).next)) (c := (((m.code.length : Nat) : Int))) (Gd.yes rfl rfl (decide_eq_false h10)) rfl rfl ?_
                      refine o_pickF (bp ((((m.code.length : Nat) : Int)) < ((((m.code).getD (i) default)).next))) Gd.none rfl (decide_eq_false h10) rfl ?_
                      refine o_mv (bp ((((m.code.length : Nat) : Int)) < ((((m.code).getD (i) default)).next))) rfl ?_
                      refine o_splitP (q := (((m.code.length : Nat) : Int)) < ((((m.code).getD (i) default)).next)) 66 rfl (fun h11 => ?_) (fun h11 => ?_)
                      · refine o_skip rfl rfl (decide_eq_true h11) ?_
                        refine o_skip rfl rfl (decide_eq_true h11) ?_
                        refine o_skip rfl rfl (decide_eq_true h11) ?_
                        refine o_pickT (AV.lit (.bool true)) Gd.none rfl (decide_eq_true h11) rfl ?_
                        refine o_mv (AV.lit (.bool true)) rfl ?_
                        refine o_skip rfl rfl rfl ?_
                        refine o_skip rfl rfl rfl ?_
                        refine o_skip rfl rfl rfl ?_
                        refine o_skip rfl rfl rfl ?_
                        refine o_pickT (AV.lit (.bool true)) Gd.none rfl rfl rfl ?_
                        refine o_mv (AV.lit (.bool true)) rfl ?_
                        refine o_skip rfl rfl rfl ?_
                        refine o_skip rfl rfl rfl ?_
                        refine o_skip rfl rfl rfl ?_
                        refine o_skip rfl rfl rfl ?_
                        refine o_skipU rfl rfl ?_
                        refine o_skipU rfl rfl ?_
                        refine o_skipU rfl rfl ?_
                        refine o_skip rfl rfl rfl ?_
                        refine o_pickT (AV.lit (.bool true)) Gd.none rfl rfl rfl ?_
                        refine aops_end ?_
                        refine hK14 _ ?_
                        refine awp_condB (b := true) rfl (fun _ => ?_) (fun hh => absurd (hh.symm.trans rfl) (by decide))
                        refine awp_seq fun K19 hK19 => ?_
                        refine awp_region rfl ?_
                        refine o_as (AV.lit (.bool false)) rfl ?_
                        refine aops_end ?_
                        refine hK19 _ ?_
                        refine awp_ret ?_
                        refine post_ret ⟨[(AV.lit (.bool false))], And.intro (AV.le_refl _) (trivial), rfl, ?_⟩
                        first | exact bpy ⟨by omega, by omega, by omega, by omega, fun x hx => by obtain ⟨k, hk, rfl⟩ := List.getElem_of_mem hx; have := hb k (by omega); rwa [List.getD_eq_getElem?_getD, List.getElem?_eq_getElem hk] at this⟩ | exact bpn (fun o => by obtain ⟨o1, o2, o3, o4, o5⟩ := o; omega) | exact bpn (fun o => by have hx := o.2.2.2.2 _ (gdm (d := default) (show i < m.code.length by omega)); clear hb o; unfold insP plc at hx; omega)
                      · refine o_fieldRef 3 (Gd.yes rfl rfl (decide_eq_false h11)) Ym_tF50_3 rfl rfl ?_
                        refine o_loadS (AV.lit (.int .i64 ((((m.code).getD (i) default)).els))) (Gd.yes rfl rfl (decide_eq_false h11)) Ym_tS3 rfl rfl rfl ?_
                        refine o_lss (a := ((((m.code).getD (i) default)).els)) (c := (((0 : Nat) : Int))) (Gd.yes rfl rfl (decide_eq_false h11)) rfl rfl ?_
                        refine o_pickF (bp (((((m.code).getD (i) default)).els) < (((0 : Nat) : Int)))) Gd.none rfl (decide_eq_false h11) rfl ?_
                        refine o_mv (bp (((((m.code).getD (i) default)).els) < (((0 : Nat) : Int)))) rfl ?_
                        refine o_splitP (q := ((((m.code).getD (i) default)).els) < (((0 : Nat) : Int))) 71 rfl (fun h12 => ?_) (fun h12 => ?_)
                        · refine o_skip rfl rfl (decide_eq_true h12) ?_
                          refine o_skip rfl rfl (decide_eq_true h12) ?_
                          refine o_skip rfl rfl (decide_eq_true h12) ?_
                          refine o_skip rfl rfl (decide_eq_true h12) ?_
                          refine o_pickT (AV.lit (.bool true)) Gd.none rfl (decide_eq_true h12) rfl ?_
                          refine o_mv (AV.lit (.bool true)) rfl ?_
                          refine o_skip rfl rfl rfl ?_
                          refine o_skip rfl rfl rfl ?_
                          refine o_skip rfl rfl rfl ?_
                          refine o_skip rfl rfl rfl ?_
                          refine o_skipU rfl rfl ?_
                          refine o_skipU rfl rfl ?_
                          refine o_skipU rfl rfl ?_
                          refine o_skip rfl rfl rfl ?_
                          refine o_pickT (AV.lit (.bool true)) Gd.none rfl rfl rfl ?_
                          refine aops_end ?_
                          refine hK14 _ ?_
                          refine awp_condB (b := true) rfl (fun _ => ?_) (fun hh => absurd (hh.symm.trans rfl) (by decide))
                          refine awp_seq fun K20 hK20 => ?_
                          refine awp_region rfl ?_
                          refine o_as (AV.lit (.bool false)) rfl ?_
                          refine aops_end ?_
                          refine hK20 _ ?_
                          refine awp_ret ?_
                          refine post_ret ⟨[(AV.lit (.bool false))], And.intro (AV.le_refl _) (trivial), rfl, ?_⟩
                          first | exact bpy ⟨by omega, by omega, by omega, by omega, fun x hx => by obtain ⟨k, hk, rfl⟩ := List.getElem_of_mem hx; have := hb k (by omega); rwa [List.getD_eq_getElem?_getD, List.getElem?_eq_getElem hk] at this⟩ | exact bpn (fun o => by obtain ⟨o1, o2, o3, o4, o5⟩ := o; omega) | exact bpn (fun o => by have hx := o.2.2.2.2 _ (gdm (d := default) (show i < m.code.length by omega)); clear hb o; unfold insP plc at hx; omega)
                        · refine o_fieldRef 3 (Gd.yes rfl rfl (decide_eq_false h12)) Ym_tF50_3 rfl rfl ?_
                          refine o_loadS (AV.lit (.int .i64 ((((m.code).getD (i) default)).els))) (Gd.yes rfl rfl (decide_eq_false h12)) Ym_tS3 rfl rfl rfl ?_
                          refine o_move (nm .i64 (m.code.length)) (Gd.yes rfl rfl (decide_eq_false h12)) rfl ?_
                          refine o_gtr (a := ((((m.code).getD (i) default)).els)) (c := (((m.code.length : Nat) : Int))) (Gd.yes rfl rfl (decide_eq_false h12)) rfl rfl ?_
                          refine o_pickF (bp ((((m.code.length : Nat) : Int)) < ((((m.code).getD (i) default)).els))) Gd.none rfl (decide_eq_false h12) rfl ?_
                          refine o_mv (bp ((((m.code.length : Nat) : Int)) < ((((m.code).getD (i) default)).els))) rfl ?_
                          refine o_splitP (q := (((m.code.length : Nat) : Int)) < ((((m.code).getD (i) default)).els)) 77 rfl (fun h13 => ?_) (fun h13 => ?_)
                          · refine o_skip rfl rfl (decide_eq_true h13) ?_
                            refine o_skip rfl rfl (decide_eq_true h13) ?_
                            refine o_skip rfl rfl (decide_eq_true h13) ?_
                            refine o_skip rfl rfl (decide_eq_true h13) ?_
                            refine o_skipU rfl rfl ?_
                            refine o_skipU rfl rfl ?_
                            refine o_skipU rfl rfl ?_
                            refine o_skip rfl rfl (decide_eq_true h13) ?_
                            refine o_pickT (AV.lit (.bool true)) Gd.none rfl (decide_eq_true h13) rfl ?_
                            refine aops_end ?_
                            refine hK14 _ ?_
                            refine awp_condB (b := true) rfl (fun _ => ?_) (fun hh => absurd (hh.symm.trans rfl) (by decide))
                            refine awp_seq fun K21 hK21 => ?_
                            refine awp_region rfl ?_
                            refine o_as (AV.lit (.bool false)) rfl ?_
                            refine aops_end ?_
                            refine hK21 _ ?_
                            refine awp_ret ?_
                            refine post_ret ⟨[(AV.lit (.bool false))], And.intro (AV.le_refl _) (trivial), rfl, ?_⟩
                            first | exact bpy ⟨by omega, by omega, by omega, by omega, fun x hx => by obtain ⟨k, hk, rfl⟩ := List.getElem_of_mem hx; have := hb k (by omega); rwa [List.getD_eq_getElem?_getD, List.getElem?_eq_getElem hk] at this⟩ | exact bpn (fun o => by obtain ⟨o1, o2, o3, o4, o5⟩ := o; omega) | exact bpn (fun o => by have hx := o.2.2.2.2 _ (gdm (d := default) (show i < m.code.length by omega)); clear hb o; unfold insP plc at hx; omega)
                          · refine o_fieldRef 0 (Gd.yes rfl rfl (decide_eq_false h13)) Ym_tF50_0 rfl rfl ?_
                            refine o_loadS (AV.lit (.int .i64 ((((m.code).getD (i) default)).kind))) (Gd.yes rfl rfl (decide_eq_false h13)) Ym_tS3 rfl rfl rfl ?_
                            refine o_eql (a := ((((m.code).getD (i) default)).kind)) (c := (((0 : Nat) : Int))) (Gd.yes rfl rfl (decide_eq_false h13)) rfl rfl ?_
                            refine o_move (bp (((((m.code).getD (i) default)).kind) = (((0 : Nat) : Int)))) (Gd.yes rfl rfl (decide_eq_false h13)) rfl ?_
                            refine o_skip rfl rfl (decide_eq_false h6) ?_
                            refine o_skip rfl rfl (decide_eq_false h6) ?_
                            refine o_skip rfl rfl (decide_eq_false h6) ?_
                            refine o_pickF (AV.lit (.bool false)) (Gd.yes rfl rfl (decide_eq_false h13)) rfl (decide_eq_false h6) rfl ?_
                            refine o_pickF (AV.lit (.bool false)) Gd.none rfl (decide_eq_false h13) rfl ?_
                            refine aops_end ?_
                            refine hK14 _ ?_
                            refine awp_condB (b := false) rfl (fun hh => absurd (hh.symm.trans rfl) (by decide)) (fun _ => ?_)
                            refine awp_skip ?_
                            refine hK12 _ ?_
                            refine awp_region rfl ?_
                            refine o_mv (nm .i64 (i)) rfl ?_
                            refine n_add (i) (1) Gd.none rfl rfl (by simp only [topOf]; omega) ?_
                            refine o_as (nm .i64 ((i) + (1))) rfl ?_
                            refine aops_end ?_
                            refine ⟨_, _, ?lt, ⟨i + 1, (by omega), (fun k hk => by rcases Nat.lt_or_ge k i with e | e; exact hb k e; rw [show k = i by omega]; clear hb; unfold insP plc; omega), rfl, rfl⟩, ?wk⟩
                            case lt => omega
                            case wk => exact Wk.sub (And.intro rfl (And.intro rfl (And.intro (by first | rfl | exact congrArg (nm _) (by omega) | exact nm_int (by omega) | exact nm_int (by simp [IntKind.wrap, IntKind.bits, IntKind.signed]; omega)) (trivial)))) (And.intro rfl (trivial))
            · refine o_skip rfl rfl (decide_eq_false h6) ?_
              refine o_skip rfl rfl (decide_eq_false h6) ?_
              refine o_skip rfl rfl (decide_eq_false h6) ?_
              refine o_pickF (AV.lit (.bool false)) Gd.none rfl (decide_eq_false h6) rfl ?_
              refine o_mv (AV.lit (.bool false)) rfl ?_
              refine o_fieldRef 1 (Gd.yes rfl rfl rfl) Ym_tF50_1 rfl rfl ?_
              refine o_loadS (AV.lit (.int .i64 ((((m.code).getD (i) default)).reg))) (Gd.yes rfl rfl rfl) Ym_tS3 rfl rfl rfl ?_
              refine o_lss (a := ((((m.code).getD (i) default)).reg)) (c := (((0 : Nat) : Int))) (Gd.yes rfl rfl rfl) rfl rfl ?_
              refine o_pickF (bp (((((m.code).getD (i) default)).reg) < (((0 : Nat) : Int)))) Gd.none rfl rfl rfl ?_
              refine o_mv (bp (((((m.code).getD (i) default)).reg) < (((0 : Nat) : Int)))) rfl ?_
              refine o_splitP (q := ((((m.code).getD (i) default)).reg) < (((0 : Nat) : Int))) 48 rfl (fun h14 => ?_) (fun h14 => ?_)
              · refine o_skip rfl rfl (decide_eq_true h14) ?_
                refine o_skip rfl rfl (decide_eq_true h14) ?_
                refine o_skip rfl rfl (decide_eq_true h14) ?_
                refine o_skip rfl rfl (decide_eq_true h14) ?_
                refine o_skip rfl rfl (decide_eq_true h14) ?_
                refine o_pickT (AV.lit (.bool true)) Gd.none rfl (decide_eq_true h14) rfl ?_
                refine o_mv (AV.lit (.bool true)) rfl ?_
                refine o_skip rfl rfl rfl ?_
                refine o_skip rfl rfl rfl ?_
                refine o_skip rfl rfl rfl ?_
                refine o_pickT (AV.lit (.bool true)) Gd.none rfl rfl rfl ?_
                refine o_mv (AV.lit (.bool true)) rfl ?_
                refine o_skip rfl rfl rfl ?_
                refine o_skip rfl rfl rfl ?_
                refine o_skip rfl rfl rfl ?_
                refine o_skip rfl rfl rfl ?_
                refine o_pickT (AV.lit (.bool true)) Gd.none rfl rfl rfl ?_
                refine o_mv (AV.lit (.bool true)) rfl ?_
                refine o_skip rfl rfl rfl ?_
                refine o_skip rfl rfl rfl ?_
                refine o_skip rfl rfl rfl ?_
                refine o_pickT (AV.lit (.bool true)) Gd.none rfl rfl rfl ?_
                refine o_mv (AV.lit (.bool true)) rfl ?_
                refine o_skip rfl rfl rfl ?_
                refine o_skip rfl rfl rfl ?_
                refine o_skip rfl rfl rfl ?_
                refine o_skip rfl rfl rfl ?_
                refine o_pickT (AV.lit (.bool true)) Gd.none rfl rfl rfl ?_
                refine o_mv (AV.lit (.bool true)) rfl ?_
                refine o_skip rfl rfl rfl ?_
                refine o_skip rfl rfl rfl ?_
                refine o_skip rfl rfl rfl ?_
                refine o_skip rfl rfl rfl ?_
                refine o_skipU rfl rfl ?_
                refine o_skipU rfl rfl ?_
                refine o_skipU rfl rfl ?_
                refine o_skip rfl rfl rfl ?_
                refine o_pickT (AV.lit (.bool true)) Gd.none rfl rfl rfl ?_
                refine aops_end ?_
                refine hK14 _ ?_
                refine awp_condB (b := true) rfl (fun _ => ?_) (fun hh => absurd (hh.symm.trans rfl) (by decide))
                refine awp_seq fun K22 hK22 => ?_
                refine awp_region rfl ?_
                refine o_as (AV.lit (.bool false)) rfl ?_
                refine aops_end ?_
                refine hK22 _ ?_
                refine awp_ret ?_
                refine post_ret ⟨[(AV.lit (.bool false))], And.intro (AV.le_refl _) (trivial), rfl, ?_⟩
                first | exact bpy ⟨by omega, by omega, by omega, by omega, fun x hx => by obtain ⟨k, hk, rfl⟩ := List.getElem_of_mem hx; have := hb k (by omega); rwa [List.getD_eq_getElem?_getD, List.getElem?_eq_getElem hk] at this⟩ | exact bpn (fun o => by obtain ⟨o1, o2, o3, o4, o5⟩ := o; omega) | exact bpn (fun o => by have hx := o.2.2.2.2 _ (gdm (d := default) (show i < m.code.length by omega)); clear hb o; unfold insP plc at hx; omega)
              · refine o_fieldRef 1 (Gd.yes rfl rfl (decide_eq_false h14)) Ym_tF50_1 rfl rfl ?_
                refine o_loadS (AV.lit (.int .i64 ((((m.code).getD (i) default)).reg))) (Gd.yes rfl rfl (decide_eq_false h14)) Ym_tS3 rfl rfl rfl ?_
                refine o_fieldRef 0 (Gd.yes rfl rfl (decide_eq_false h14)) Ym_tF24_0 rfl rfl ?_
                refine o_loadS (AV.lit (.int .i64 (m.regs))) (Gd.yes rfl rfl (decide_eq_false h14)) Ym_tS3 rfl rfl rfl ?_
                refine o_geq (a := ((((m.code).getD (i) default)).reg)) (c := (m.regs)) (Gd.yes rfl rfl (decide_eq_false h14)) rfl rfl ?_
                refine o_pickF (bp ((m.regs) ≤ ((((m.code).getD (i) default)).reg))) Gd.none rfl (decide_eq_false h14) rfl ?_
                refine o_mv (bp ((m.regs) ≤ ((((m.code).getD (i) default)).reg))) rfl ?_
                refine o_splitP (q := (m.regs) ≤ ((((m.code).getD (i) default)).reg)) 55 rfl (fun h15 => ?_) (fun h15 => ?_)
                · refine o_skip rfl rfl (decide_eq_true h15) ?_
                  refine o_skip rfl rfl (decide_eq_true h15) ?_
                  refine o_skip rfl rfl (decide_eq_true h15) ?_
                  refine o_pickT (AV.lit (.bool true)) Gd.none rfl (decide_eq_true h15) rfl ?_
                  refine o_mv (AV.lit (.bool true)) rfl ?_
                  refine o_skip rfl rfl rfl ?_
                  refine o_skip rfl rfl rfl ?_
                  refine o_skip rfl rfl rfl ?_
                  refine o_skip rfl rfl rfl ?_
                  refine o_pickT (AV.lit (.bool true)) Gd.none rfl rfl rfl ?_
                  refine o_mv (AV.lit (.bool true)) rfl ?_
                  refine o_skip rfl rfl rfl ?_
                  refine o_skip rfl rfl rfl ?_
                  refine o_skip rfl rfl rfl ?_
                  refine o_pickT (AV.lit (.bool true)) Gd.none rfl rfl rfl ?_
                  refine o_mv (AV.lit (.bool true)) rfl ?_
                  refine o_skip rfl rfl rfl ?_
                  refine o_skip rfl rfl rfl ?_
                  refine o_skip rfl rfl rfl ?_
                  refine o_skip rfl rfl rfl ?_
                  refine o_pickT (AV.lit (.bool true)) Gd.none rfl rfl rfl ?_
                  refine o_mv (AV.lit (.bool true)) rfl ?_
                  refine o_skip rfl rfl rfl ?_
                  refine o_skip rfl rfl rfl ?_
                  refine o_skip rfl rfl rfl ?_
                  refine o_skip rfl rfl rfl ?_
                  refine o_skipU rfl rfl ?_
                  refine o_skipU rfl rfl ?_
                  refine o_skipU rfl rfl ?_
                  refine o_skip rfl rfl rfl ?_
                  refine o_pickT (AV.lit (.bool true)) Gd.none rfl rfl rfl ?_
                  refine aops_end ?_
                  refine hK14 _ ?_
                  refine awp_condB (b := true) rfl (fun _ => ?_) (fun hh => absurd (hh.symm.trans rfl) (by decide))
                  refine awp_seq fun K23 hK23 => ?_
                  refine awp_region rfl ?_
                  refine o_as (AV.lit (.bool false)) rfl ?_
                  refine aops_end ?_
                  refine hK23 _ ?_
                  refine awp_ret ?_
                  refine post_ret ⟨[(AV.lit (.bool false))], And.intro (AV.le_refl _) (trivial), rfl, ?_⟩
                  first | exact bpy ⟨by omega, by omega, by omega, by omega, fun x hx => by obtain ⟨k, hk, rfl⟩ := List.getElem_of_mem hx; have := hb k (by omega); rwa [List.getD_eq_getElem?_getD, List.getElem?_eq_getElem hk] at this⟩ | exact bpn (fun o => by obtain ⟨o1, o2, o3, o4, o5⟩ := o; omega) | exact bpn (fun o => by have hx := o.2.2.2.2 _ (gdm (d := default) (show i < m.code.length by omega)); clear hb o; unfold insP plc at hx; omega)
                · refine o_fieldRef 2 (Gd.yes rfl rfl (decide_eq_false h15)) Ym_tF50_2 rfl rfl ?_
                  refine o_loadS (AV.lit (.int .i64 ((((m.code).getD (i) default)).next))) (Gd.yes rfl rfl (decide_eq_false h15)) Ym_tS3 rfl rfl rfl ?_
                  refine o_lss (a := ((((m.code).getD (i) default)).next)) (c := (((0 : Nat) : Int))) (Gd.yes rfl rfl (decide_eq_false h15)) rfl rfl ?_
                  refine o_pickF (bp (((((m.code).getD (i) default)).next) < (((0 : Nat) : Int)))) Gd.none rfl (decide_eq_false h15) rfl ?_
                  refine o_mv (bp (((((m.code).getD (i) default)).next) < (((0 : Nat) : Int)))) rfl ?_
                  refine o_splitP (q := ((((m.code).getD (i) default)).next) < (((0 : Nat) : Int))) 60 rfl (fun h16 => ?_) (fun h16 => ?_)
                  · refine o_skip rfl rfl (decide_eq_true h16) ?_
                    refine o_skip rfl rfl (decide_eq_true h16) ?_
                    refine o_skip rfl rfl (decide_eq_true h16) ?_
                    refine o_skip rfl rfl (decide_eq_true h16) ?_
                    refine o_pickT (AV.lit (.bool true)) Gd.none rfl (decide_eq_true h16) rfl ?_
                    refine o_mv (AV.lit (.bool true)) rfl ?_
                    refine o_skip rfl rfl rfl ?_
                    refine o_skip rfl rfl rfl ?_
                    refine o_skip rfl rfl rfl ?_
                    refine o_pickT (AV.lit (.bool true)) Gd.none rfl rfl rfl ?_
                    refine o_mv (AV.lit (.bool true)) rfl ?_
                    refine o_skip rfl rfl rfl ?_
                    refine o_skip rfl rfl rfl ?_
                    refine o_skip rfl rfl rfl ?_
                    refine o_skip rfl rfl rfl ?_
                    refine o_pickT (AV.lit (.bool true)) Gd.none rfl rfl rfl ?_
                    refine o_mv (AV.lit (.bool true)) rfl ?_
                    refine o_skip rfl rfl rfl ?_
                    refine o_skip rfl rfl rfl ?_
                    refine o_skip rfl rfl rfl ?_
                    refine o_skip rfl rfl rfl ?_
                    refine o_skipU rfl rfl ?_
                    refine o_skipU rfl rfl ?_
                    refine o_skipU rfl rfl ?_
                    refine o_skip rfl rfl rfl ?_
                    refine o_pickT (AV.lit (.bool true)) Gd.none rfl rfl rfl ?_
                    refine aops_end ?_
                    refine hK14 _ ?_
                    refine awp_condB (b := true) rfl (fun _ => ?_) (fun hh => absurd (hh.symm.trans rfl) (by decide))
                    refine awp_seq fun K24 hK24 => ?_
                    refine awp_region rfl ?_
                    refine o_as (AV.lit (.bool false)) rfl ?_
                    refine aops_end ?_
                    refine hK24 _ ?_
                    refine awp_ret ?_
                    refine post_ret ⟨[(AV.lit (.bool false))], And.intro (AV.le_refl _) (trivial), rfl, ?_⟩
                    first | exact bpy ⟨by omega, by omega, by omega, by omega, fun x hx => by obtain ⟨k, hk, rfl⟩ := List.getElem_of_mem hx; have := hb k (by omega); rwa [List.getD_eq_getElem?_getD, List.getElem?_eq_getElem hk] at this⟩ | exact bpn (fun o => by obtain ⟨o1, o2, o3, o4, o5⟩ := o; omega) | exact bpn (fun o => by have hx := o.2.2.2.2 _ (gdm (d := default) (show i < m.code.length by omega)); clear hb o; unfold insP plc at hx; omega)
                  · refine o_fieldRef 2 (Gd.yes rfl rfl (decide_eq_false h16)) Ym_tF50_2 rfl rfl ?_
                    refine o_loadS (AV.lit (.int .i64 ((((m.code).getD (i) default)).next))) (Gd.yes rfl rfl (decide_eq_false h16)) Ym_tS3 rfl rfl rfl ?_
                    refine o_move (nm .i64 (m.code.length)) (Gd.yes rfl rfl (decide_eq_false h16)) rfl ?_
                    refine o_gtr (a := ((((m.code).getD (i) default)).next)) (c := (((m.code.length : Nat) : Int))) (Gd.yes rfl rfl (decide_eq_false h16)) rfl rfl ?_
                    refine o_pickF (bp ((((m.code.length : Nat) : Int)) < ((((m.code).getD (i) default)).next))) Gd.none rfl (decide_eq_false h16) rfl ?_
                    refine o_mv (bp ((((m.code.length : Nat) : Int)) < ((((m.code).getD (i) default)).next))) rfl ?_
                    refine o_splitP (q := (((m.code.length : Nat) : Int)) < ((((m.code).getD (i) default)).next)) 66 rfl (fun h17 => ?_) (fun h17 => ?_)
                    · refine o_skip rfl rfl (decide_eq_true h17) ?_
                      refine o_skip rfl rfl (decide_eq_true h17) ?_
                      refine o_skip rfl rfl (decide_eq_true h17) ?_
                      refine o_pickT (AV.lit (.bool true)) Gd.none rfl (decide_eq_true h17) rfl ?_
                      refine o_mv (AV.lit (.bool true)) rfl ?_
                      refine o_skip rfl rfl rfl ?_
                      refine o_skip rfl rfl rfl ?_
                      refine o_skip rfl rfl rfl ?_
                      refine o_skip rfl rfl rfl ?_
                      refine o_pickT (AV.lit (.bool true)) Gd.none rfl rfl rfl ?_
                      refine o_mv (AV.lit (.bool true)) rfl ?_
                      refine o_skip rfl rfl rfl ?_
                      refine o_skip rfl rfl rfl ?_
                      refine o_skip rfl rfl rfl ?_
                      refine o_skip rfl rfl rfl ?_
                      refine o_skipU rfl rfl ?_
                      refine o_skipU rfl rfl ?_
                      refine o_skipU rfl rfl ?_
                      refine o_skip rfl rfl rfl ?_
                      refine o_pickT (AV.lit (.bool true)) Gd.none rfl rfl rfl ?_
                      refine aops_end ?_
                      refine hK14 _ ?_
                      refine awp_condB (b := true) rfl (fun _ => ?_) (fun hh => absurd (hh.symm.trans rfl) (by decide))
                      refine awp_seq fun K25 hK25 => ?_
                      refine awp_region rfl ?_
                      refine o_as (AV.lit (.bool false)) rfl ?_
                      refine aops_end ?_
                      refine hK25 _ ?_
                      refine awp_ret ?_
                      refine post_ret ⟨[(AV.lit (.bool false))], And.intro (AV.le_refl _) (trivial), rfl, ?_⟩
                      first | exact bpy ⟨by omega, by omega, by omega, by omega, fun x hx => by obtain ⟨k, hk, rfl⟩ := List.getElem_of_mem hx; have := hb k (by omega); rwa [List.getD_eq_getElem?_getD, List.getElem?_eq_getElem hk] at this⟩ | exact bpn (fun o => by obtain ⟨o1, o2, o3, o4, o5⟩ := o; omega) | exact bpn (fun o => by have hx := o.2.2.2.2 _ (gdm (d := default) (show i < m.code.length by omega)); clear hb o; unfold insP plc at hx; omega)
                    · refine o_fieldRef 3 (Gd.yes rfl rfl (decide_eq_false h17)) Ym_tF50_3 rfl rfl ?_
                      refine o_loadS (AV.lit (.int .i64 ((((m.code).getD (i) default)).els))) (Gd.yes rfl rfl (decide_eq_false h17)) Ym_tS3 rfl rfl rfl ?_
                      refine o_lss (a := ((((m.code).getD (i) default)).els)) (c := (((0 : Nat) : Int))) (Gd.yes rfl rfl (decide_eq_false h17)) rfl rfl ?_
                      refine o_pickF (bp (((((m.code).getD (i) default)).els) < (((0 : Nat) : Int)))) Gd.none rfl (decide_eq_false h17) rfl ?_
                      refine o_mv (bp (((((m.code).getD (i) default)).els) < (((0 : Nat) : Int)))) rfl ?_
                      refine o_splitP (q := ((((m.code).getD (i) default)).els) < (((0 : Nat) : Int))) 71 rfl (fun h18 => ?_) (fun h18 => ?_)
                      · refine o_skip rfl rfl (decide_eq_true h18) ?_
                        refine o_skip rfl rfl (decide_eq_true h18) ?_
                        refine o_skip rfl rfl (decide_eq_true h18) ?_
                        refine o_skip rfl rfl (decide_eq_true h18) ?_
                        refine o_pickT (AV.lit (.bool true)) Gd.none rfl (decide_eq_true h18) rfl ?_
                        refine o_mv (AV.lit (.bool true)) rfl ?_
                        refine o_skip rfl rfl rfl ?_
                        refine o_skip rfl rfl rfl ?_
                        refine o_skip rfl rfl rfl ?_
                        refine o_skip rfl rfl rfl ?_
                        refine o_skipU rfl rfl ?_
                        refine o_skipU rfl rfl ?_
                        refine o_skipU rfl rfl ?_
                        refine o_skip rfl rfl rfl ?_
                        refine o_pickT (AV.lit (.bool true)) Gd.none rfl rfl rfl ?_
                        refine aops_end ?_
                        refine hK14 _ ?_
                        refine awp_condB (b := true) rfl (fun _ => ?_) (fun hh => absurd (hh.symm.trans rfl) (by decide))
                        refine awp_seq fun K26 hK26 => ?_
                        refine awp_region rfl ?_
                        refine o_as (AV.lit (.bool false)) rfl ?_
                        refine aops_end ?_
                        refine hK26 _ ?_
                        refine awp_ret ?_
                        refine post_ret ⟨[(AV.lit (.bool false))], And.intro (AV.le_refl _) (trivial), rfl, ?_⟩
                        first | exact bpy ⟨by omega, by omega, by omega, by omega, fun x hx => by obtain ⟨k, hk, rfl⟩ := List.getElem_of_mem hx; have := hb k (by omega); rwa [List.getD_eq_getElem?_getD, List.getElem?_eq_getElem hk] at this⟩ | exact bpn (fun o => by obtain ⟨o1, o2, o3, o4, o5⟩ := o; omega) | exact bpn (fun o => by have hx := o.2.2.2.2 _ (gdm (d := default) (show i < m.code.length by omega)); clear hb o; unfold insP plc at hx; omega)
                      · refine o_fieldRef 3 (Gd.yes rfl rfl (decide_eq_false h18)) Ym_tF50_3 rfl rfl ?_
                        refine o_loadS (AV.lit (.int .i64 ((((m.code).getD (i) default)).els))) (Gd.yes rfl rfl (decide_eq_false h18)) Ym_tS3 rfl rfl rfl ?_
                        refine o_move (nm .i64 (m.code.length)) (Gd.yes rfl rfl (decide_eq_false h18)) rfl ?_
                        refine o_gtr (a := ((((m.code).getD (i) default)).els)) (c := (((m.code.length : Nat) : Int))) (Gd.yes rfl rfl (decide_eq_false h18)) rfl rfl ?_
                        refine o_pickF (bp ((((m.code.length : Nat) : Int)) < ((((m.code).getD (i) default)).els))) Gd.none rfl (decide_eq_false h18) rfl ?_
                        refine o_mv (bp ((((m.code.length : Nat) : Int)) < ((((m.code).getD (i) default)).els))) rfl ?_
                        refine o_splitP (q := (((m.code.length : Nat) : Int)) < ((((m.code).getD (i) default)).els)) 77 rfl (fun h19 => ?_) (fun h19 => ?_)
                        · refine o_skip rfl rfl (decide_eq_true h19) ?_
                          refine o_skip rfl rfl (decide_eq_true h19) ?_
                          refine o_skip rfl rfl (decide_eq_true h19) ?_
                          refine o_skip rfl rfl (decide_eq_true h19) ?_
                          refine o_skipU rfl rfl ?_
                          refine o_skipU rfl rfl ?_
                          refine o_skipU rfl rfl ?_
                          refine o_skip rfl rfl (decide_eq_true h19) ?_
                          refine o_pickT (AV.lit (.bool true)) Gd.none rfl (decide_eq_true h19) rfl ?_
                          refine aops_end ?_
                          refine hK14 _ ?_
                          refine awp_condB (b := true) rfl (fun _ => ?_) (fun hh => absurd (hh.symm.trans rfl) (by decide))
                          refine awp_seq fun K27 hK27 => ?_
                          refine awp_region rfl ?_
                          refine o_as (AV.lit (.bool false)) rfl ?_
                          refine aops_end ?_
                          refine hK27 _ ?_
                          refine awp_ret ?_
                          refine post_ret ⟨[(AV.lit (.bool false))], And.intro (AV.le_refl _) (trivial), rfl, ?_⟩
                          first | exact bpy ⟨by omega, by omega, by omega, by omega, fun x hx => by obtain ⟨k, hk, rfl⟩ := List.getElem_of_mem hx; have := hb k (by omega); rwa [List.getD_eq_getElem?_getD, List.getElem?_eq_getElem hk] at this⟩ | exact bpn (fun o => by obtain ⟨o1, o2, o3, o4, o5⟩ := o; omega) | exact bpn (fun o => by have hx := o.2.2.2.2 _ (gdm (d := default) (show i < m.code.length by omega)); clear hb o; unfold insP plc at hx; omega)
                        · refine o_fieldRef 0 (Gd.yes rfl rfl (decide_eq_false h19)) Ym_tF50_0 rfl rfl ?_
                          refine o_loadS (AV.lit (.int .i64 ((((m.code).getD (i) default)).kind))) (Gd.yes rfl rfl (decide_eq_false h19)) Ym_tS3 rfl rfl rfl ?_
                          refine o_eql (a := ((((m.code).getD (i) default)).kind)) (c := (((0 : Nat) : Int))) (Gd.yes rfl rfl (decide_eq_false h19)) rfl rfl ?_
                          refine o_move (bp (((((m.code).getD (i) default)).kind) = (((0 : Nat) : Int)))) (Gd.yes rfl rfl (decide_eq_false h19)) rfl ?_
                          refine o_fieldRef 3 (Gd.yes rfl rfl (decide_eq_true (Decidable.not_not.1 h6))) Ym_tF50_3 rfl rfl ?_
                          refine o_loadS (AV.lit (.int .i64 ((((m.code).getD (i) default)).els))) (Gd.yes rfl rfl (decide_eq_true (Decidable.not_not.1 h6))) Ym_tS3 rfl rfl rfl ?_
                          refine o_neq (a := ((((m.code).getD (i) default)).els)) (c := (((0 : Nat) : Int))) (Gd.yes rfl rfl (decide_eq_true (Decidable.not_not.1 h6))) rfl rfl ?_
                          refine o_pickT (bp (((((m.code).getD (i) default)).els) ≠ (((0 : Nat) : Int)))) (Gd.yes rfl rfl (decide_eq_false h19)) rfl (decide_eq_true (Decidable.not_not.1 h6)) rfl ?_
                          refine o_pickF (bp (((((m.code).getD (i) default)).els) ≠ (((0 : Nat) : Int)))) Gd.none rfl (decide_eq_false h19) rfl ?_
                          refine aops_end ?_
                          refine hK14 _ ?_
                          refine awp_condQ (q := ((((m.code).getD (i) default)).els) ≠ (((0 : Nat) : Int))) rfl (fun h20 => ?_) (fun h20 => ?_)
                          · refine awp_seq fun K28 hK28 => ?_
                            refine awp_region rfl ?_
                            refine o_as (AV.lit (.bool false)) rfl ?_
                            refine aops_end ?_
                            refine hK28 _ ?_
                            refine awp_ret ?_
                            refine post_ret ⟨[(AV.lit (.bool false))], And.intro (AV.le_refl _) (trivial), rfl, ?_⟩
                            first | exact bpy ⟨by omega, by omega, by omega, by omega, fun x hx => by obtain ⟨k, hk, rfl⟩ := List.getElem_of_mem hx; have := hb k (by omega); rwa [List.getD_eq_getElem?_getD, List.getElem?_eq_getElem hk] at this⟩ | exact bpn (fun o => by obtain ⟨o1, o2, o3, o4, o5⟩ := o; omega) | exact bpn (fun o => by have hx := o.2.2.2.2 _ (gdm (d := default) (show i < m.code.length by omega)); clear hb o; unfold insP plc at hx; omega)
                          · refine awp_skip ?_
                            refine hK12 _ ?_
                            refine awp_region rfl ?_
                            refine o_mv (nm .i64 (i)) rfl ?_
                            refine n_add (i) (1) Gd.none rfl rfl (by simp only [topOf]; omega) ?_
                            refine o_as (nm .i64 ((i) + (1))) rfl ?_
                            refine aops_end ?_
                            refine ⟨_, _, ?lt, ⟨i + 1, (by omega), (fun k hk => by rcases Nat.lt_or_ge k i with e | e; exact hb k e; rw [show k = i by omega]; clear hb; unfold insP plc; omega), rfl, rfl⟩, ?wk⟩
                            case lt => omega
                            case wk => exact Wk.sub (And.intro rfl (And.intro rfl (And.intro (by first | rfl | exact congrArg (nm _) (by omega) | exact nm_int (by omega) | exact nm_int (by simp [IntKind.wrap, IntKind.bits, IntKind.signed]; omega)) (trivial)))) (And.intro rfl (trivial))
          · refine awp_exit ?_
            refine hK8 _ ?_
            refine awp_seq fun K29 hK29 => ?_
            refine awp_region rfl ?_
            refine o_as (AV.lit (.bool true)) rfl ?_
            refine aops_end ?_
            refine hK29 _ ?_
            refine awp_ret ?_
            refine post_ret ⟨[(AV.lit (.bool true))], And.intro (AV.le_refl _) (trivial), rfl, ?_⟩
            first | exact bpy ⟨by omega, by omega, by omega, by omega, fun x hx => by obtain ⟨k, hk, rfl⟩ := List.getElem_of_mem hx; have := hb k (by omega); rwa [List.getD_eq_getElem?_getD, List.getElem?_eq_getElem hk] at this⟩ | exact bpn (fun o => by obtain ⟨o1, o2, o3, o4, o5⟩ := o; omega) | exact bpn (fun o => by have hx := o.2.2.2.2 _ (gdm (d := default) (show i < m.code.length by omega)); clear hb o; unfold insP plc at hx; omega)

end Go.Proofs.YtnejjdcbbminaaaDoor

set_option linter.unusedVariables false
set_option linter.unusedSimpArgs false
namespace Go.Mth
open Go Go.Ab
def insAt (m : Mac) (c : Cfg) : Ins := m.code.getD c.at'.toNat default
def regAt (m : Mac) (c : Cfg) : Int := c.regs.getD (insAt m c).reg.toNat 0
def stpE (m : Mac) (c : Cfg) : Nat := if c.at' = (m.code.length : Int) then 6 else if (insAt m c).kind = 0 ∧ regAt m c = 1000 then 3 else 0
def stpC (m : Mac) (c : Cfg) : Cfg := if (insAt m c).kind = 0 then ⟨(insAt m c).next, c.regs.set (insAt m c).reg.toNat (regAt m c + 1)⟩ else if 0 < regAt m c then ⟨(insAt m c).next, c.regs.set (insAt m c).reg.toNat (regAt m c - 1)⟩ else ⟨(insAt m c).els, c.regs⟩
def resC (m : Mac) (c : Cfg) : Cfg := if stpE m c = 0 then stpC m c else ⟨0, []⟩
def nxC (m : Mac) (c : Cfg) : Cfg := if stpE m c = 0 then stpC m c else c
section
variable {m : Mac} {c : Cfg}
end
noncomputable def stA (m : Mac) (c : Cfg) : Cfg := if okCfg m c then resC m c else ⟨0, []⟩
noncomputable def stAE (m : Mac) (c : Cfg) : Nat := if okCfg m c then stpE m c else 1
def rnm (m : Mac) : Nat → Cfg → Nat → Cfg × Nat × Nat
  | 0, c, i => (c, i, 0)
  | k + 1, c, i => if stpE m c = 6 then (c, i, 0) else if stpE m c = 0 then rnm m k (stpC m c) (i + 1) else (⟨0, []⟩, 0, stpE m c)
noncomputable def rnA (m : Mac) (c : Cfg) (k : Int) : Cfg × Nat × Nat := if okCfg m c then (if 0 ≤ k ∧ k ≤ 20000 then rnm m k.toNat c 0 else (⟨0, []⟩, 0, 2)) else (⟨0, []⟩, 0, 1)
def zC : Cfg := ⟨0, []⟩
end Go.Mth

set_option linter.unusedVariables false
set_option linter.unusedSimpArgs false
namespace Go.Proofs.YtnejjdcbbminaaaDoor
open Go Go.Ab Go.Mth
theorem Yo_tF27_0 : tyField cx.P 27 0 = some (0, 3) := by kernel_rfl
theorem Yo_tS3 : tySc cx.P 3 = true := by kernel_rfl
theorem Yo_tF27_1 : tyField cx.P 27 1 = some (1, 25) := by kernel_rfl
theorem Yo_tS25 : tySc cx.P 25 = true := by kernel_rfl
theorem Yo_tU25 : cx.P.underlying 25 = some (.slice 3) := by kernel_rfl
theorem Yo_tE25 : tyElem cx.P 25 = some (3, 1, 8) := by kernel_rfl
theorem c_vSameCfg (c : Cfg) (hb : c.regs.length ≤ 17592186044416) : ECalls cx 10 [(cfgV c), (cfgV c)] (.lit (.bool true)) := by
  refine ecalls_of_awp Tryd.func10 (c := _) rfl (Nat.le_of_ble_eq_true rfl) ?_
  show awp cx 38 _ (postF cx Tryd.f10 _) ⟨[(0, (cfgV c)), (1, (cfgV c))], []⟩
  refine awp_seq fun K0 hK0 => ?_
  refine awp_region rfl ?_
  refine o_box 2 [(AV.lit (.int .i64 (c.at'))), (AV.sl 1 (is .i64 (c.regs)))] Gd.none rfl rfl ?_
  refine o_box 3 [(AV.lit (.int .i64 (c.at'))), (AV.sl 1 (is .i64 (c.regs)))] Gd.none rfl rfl ?_
  refine o_as (AV.lit (.bool false)) rfl ?_
  refine aops_end ?_
  refine hK0 _ ?_
  refine awp_seq fun K1 hK1 => ?_
  refine awp_seq fun K2 hK2 => ?_
  refine awp_region rfl ?_
  refine o_fieldRef 0 Gd.none Yo_tF27_0 rfl rfl ?_
  refine o_loadS (AV.lit (.int .i64 (c.at'))) Gd.none Yo_tS3 rfl rfl rfl ?_
  refine o_fieldRef 0 Gd.none Yo_tF27_0 rfl rfl ?_
  refine o_loadS (AV.lit (.int .i64 (c.at'))) Gd.none Yo_tS3 rfl rfl rfl ?_
  refine o_neq (a := (c.at')) (c := (c.at')) Gd.none rfl rfl ?_
  refine o_mv (bp ((c.at') ≠ (c.at'))) rfl ?_
  refine o_fieldRef 1 (Gd.yes rfl rfl (decide_eq_false (fun h => h rfl))) Yo_tF27_1 rfl rfl ?_
  refine o_loadS (AV.sl 1 (is .i64 (c.regs))) (Gd.yes rfl rfl (decide_eq_false (fun h => h rfl))) Yo_tS25 rfl rfl rfl ?_
  refine i_len (c.regs) (Gd.yes rfl rfl (decide_eq_false (fun h => h rfl))) Yo_tU25 rfl ?_
  refine o_fieldRef 1 (Gd.yes rfl rfl (decide_eq_false (fun h => h rfl))) Yo_tF27_1 rfl rfl ?_
  refine o_loadS (AV.sl 1 (is .i64 (c.regs))) (Gd.yes rfl rfl (decide_eq_false (fun h => h rfl))) Yo_tS25 rfl rfl rfl ?_
  refine i_len (c.regs) (Gd.yes rfl rfl (decide_eq_false (fun h => h rfl))) Yo_tU25 rfl ?_
  refine n_neq ((c.regs).length) ((c.regs).length) (Gd.yes rfl rfl (decide_eq_false (fun h => h rfl))) rfl rfl ?_
  refine o_pickF (bp (((c.regs).length) ≠ ((c.regs).length))) Gd.none rfl (decide_eq_false (fun h => h rfl)) rfl ?_
  refine aops_end ?_
  refine hK2 _ ?_
  refine awp_condB (b := decide (((c.regs).length) ≠ ((c.regs).length))) rfl (fun hh => absurd (hh.symm.trans (decide_eq_false (fun h => h rfl))) (by decide)) (fun _ => ?_)
  refine awp_skip ?_
  refine hK1 _ ?_
  refine awp_seq fun K3 hK3 => ?_
  refine awp_seq fun K4 hK4 => ?_
  refine awp_region rfl ?_
  refine o_as (nm .i64 (0)) rfl ?_
  refine aops_end ?_
  refine hK4 _ ?_
  refine awp_block ?_
  refine awp_loopR (fun κ σ => ∃ (i : Nat), (i ≤ c.regs.length) ∧ (c.regs.length - i) = κ ∧ σ = ⟨[(2, (AV.ref 2 (0))), (3, (AV.ref 3 (0))), (5, (nm .i64 (i)))], [(2, (AO.var 27 [(AV.lit (.int .i64 (c.at'))), (AV.sl 1 (is .i64 (c.regs)))])), (3, (AO.var 27 [(AV.lit (.int .i64 (c.at'))), (AV.sl 1 (is .i64 (c.regs)))]))]⟩) ⟨_, _, ⟨0, (by omega), rfl, rfl⟩, ?wk0⟩ ?rd0
  case wk0 =>
    exact Wk.sub (And.intro rfl (And.intro rfl (And.intro (by first | rfl | exact congrArg (nm _) (by omega) | exact nm_int (by omega) | exact nm_int (by simp [IntKind.wrap, IntKind.bits, IntKind.signed]; omega)) (trivial)))) (And.intro rfl (And.intro rfl (trivial)))
  rintro κ _ ⟨i, hi, rfl, rfl⟩
  refine awp_seq fun K5 hK5 => ?_
  refine awp_seq fun K6 hK6 => ?_
  refine awp_region rfl ?_
  refine o_mv (nm .i64 (i)) rfl ?_
  refine o_fieldRef 1 Gd.none Yo_tF27_1 rfl rfl ?_
  refine o_loadS (AV.sl 1 (is .i64 (c.regs))) Gd.none Yo_tS25 rfl rfl rfl ?_
  refine i_len (c.regs) Gd.none Yo_tU25 rfl ?_
  refine n_lss (i) ((c.regs).length) Gd.none rfl rfl ?_
  refine aops_end ?_
  refine hK6 _ ?_
  refine awp_condQ (q := (i) < ((c.regs).length)) rfl (fun h1 => ?_) (fun h1 => ?_)
  · refine awp_skip ?_
    refine hK5 _ ?_
    refine awp_seq fun K7 hK7 => ?_
    refine awp_block ?_
    refine awp_seq fun K8 hK8 => ?_
    refine awp_regionD rfl ?_
    refine o_fieldRef 1 Gd.none Yo_tF27_1 rfl rfl ?_
    refine o_loadS (AV.sl 1 (is .i64 (c.regs))) Gd.none Yo_tS25 rfl rfl rfl ?_
    refine o_mv (nm .i64 (i)) rfl ?_
    refine i_index (c.regs) (i) Gd.none Yo_tE25 rfl rfl (by omega) ?_
    refine i_loadI (c.regs) (i) Gd.none Yo_tS3 rfl (by omega) ?_
    refine o_fieldRef 1 Gd.none Yo_tF27_1 rfl rfl ?_
    refine o_loadS (AV.sl 1 (is .i64 (c.regs))) Gd.none Yo_tS25 rfl rfl rfl ?_
    refine o_mv (nm .i64 (i)) rfl ?_
    refine i_index (c.regs) (i) Gd.none Yo_tE25 rfl rfl (by omega) ?_
    refine i_loadI (c.regs) (i) Gd.none Yo_tS3 rfl (by omega) ?_
    refine o_neq (a := ((c.regs).getD (i) 0)) (c := ((c.regs).getD (i) 0)) Gd.none rfl rfl ?_
    refine aops_end ⟨by kernel_rfl, ?_⟩
    refine hK8 _ ?_
    refine awp_condB (b := decide (((c.regs).getD (i) 0) ≠ ((c.regs).getD (i) 0))) rfl (fun hh => absurd (hh.symm.trans (decide_eq_false (fun h => h rfl))) (by decide)) (fun _ => ?_)
    refine awp_skip ?_
    refine hK7 _ ?_
    refine awp_region rfl ?_
    refine o_mv (nm .i64 (i)) rfl ?_
    refine n_add (i) (1) Gd.none rfl rfl (by simp only [topOf]; omega) ?_
    refine o_as (nm .i64 ((i) + (1))) rfl ?_
    refine aops_end ?_
    refine ⟨_, _, ?lt, ⟨i + 1, (by omega), rfl, rfl⟩, ?wk⟩
    case lt => omega
    case wk => exact Wk.sub (And.intro rfl (And.intro rfl (And.intro (by first | rfl | exact congrArg (nm _) (by omega) | exact nm_int (by omega) | exact nm_int (by simp [IntKind.wrap, IntKind.bits, IntKind.signed]; omega)) (trivial)))) (And.intro rfl (And.intro rfl (trivial)))
  · refine awp_exit ?_
    refine hK3 _ ?_
    refine awp_seq fun K9 hK9 => ?_
    refine awp_region rfl ?_
    refine o_as (AV.lit (.bool true)) rfl ?_
    refine aops_end ?_
    refine hK9 _ ?_
    refine awp_ret ?_
    refine post_ret ⟨[(AV.lit (.bool true))], And.intro (AV.le_refl _) (trivial), rfl, ?_⟩
    rfl

end Go.Proofs.YtnejjdcbbminaaaDoor

set_option linter.unusedVariables false
set_option linter.unusedSimpArgs false
namespace Go.Proofs.YtnejjdcbbminaaaDoor
open Go Go.Ab Go.Mth
theorem Yc_tC38 : callable cx.P 38 = true := by kernel_rfl
theorem Yc_tC49 : callable cx.P 49 = true := by kernel_rfl
theorem Yc_tF54_0 : tyField cx.P 54 0 = some (0, 9) := by kernel_rfl
theorem Yc_tS9 : tySc cx.P 9 = true := by kernel_rfl
theorem Yc_tC26 : callable cx.P 26 = true := by kernel_rfl
theorem Yc_tF54_1 : tyField cx.P 54 1 = some (1, 9) := by kernel_rfl
theorem Yc_tC77 : callable cx.P 77 = true := by kernel_rfl
theorem Yc_tA54 : tyAgg cx.P 54 = some 2 := by kernel_rfl
theorem Yc_tC65 : callable cx.P 65 = true := by kernel_rfl
theorem Yc_tU38 : cx.P.underlying 38 = some (.slice 54) := by kernel_rfl
theorem Yc_tE38 : tyElem cx.P 38 = some (54, 2, 32) := by kernel_rfl
theorem Yc_tC64 : callable cx.P 64 = true := by kernel_rfl
theorem Yc_tC76 : callable cx.P 76 = true := by kernel_rfl
theorem Yc_tC63 : callable cx.P 63 = true := by kernel_rfl
theorem Yc_tC53 : callable cx.P 53 = true := by kernel_rfl
theorem Yc_tO54 : tyZero cx.P 54 = some [(Go.Value.string {data := #[]}), (Go.Value.string {data := #[]})] := by kernel_rfl
theorem Yc_tZ54 : tySize cx.P 54 = some 2 := by kernel_rfl
theorem Yc_tC50 : callable cx.P 50 = true := by kernel_rfl
theorem c_positive (a : ByteArray) (ha : a.size ≤ 9223372036854775807) : ECalls cx 26 [(AV.lit (.string (a)))] (nm .i64 (posE a)) := by
  refine ecalls_of_awp Tryd.func26 (c := _) rfl (Nat.le_of_ble_eq_true rfl) ?_
  show awp cx 15 _ (postF cx Tryd.f26 _) ⟨[(0, (AV.lit (.string (a))))], []⟩
  refine awp_seq fun K0 hK0 => ?_
  refine awp_region rfl ?_
  refine o_as (nm .i64 (0)) rfl ?_
  refine aops_end ?_
  refine hK0 _ ?_
  refine awp_seq fun K1 hK1 => ?_
  refine awp_seq fun K2 hK2 => ?_
  refine awp_region rfl ?_
  refine o_mv (AV.lit (.string (a))) rfl ?_
  refine o_ct (c_nValid (a) (by first | assumption | decide | omega)) Gd.none Yc_tC38 rfl ?_
  refine o_not (b := okS (a)) Gd.none rfl ?_
  refine aops_end ?_
  refine hK2 _ ?_
  refine awp_condB (b := !(okS (a))) rfl (fun h1 => ?_) (fun h1 => ?_)
  · refine awp_seq fun K3 hK3 => ?_
    refine awp_region rfl ?_
    refine o_as (nm .i64 (1)) rfl ?_
    refine aops_end ?_
    refine hK3 _ ?_
    refine awp_ret ?_
    refine post_ret ⟨[(nm .i64 (1))], And.intro (AV.le_refl _) (trivial), rfl, ?_⟩
    exact congrArg (nm .i64) (if_neg (by simpa using h1))
  · refine awp_skip ?_
    refine hK1 _ ?_
    refine awp_seq fun K4 hK4 => ?_
    refine awp_seq fun K5 hK5 => ?_
    refine awp_region rfl ?_
    refine o_mv (AV.lit (.string (a))) rfl ?_
    refine o_ct (c_nCompare (a) (({data := #[48]} : ByteArray)) (by first | assumption | decide | omega) (by first | assumption | decide | omega)) Gd.none Yc_tC49 rfl ?_
    refine o_mv (AV.tup [(AV.lit (.int .i64 ((if okS (a) && okS (({data := #[48]} : ByteArray)) then (cmpZ (numS (a)) (numS (({data := #[48]} : ByteArray)))) else (0))))), (nm .i64 ((if okS (a) && okS (({data := #[48]} : ByteArray)) then (0) else (1))))]) rfl ?_
    refine o_extract (AV.lit (.int .i64 ((if okS (a) && okS (({data := #[48]} : ByteArray)) then (cmpZ (numS (a)) (numS (({data := #[48]} : ByteArray)))) else (0))))) Gd.none rfl rfl ?_
    refine o_extract (nm .i64 ((if okS (a) && okS (({data := #[48]} : ByteArray)) then (0) else (1)))) Gd.none rfl rfl ?_
    refine o_as (AV.lit (.int .i64 ((if okS (a) && okS (({data := #[48]} : ByteArray)) then (cmpZ (numS (a)) (numS (({data := #[48]} : ByteArray)))) else (0))))) rfl ?_
    refine o_as (nm .i64 ((if okS (a) && okS (({data := #[48]} : ByteArray)) then (0) else (1)))) rfl ?_
    refine aops_end ?_
    refine hK5 _ ?_
    refine awp_seq fun K6 hK6 => ?_
    refine awp_region rfl ?_
    refine o_mv (AV.lit (.int .i64 ((if okS (a) && okS (({data := #[48]} : ByteArray)) then (cmpZ (numS (a)) (numS (({data := #[48]} : ByteArray)))) else (0))))) rfl ?_
    refine o_leq (a := ((if okS (a) && okS (({data := #[48]} : ByteArray)) then (cmpZ (numS (a)) (numS (({data := #[48]} : ByteArray)))) else (0)))) (c := (((0 : Nat) : Int))) Gd.none rfl rfl ?_
    refine aops_end ?_
    refine hK6 _ ?_
    refine awp_condQ (q := ((if okS (a) && okS (({data := #[48]} : ByteArray)) then (cmpZ (numS (a)) (numS (({data := #[48]} : ByteArray)))) else (0))) ≤ (((0 : Nat) : Int))) rfl (fun h2 => ?_) (fun h2 => ?_)
    · refine awp_seq fun K7 hK7 => ?_
      refine awp_region rfl ?_
      refine o_as (nm .i64 (2)) rfl ?_
      refine aops_end ?_
      refine hK7 _ ?_
      refine awp_ret ?_
      refine post_ret ⟨[(nm .i64 (2))], And.intro (AV.le_refl _) (trivial), rfl, ?_⟩
      exact congrArg (nm .i64) ((if_pos (by simpa using h1)).trans (if_neg (fun e => absurd (cmpZ_le.1 (by rw [cmp_0 a (by simpa using h1)] at h2; exact h2)) (by omega))))
    · refine awp_skip ?_
      refine hK4 _ ?_
      refine awp_seq fun K8 hK8 => ?_
      refine awp_region rfl ?_
      refine o_as (nm .i64 (0)) rfl ?_
      refine aops_end ?_
      refine hK8 _ ?_
      refine awp_ret ?_
      refine post_ret ⟨[(nm .i64 (0))], And.intro (AV.le_refl _) (trivial), rfl, ?_⟩
      exact congrArg (nm .i64) ((if_pos (by simpa using h1)).trans (if_pos (by rw [cmp_0 a (by simpa using h1)] at h2; have := (not_congr cmpZ_le).1 h2; omega)))

theorem c_reduced (f : Frc) (hn : f.num.size ≤ 9223372036854775807) (hd : f.den.size ≤ 9223372036854775807) : ECalls cx 65 [(AV.agg [(AV.lit (.string ((f).num))), (AV.lit (.string ((f).den)))])] (bp (redP f)) := by
  refine ecalls_of_awp Tryd.func65 (c := _) rfl (Nat.le_of_ble_eq_true rfl) ?_
  show awp cx 25 _ (postF cx Tryd.f65 _) ⟨[(0, (AV.agg [(AV.lit (.string ((f).num))), (AV.lit (.string ((f).den)))]))], []⟩
  refine awp_seq fun K0 hK0 => ?_
  refine awp_region rfl ?_
  refine o_box 2 [(AV.lit (.string ((f).num))), (AV.lit (.string ((f).den)))] Gd.none rfl rfl ?_
  refine o_as (AV.lit (.bool false)) rfl ?_
  refine aops_end ?_
  refine hK0 _ ?_
  refine awp_seq fun K1 hK1 => ?_
  refine awp_seq fun K2 hK2 => ?_
  refine awp_region rfl ?_
  refine o_fieldRef 0 Gd.none Yc_tF54_0 rfl rfl ?_
  refine o_loadS (AV.lit (.string ((f).num))) Gd.none Yc_tS9 rfl rfl rfl ?_
  refine o_ct (c_positive ((f).num) (by first | assumption | decide | omega)) Gd.none Yc_tC26 rfl ?_
  refine n_neq (posE ((f).num)) (0) Gd.none rfl rfl ?_
  refine o_mv (bp ((posE ((f).num)) ≠ (0))) rfl ?_
  refine o_splitP (q := (posE ((f).num)) ≠ (0)) 9 rfl (fun h1 => ?_) (fun h1 => ?_)
  · refine o_skip rfl rfl (decide_eq_true h1) ?_
    refine o_skip rfl rfl (decide_eq_true h1) ?_
    refine o_skip rfl rfl (decide_eq_true h1) ?_
    refine o_skip rfl rfl (decide_eq_true h1) ?_
    refine o_pickT (AV.lit (.bool true)) Gd.none rfl (decide_eq_true h1) rfl ?_
    refine aops_end ?_
    refine hK2 _ ?_
    refine awp_condB (b := true) rfl (fun _ => ?_) (fun hh => absurd (hh.symm.trans rfl) (by decide))
    refine awp_seq fun K3 hK3 => ?_
    refine awp_region rfl ?_
    refine o_as (AV.lit (.bool false)) rfl ?_
    refine aops_end ?_
    refine hK3 _ ?_
    refine awp_ret ?_
    refine post_ret ⟨[(AV.lit (.bool false))], And.intro (AV.le_refl _) (trivial), rfl, ?_⟩
    exact bpn (fun o => h1 (posE_0.2 o.1))
  · refine o_fieldRef 1 (Gd.yes rfl rfl (decide_eq_false h1)) Yc_tF54_1 rfl rfl ?_
    refine o_loadS (AV.lit (.string ((f).den))) (Gd.yes rfl rfl (decide_eq_false h1)) Yc_tS9 rfl rfl rfl ?_
    refine o_ct (c_positive ((f).den) (by first | assumption | decide | omega)) (Gd.yes rfl rfl (decide_eq_false h1)) Yc_tC26 rfl ?_
    refine n_neq (posE ((f).den)) (0) (Gd.yes rfl rfl (decide_eq_false h1)) rfl rfl ?_
    refine o_pickF (bp ((posE ((f).den)) ≠ (0))) Gd.none rfl (decide_eq_false h1) rfl ?_
    refine aops_end ?_
    refine hK2 _ ?_
    refine awp_condQ (q := (posE ((f).den)) ≠ (0)) rfl (fun h2 => ?_) (fun h2 => ?_)
    · refine awp_seq fun K4 hK4 => ?_
      refine awp_region rfl ?_
      refine o_as (AV.lit (.bool false)) rfl ?_
      refine aops_end ?_
      refine hK4 _ ?_
      refine awp_ret ?_
      refine post_ret ⟨[(AV.lit (.bool false))], And.intro (AV.le_refl _) (trivial), rfl, ?_⟩
      exact bpn (fun o => h2 (posE_0.2 o.2.1))
    · refine awp_skip ?_
      refine hK1 _ ?_
      refine awp_seq fun K5 hK5 => ?_
      refine awp_region rfl ?_
      refine o_fieldRef 0 Gd.none Yc_tF54_0 rfl rfl ?_
      refine o_loadS (AV.lit (.string ((f).num))) Gd.none Yc_tS9 rfl rfl rfl ?_
      refine o_fieldRef 1 Gd.none Yc_tF54_1 rfl rfl ?_
      refine o_loadS (AV.lit (.string ((f).den))) Gd.none Yc_tS9 rfl rfl rfl ?_
      refine o_ct (c_nGcd ((f).num) ((f).den) (by first | assumption | decide | omega) (by first | assumption | decide | omega)) Gd.none Yc_tC77 rfl ?_
      refine o_mv (AV.tup [(AV.lit (.string ((if okS ((f).num) && okS ((f).den) then (toldS ((Int.gcd (numS ((f).num)) (numS ((f).den)) : Nat) : Int)) else (({ data := #[] } : ByteArray)))))), (nm .i64 ((if okS ((f).num) && okS ((f).den) then (toldE ((Int.gcd (numS ((f).num)) (numS ((f).den)) : Nat) : Int)) else (1))))]) rfl ?_
      refine o_extract (AV.lit (.string ((if okS ((f).num) && okS ((f).den) then (toldS ((Int.gcd (numS ((f).num)) (numS ((f).den)) : Nat) : Int)) else (({ data := #[] } : ByteArray)))))) Gd.none rfl rfl ?_
      refine o_extract (nm .i64 ((if okS ((f).num) && okS ((f).den) then (toldE ((Int.gcd (numS ((f).num)) (numS ((f).den)) : Nat) : Int)) else (1)))) Gd.none rfl rfl ?_
      refine o_as (AV.lit (.string ((if okS ((f).num) && okS ((f).den) then (toldS ((Int.gcd (numS ((f).num)) (numS ((f).den)) : Nat) : Int)) else (({ data := #[] } : ByteArray)))))) rfl ?_
      refine o_as (nm .i64 ((if okS ((f).num) && okS ((f).den) then (toldE ((Int.gcd (numS ((f).num)) (numS ((f).den)) : Nat) : Int)) else (1)))) rfl ?_
      refine aops_end ?_
      refine hK5 _ ?_
      refine awp_seq fun K6 hK6 => ?_
      refine awp_region rfl ?_
      refine o_mv (AV.lit (.string ((if okS ((f).num) && okS ((f).den) then (toldS ((Int.gcd (numS ((f).num)) (numS ((f).den)) : Nat) : Int)) else (({ data := #[] } : ByteArray)))))) rfl ?_
      refine o_eqlS (a := ((if okS ((f).num) && okS ((f).den) then (toldS ((Int.gcd (numS ((f).num)) (numS ((f).den)) : Nat) : Int)) else (({ data := #[] } : ByteArray))))) (c := (({data := #[49]} : ByteArray))) Gd.none rfl rfl ?_
      refine o_as (bp (((if okS ((f).num) && okS ((f).den) then (toldS ((Int.gcd (numS ((f).num)) (numS ((f).den)) : Nat) : Int)) else (({ data := #[] } : ByteArray)))).toList = (({data := #[49]} : ByteArray)).toList)) rfl ?_
      refine aops_end ?_
      refine hK6 _ ?_
      refine awp_ret ?_
      refine post_ret ⟨[(bp (((if okS ((f).num) && okS ((f).den) then (toldS ((Int.gcd (numS ((f).num)) (numS ((f).den)) : Nat) : Int)) else (({ data := #[] } : ByteArray)))).toList = (({data := #[49]} : ByteArray)).toList))], And.intro (AV.le_refl _) (trivial), rfl, ?_⟩
      exact bpc (by have g1 := posE_0.1 (Decidable.not_not.1 h1); have g2 := posE_0.1 (Decidable.not_not.1 h2); rw [gcd_one ⟨g1.1, g2.1⟩]; exact ⟨fun o => o.2.2, fun o => ⟨g1, g2, o⟩⟩)

theorem c_list1 (f : Frc) (hn : f.num.size ≤ 9223372036854775807) (hd : f.den.size ≤ 9223372036854775807) : ECalls cx 64 [(AV.agg [(AV.lit (.string ((f).num))), (AV.lit (.string ((f).den)))])] (bp (¬ redP f)) := by
  refine ecalls_of_awp Tryd.func64 (c := _) rfl (Nat.le_of_ble_eq_true rfl) ?_
  show awp cx 6 _ (postF cx Tryd.f64 _) ⟨[(0, (AV.agg [(AV.lit (.string ((f).num))), (AV.lit (.string ((f).den)))]))], []⟩
  refine awp_seq fun K0 hK0 => ?_
  refine awp_region rfl ?_
  refine o_box 2 [(AV.lit (.string ((f).num))), (AV.lit (.string ((f).den)))] Gd.none rfl rfl ?_
  refine o_as (AV.lit (.bool false)) rfl ?_
  refine aops_end ?_
  refine hK0 _ ?_
  refine awp_seq fun K1 hK1 => ?_
  refine awp_region rfl ?_
  refine o_loadA [(AV.lit (.string ((f).num))), (AV.lit (.string ((f).den)))] Gd.none Yc_tA54 rfl rfl rfl rfl rfl ?_
  refine o_ct (c_reduced (f) (by first | assumption | decide | omega) (by first | assumption | decide | omega)) Gd.none Yc_tC65 rfl ?_
  refine o_notP (q := redP (f)) Gd.none rfl ?_
  refine o_as (bp (¬ (redP (f)))) rfl ?_
  refine aops_end ?_
  refine hK1 _ ?_
  refine awp_ret ?_
  refine post_ret ⟨[(bp (¬ (redP (f))))], And.intro (AV.le_refl _) (trivial), rfl, ?_⟩
  rfl

theorem c_ixFrc (l : List Frc) (hl : l.length ≤ 100) (hS : ∀ f ∈ l, f.num.size ≤ 9223372036854775807 ∧ f.den.size ≤ 9223372036854775807) : ECalls cx 76 [(AV.sl 2 (gcells cF (l))), (AV.clo 64 [])] (.lit (.int .i64 (ixP (fun f => ¬ redP f) l))) := by
  refine ecalls_of_awp Tryd.func76 (c := _) rfl (Nat.le_of_ble_eq_true rfl) ?_
  show awp cx 19 _ (postF cx Tryd.f76 _) ⟨[(0, (AV.sl 2 (gcells cF (l)))), (1, (AV.clo 64 []))], []⟩
  refine awp_seq fun K0 hK0 => ?_
  refine awp_region rfl ?_
  refine o_as (nm .i64 (0)) rfl ?_
  refine aops_end ?_
  refine hK0 _ ?_
  refine awp_seq fun K1 hK1 => ?_
  refine awp_seq fun K2 hK2 => ?_
  refine awp_region rfl ?_
  refine o_mv (AV.sl 2 (gcells cF (l))) rfl ?_
  refine g_len cF (l) cF_len Gd.none Yc_tU38 rfl ?_
  refine o_mv (nm .i64 (0)) rfl ?_
  refine aops_end ?_
  refine hK2 _ ?_
  refine awp_block ?_
  refine awp_loopR (fun κ σ => ∃ (i : Nat), (i ≤ l.length) ∧ (∀ k, k < i → ¬ ((fun f => ¬ redP f) ((l).getD k default))) ∧ (l.length - i) = κ ∧ σ = ⟨[(0, (AV.sl 2 (gcells cF (l)))), (1, (AV.clo 64 [])), (7, (nm .i64 (l.length))), (8, (nm .i64 (i)))], []⟩) ⟨_, _, ⟨0, (by omega), (fun k hk => by omega), rfl, rfl⟩, ?wk0⟩ ?rd0
  case wk0 =>
    exact Wk.sub (And.intro rfl (And.intro rfl (And.intro (by first | rfl | exact congrArg (nm _) (by omega) | exact nm_int (by omega) | exact nm_int (by simp [IntKind.wrap, IntKind.bits, IntKind.signed]; omega)) (And.intro (by first | rfl | exact congrArg (nm _) (by omega) | exact nm_int (by omega) | exact nm_int (by simp [IntKind.wrap, IntKind.bits, IntKind.signed]; omega)) (trivial))))) (trivial)
  rintro κ _ ⟨i, hi, hb, rfl, rfl⟩
  refine awp_seq fun K3 hK3 => ?_
  refine awp_region rfl ?_
  refine n_lss (i) (l.length) Gd.none rfl rfl ?_
  refine aops_end ?_
  refine hK3 _ ?_
  refine awp_seq fun K4 hK4 => ?_
  refine awp_condQ (q := (i) < (l.length)) rfl (fun h1 => ?_) (fun h1 => ?_)
  · refine awp_skip ?_
    refine hK4 _ ?_
    refine awp_seq fun K5 hK5 => ?_
    refine awp_block ?_
    refine awp_seq fun K6 hK6 => ?_
    refine awp_region rfl ?_
    refine o_mv (nm .i64 (i)) rfl ?_
    refine o_as (nm .i64 (i)) rfl ?_
    refine aops_end ?_
    refine hK6 _ ?_
    refine awp_seq fun K7 hK7 => ?_
    refine awp_region rfl ?_
    refine o_mv (AV.clo 64 []) rfl ?_
    refine o_mv (AV.sl 2 (gcells cF (l))) rfl ?_
    refine o_mv (nm .i64 (i)) rfl ?_
    refine g_index cF (l) (i) cF_len rfl Gd.none Yc_tE38 rfl rfl (by omega) ?_
    refine g_loadA cF (l) (i) default cF_len Gd.none Yc_tA54 rfl (by omega) ?_
    refine o_callG [] [(AV.agg [(AV.lit (.string ((((l).getD (i) default)).num))), (AV.lit (.string ((((l).getD (i) default)).den)))])] _ (bp (¬ (redP (((l).getD (i) default))))) [] Gd.none Yc_tC64 rfl (trivial) rfl rfl (LeL.cons (AV.le_refl _) (LeL.nil)) (c_list1 (((l).getD (i) default)) (hS _ (gdm (by omega))).1 (hS _ (gdm (by omega))).2) rfl ?_
    refine aops_end ?_
    refine hK7 _ ?_
    refine awp_condQ (q := ¬ (redP (((l).getD (i) default)))) rfl (fun h2 => ?_) (fun h2 => ?_)
    · refine awp_seq fun K8 hK8 => ?_
      refine awp_region rfl ?_
      refine o_mv (nm .i64 (i)) rfl ?_
      refine o_as (nm .i64 (i)) rfl ?_
      refine aops_end ?_
      refine hK8 _ ?_
      refine awp_ret ?_
      refine post_ret ⟨[(nm .i64 (i))], And.intro (AV.le_refl _) (trivial), rfl, ?_⟩
      exact congrArg (fun z => AV.lit (.int .i64 z)) (ixP_hit (d := default) (by omega) (by assumption) hb)
    · refine awp_skip ?_
      refine hK5 _ ?_
      refine awp_region rfl ?_
      refine n_add (i) (1) Gd.none rfl rfl (by simp only [topOf]; omega) ?_
      refine o_mv (nm .i64 ((i) + (1))) rfl ?_
      refine aops_end ?_
      refine ⟨_, _, ?lt, ⟨i + 1, (by omega), (fun k hk => by rcases Nat.lt_or_ge k i with e | e; exact hb k e; rw [show k = i by omega]; assumption), rfl, rfl⟩, ?wk⟩
      case lt => omega
      case wk => exact Wk.sub (And.intro rfl (And.intro rfl (And.intro rfl (And.intro (by first | rfl | exact congrArg (nm _) (by omega) | exact nm_int (by omega) | exact nm_int (by simp [IntKind.wrap, IntKind.bits, IntKind.signed]; omega)) (trivial))))) (trivial)
  · refine awp_exit ?_
    refine hK1 _ ?_
    refine awp_seq fun K9 hK9 => ?_
    refine awp_region rfl ?_
    refine o_as (AV.lit (.int .i64 ((-1)))) rfl ?_
    refine aops_end ?_
    refine hK9 _ ?_
    refine awp_ret ?_
    refine post_ret ⟨[(AV.lit (.int .i64 ((-1))))], And.intro (AV.le_refl _) (trivial), rfl, ?_⟩
    exact congrArg (fun z => AV.lit (.int .i64 z)) (ixP_none (d := default) (by omega) hb)

theorem c_hasFrc (l : List Frc) (hl : l.length ≤ 100) (hS : ∀ f ∈ l, f.num.size ≤ 9223372036854775807 ∧ f.den.size ≤ 9223372036854775807) : ECalls cx 63 [(AV.sl 2 (gcells cF (l))), (AV.clo 64 [])] (bp (∃ x ∈ l, (fun f => ¬ redP f) x)) := by
  refine ecalls_of_awp Tryd.func63 (c := _) rfl (Nat.le_of_ble_eq_true rfl) ?_
  show awp cx 9 _ (postF cx Tryd.f63 _) ⟨[(0, (AV.sl 2 (gcells cF (l)))), (1, (AV.clo 64 []))], []⟩
  refine awp_seq fun K0 hK0 => ?_
  refine awp_region rfl ?_
  refine o_as (AV.lit (.bool false)) rfl ?_
  refine aops_end ?_
  refine hK0 _ ?_
  refine awp_seq fun K1 hK1 => ?_
  refine awp_region rfl ?_
  refine o_mv (AV.sl 2 (gcells cF (l))) rfl ?_
  refine o_mv (AV.clo 64 []) rfl ?_
  refine o_ct (c_ixFrc (l) (by omega) (by assumption)) Gd.none Yc_tC76 rfl ?_
  refine o_geq (a := (ixP (fun f => ¬ redP f) (l))) (c := (((0 : Nat) : Int))) Gd.none rfl rfl ?_
  refine o_as (bp ((((0 : Nat) : Int)) ≤ (ixP (fun f => ¬ redP f) (l)))) rfl ?_
  refine aops_end ?_
  refine hK1 _ ?_
  refine awp_ret ?_
  refine post_ret ⟨[(bp ((((0 : Nat) : Int)) ≤ (ixP (fun f => ¬ redP f) (l))))], And.intro (AV.le_refl _) (trivial), rfl, ?_⟩
  exact bpc (ixP_nn (p := fun f => ¬ redP f))

theorem c_list (l : List Frc) (hS : ∀ f ∈ l, f.num.size ≤ 9223372036854775807 ∧ f.den.size ≤ 9223372036854775807) : ECalls cx 53 [(AV.sl 2 (gcells cF (l)))] (bp (lstP l)) := by
  refine ecalls_of_awp Tryd.func53 (c := _) rfl (Nat.le_of_ble_eq_true rfl) ?_
  show awp cx 11 _ (postF cx Tryd.f53 _) ⟨[(0, (AV.sl 2 (gcells cF (l))))], []⟩
  refine awp_seq fun K0 hK0 => ?_
  refine awp_region rfl ?_
  refine o_as (AV.lit (.bool false)) rfl ?_
  refine aops_end ?_
  refine hK0 _ ?_
  refine awp_seq fun K1 hK1 => ?_
  refine awp_region rfl ?_
  refine o_mv (AV.sl 2 (gcells cF (l))) rfl ?_
  refine g_len cF (l) cF_len Gd.none Yc_tU38 rfl ?_
  refine n_leq ((l).length) (100) Gd.none rfl rfl ?_
  refine o_mv (bp (((l).length) ≤ (100))) rfl ?_
  refine o_splitP (q := ((l).length) ≤ (100)) 6 rfl (fun h1 => ?_) (fun h1 => ?_)
  · refine o_move (AV.sl 2 (gcells cF (l))) (Gd.yes rfl rfl (decide_eq_true h1)) rfl ?_
    refine o_ct (c_hasFrc (l) (by omega) (by assumption)) (Gd.yes rfl rfl (decide_eq_true h1)) Yc_tC63 rfl ?_
    refine o_notP (q := ∃ x ∈ (l), (fun f => ¬ redP f) x) (Gd.yes rfl rfl (decide_eq_true h1)) rfl ?_
    refine o_pickT (bp (¬ (∃ x ∈ (l), (fun f => ¬ redP f) x))) Gd.none rfl (decide_eq_true h1) rfl ?_
    refine o_as (bp (¬ (∃ x ∈ (l), (fun f => ¬ redP f) x))) rfl ?_
    refine aops_end ?_
    refine hK1 _ ?_
    refine awp_ret ?_
    refine post_ret ⟨[(bp (¬ (∃ x ∈ (l), (fun f => ¬ redP f) x)))], And.intro (AV.le_refl _) (trivial), rfl, ?_⟩
    first | exact bpn (fun o => absurd o.1 (by omega)) | exact bpc ⟨fun o => (by rintro ⟨x, hx, hn⟩; exact hn (o.2 x hx)), fun o => ⟨by omega, fun x hx => Decidable.not_not.1 fun hn => o ⟨x, hx, hn⟩⟩⟩
  · refine o_skip rfl rfl (decide_eq_false h1) ?_
    refine o_skip rfl rfl (decide_eq_false h1) ?_
    refine o_skip rfl rfl (decide_eq_false h1) ?_
    refine o_pickF (AV.lit (.bool false)) Gd.none rfl (decide_eq_false h1) rfl ?_
    refine o_as (AV.lit (.bool false)) rfl ?_
    refine aops_end ?_
    refine hK1 _ ?_
    refine awp_ret ?_
    refine post_ret ⟨[(AV.lit (.bool false))], And.intro (AV.le_refl _) (trivial), rfl, ?_⟩
    first | exact bpn (fun o => absurd o.1 (by omega)) | exact bpc ⟨fun o => (by rintro ⟨x, hx, hn⟩; exact hn (o.2 x hx)), fun o => ⟨by omega, fun x hx => Decidable.not_not.1 fun hn => o ⟨x, hx, hn⟩⟩⟩

theorem c_asks (l : List Frc) (n : ByteArray) (hS : ∀ f ∈ l, f.num.size ≤ 9223372036854775807 ∧ f.den.size ≤ 9223372036854775807) (hn : n.size ≤ 9223372036854775807) : ECalls cx 35 [(AV.sl 2 (gcells cF (l))), (AV.lit (.string (n)))] (nm .i64 (askE l n)) := by
  refine ecalls_of_awp Tryd.func35 (c := _) rfl (Nat.le_of_ble_eq_true rfl) ?_
  show awp cx 10 _ (postF cx Tryd.f35 _) ⟨[(0, (AV.sl 2 (gcells cF (l)))), (1, (AV.lit (.string (n))))], []⟩
  refine awp_seq fun K0 hK0 => ?_
  refine awp_region rfl ?_
  refine o_as (nm .i64 (0)) rfl ?_
  refine aops_end ?_
  refine hK0 _ ?_
  refine awp_seq fun K1 hK1 => ?_
  refine awp_seq fun K2 hK2 => ?_
  refine awp_region rfl ?_
  refine o_mv (AV.sl 2 (gcells cF (l))) rfl ?_
  refine o_ct (c_list (l) (by assumption)) Gd.none Yc_tC53 rfl ?_
  refine o_notP (q := lstP (l)) Gd.none rfl ?_
  refine aops_end ?_
  refine hK2 _ ?_
  refine awp_condQ (q := ¬ (lstP (l))) rfl (fun h1 => ?_) (fun h1 => ?_)
  · refine awp_seq fun K3 hK3 => ?_
    refine awp_region rfl ?_
    refine o_as (nm .i64 (1)) rfl ?_
    refine aops_end ?_
    refine hK3 _ ?_
    refine awp_ret ?_
    refine post_ret ⟨[(nm .i64 (1))], And.intro (AV.le_refl _) (trivial), rfl, ?_⟩
    exact congrArg (nm .i64) (if_neg (by assumption))
  · refine awp_skip ?_
    refine hK1 _ ?_
    refine awp_seq fun K4 hK4 => ?_
    refine awp_region rfl ?_
    refine o_mv (AV.lit (.string (n))) rfl ?_
    refine o_ct (c_positive (n) (by first | assumption | decide | omega)) Gd.none Yc_tC26 rfl ?_
    refine o_as (nm .i64 (posE (n))) rfl ?_
    refine aops_end ?_
    refine hK4 _ ?_
    refine awp_ret ?_
    refine post_ret ⟨[(nm .i64 (posE (n)))], And.intro (AV.le_refl _) (trivial), rfl, ?_⟩
    exact congrArg (nm .i64) (if_pos (Decidable.not_not.1 (by assumption)))

theorem c_first (l : List Frc) (n : ByteArray) (hS : ∀ f ∈ l, f.num.size ≤ 9223372036854775807 ∧ f.den.size ≤ 9223372036854775807) (hl : lstP l) (hk : okS n = true) (hn : n.size ≤ 9223372036854775807) : ECalls cx 36 [(AV.sl 2 (gcells cF (l))), (AV.lit (.string (n)))] (.tup [.lit (.int .i64 (fstI l (numS n))), .lit (.string (fstS l (numS n)))]) := by
  refine ecalls_of_awp Tryd.func36 (c := _) rfl (Nat.le_of_ble_eq_true rfl) ?_
  show awp cx 31 _ (postF cx Tryd.f36 _) ⟨[(0, (AV.sl 2 (gcells cF (l)))), (1, (AV.lit (.string (n))))], []⟩
  refine awp_seq fun K0 hK0 => ?_
  refine awp_region rfl ?_
  refine o_as (nm .i64 (0)) rfl ?_
  refine o_as (AV.lit (.string (({data := #[]} : ByteArray)))) rfl ?_
  refine aops_end ?_
  refine hK0 _ ?_
  refine awp_seq fun K1 hK1 => ?_
  refine awp_seq fun K2 hK2 => ?_
  refine awp_region rfl ?_
  refine o_mv (AV.sl 2 (gcells cF (l))) rfl ?_
  refine g_len cF (l) cF_len Gd.none Yc_tU38 rfl ?_
  refine o_mv (nm .i64 (0)) rfl ?_
  refine aops_end ?_
  refine hK2 _ ?_
  refine awp_block ?_
  refine awp_loopR (fun κ σ => ∃ (i : Nat), (i ≤ l.length) ∧ (∀ k, k < i → ¬ hitP (numS n) (l.getD k default)) ∧ (l.length - i) = κ ∧ σ = ⟨[(1, (AV.lit (.string (n)))), (11, (AV.sl 2 (gcells cF (l)))), (12, (nm .i64 (l.length))), (13, (nm .i64 (i)))], []⟩) ⟨_, _, ⟨0, (by omega), (fun k hk => by omega), rfl, rfl⟩, ?wk0⟩ ?rd0
  case wk0 =>
    exact Wk.sub (And.intro rfl (And.intro rfl (And.intro (by first | rfl | exact congrArg (nm _) (by omega) | exact nm_int (by omega) | exact nm_int (by simp [IntKind.wrap, IntKind.bits, IntKind.signed]; omega)) (And.intro (by first | rfl | exact congrArg (nm _) (by omega) | exact nm_int (by omega) | exact nm_int (by simp [IntKind.wrap, IntKind.bits, IntKind.signed]; omega)) (trivial))))) (trivial)
  rintro κ _ ⟨i, hi, hb, rfl, rfl⟩
  have hl1 := hl.1
  refine awp_seq fun K3 hK3 => ?_
  refine awp_region rfl ?_
  refine n_lss (i) (l.length) Gd.none rfl rfl ?_
  refine aops_end ?_
  refine hK3 _ ?_
  refine awp_seq fun K4 hK4 => ?_
  refine awp_condQ (q := (i) < (l.length)) rfl (fun h1 => ?_) (fun h1 => ?_)
  · have hq := hit_str hl hk h1
    have hSi := hS _ (gdm (d := default) h1)
    have hSd := hSi.2
    refine awp_skip ?_
    refine hK4 _ ?_
    refine awp_seq fun K5 hK5 => ?_
    refine awp_block ?_
    refine awp_seq fun K6 hK6 => ?_
    refine awp_region rfl ?_
    refine o_mv (nm .i64 (i)) rfl ?_
    refine g_index cF (l) (i) cF_len rfl Gd.none Yc_tE38 rfl rfl (by omega) ?_
    refine g_loadA cF (l) (i) default cF_len Gd.none Yc_tA54 rfl (by omega) ?_
    refine o_alloc 101 [(AV.lit (.string (({data := #[]} : ByteArray)))), (AV.lit (.string (({data := #[]} : ByteArray))))] Gd.none Yc_tO54 rfl rfl rfl ?_
    refine o_as (nm .i64 (i)) rfl ?_
    refine o_store [(101, (AO.var 54 [(AV.lit (.string ((((l).getD (i) default)).num))), (AV.lit (.string ((((l).getD (i) default)).den)))]))] Gd.none Yc_tZ54 rfl rfl rfl rfl rfl rfl ?_
    refine aops_end ?_
    refine hK6 _ ?_
    refine awp_seq fun K7 hK7 => ?_
    refine awp_region rfl ?_
    refine o_mv (AV.lit (.string (n))) rfl ?_
    refine o_fieldRef 1 Gd.none Yc_tF54_1 rfl rfl ?_
    refine o_loadS (AV.lit (.string ((((l).getD (i) default)).den))) Gd.none Yc_tS9 rfl rfl rfl ?_
    refine o_ct (c_nDivide (n) ((((l).getD (i) default)).den) (by first | assumption | decide | omega) (by first | assumption | decide | omega)) Gd.none Yc_tC50 rfl ?_
    refine o_mv (AV.tup [(AV.lit (.string (divQ (n) ((((l).getD (i) default)).den)))), (AV.lit (.string (divR (n) ((((l).getD (i) default)).den)))), (nm .i64 (divE (n) ((((l).getD (i) default)).den)))]) rfl ?_
    refine o_extract (AV.lit (.string (divQ (n) ((((l).getD (i) default)).den)))) Gd.none rfl rfl ?_
    refine o_extract (AV.lit (.string (divR (n) ((((l).getD (i) default)).den)))) Gd.none rfl rfl ?_
    refine o_extract (nm .i64 (divE (n) ((((l).getD (i) default)).den))) Gd.none rfl rfl ?_
    refine o_as (AV.lit (.string (divQ (n) ((((l).getD (i) default)).den)))) rfl ?_
    refine o_as (AV.lit (.string (divR (n) ((((l).getD (i) default)).den)))) rfl ?_
    refine o_as (nm .i64 (divE (n) ((((l).getD (i) default)).den))) rfl ?_
    refine aops_end ?_
    refine hK7 _ ?_
    refine awp_seq fun K8 hK8 => ?_
    refine awp_region rfl ?_
    refine o_mv (AV.lit (.string (divR (n) ((((l).getD (i) default)).den)))) rfl ?_
    refine o_eqlS (a := (divR (n) ((((l).getD (i) default)).den))) (c := (({data := #[48]} : ByteArray))) Gd.none rfl rfl ?_
    refine aops_end ?_
    refine hK8 _ ?_
    refine awp_condQ (q := (divR (n) ((((l).getD (i) default)).den)).toList = (({data := #[48]} : ByteArray)).toList) rfl (fun h2 => ?_) (fun h2 => ?_)
    · have hx := fst_hit h1 (hq.2.1 h2) hb
      refine awp_seq fun K9 hK9 => ?_
      refine awp_region rfl ?_
      refine o_mv (nm .i64 (i)) rfl ?_
      refine o_mv (AV.lit (.string (divQ (n) ((((l).getD (i) default)).den)))) rfl ?_
      refine o_as (nm .i64 (i)) rfl ?_
      refine o_as (AV.lit (.string (divQ (n) ((((l).getD (i) default)).den)))) rfl ?_
      refine aops_end ?_
      refine hK9 _ ?_
      refine awp_ret ?_
      refine post_ret ⟨[(nm .i64 (i)), (AV.lit (.string (divQ (n) ((((l).getD (i) default)).den))))], And.intro (AV.le_refl _) (And.intro (AV.le_refl _) (trivial)), rfl, ?_⟩
      rw [hx.1, hx.2, hq.1]; rfl
    · replace h2 := fun e => h2 (hq.2.2 e)
      refine awp_skip ?_
      refine hK5 _ ?_
      refine awp_region rfl ?_
      refine n_add (i) (1) Gd.none rfl rfl (by simp only [topOf]; omega) ?_
      refine o_mv (nm .i64 ((i) + (1))) rfl ?_
      refine aops_end ?_
      refine ⟨_, _, ?lt, ⟨i + 1, (by omega), (fun k hk => by rcases Nat.lt_or_ge k i with e | e; exact hb k e; rw [show k = i by omega]; assumption), rfl, rfl⟩, ?wk⟩
      case lt => omega
      case wk => exact Wk.sub (And.intro rfl (And.intro rfl (And.intro rfl (And.intro (by first | rfl | exact congrArg (nm _) (by omega) | exact nm_int (by omega) | exact nm_int (by simp [IntKind.wrap, IntKind.bits, IntKind.signed]; omega)) (trivial))))) (trivial)
  · have hx := fst_none (by omega) hb
    refine awp_exit ?_
    refine hK1 _ ?_
    refine awp_seq fun K10 hK10 => ?_
    refine awp_region rfl ?_
    refine o_as (AV.lit (.int .i64 ((-1)))) rfl ?_
    refine o_as (AV.lit (.string (({data := #[]} : ByteArray)))) rfl ?_
    refine aops_end ?_
    refine hK10 _ ?_
    refine awp_ret ?_
    refine post_ret ⟨[(AV.lit (.int .i64 ((-1)))), (AV.lit (.string (({data := #[]} : ByteArray))))], And.intro (AV.le_refl _) (And.intro (AV.le_refl _) (trivial)), rfl, ?_⟩
    rw [hx.1, hx.2]; rfl

end Go.Proofs.YtnejjdcbbminaaaDoor

set_option linter.unusedVariables false
set_option linter.unusedSimpArgs false
namespace Go.Mth
open Go Go.Ab
def spN (p z : Nat) : Nat × Nat := if h : 2 ≤ p ∧ 0 < z ∧ z % p = 0 then ((spN p (z / p)).1 + 1, (spN p (z / p)).2) else (0, z)
termination_by z
decreasing_by all_goals exact Nat.div_lt_self h.2.1 (by omega)
theorem spN_yes {p z : Nat} (hp : 2 ≤ p) (hz : 0 < z) (h : z % p = 0) : spN p z = ((spN p (z / p)).1 + 1, (spN p (z / p)).2) := by
  rw [spN, dif_pos ⟨hp, hz, h⟩]
theorem spN_no {p z : Nat} (h : ¬ z % p = 0) : spN p z = (0, z) := by rw [spN, dif_neg fun e => h e.2.2]
theorem spN_pos {p : Nat} (hp : 2 ≤ p) : ∀ (n z : Nat), z ≤ n → 0 < z → 0 < (spN p z).2 ∧ (spN p z).2 ≤ z ∧ 2 ^ (spN p z).1 * (spN p z).2 ≤ z
  | 0, z, h, h0 => absurd h0 (by omega)
  | n + 1, z, h, h0 => by
    by_cases hm : z % p = 0
    · have hd : z / p < z := Nat.div_lt_self h0 (by omega)
      have hq : 0 < z / p := Nat.div_pos (Nat.le_of_dvd h0 (Nat.dvd_of_mod_eq_zero hm)) (by omega)
      obtain ⟨a, b, c⟩ := spN_pos hp n (z / p) (by omega) hq
      rw [spN_yes hp h0 hm]
      refine ⟨a, by show (spN p (z / p)).2 ≤ z; omega, ?_⟩
      show 2 ^ ((spN p (z / p)).1 + 1) * (spN p (z / p)).2 ≤ z
      have e : p * (z / p) = z := Nat.mul_div_cancel' (Nat.dvd_of_mod_eq_zero hm)
      have := Nat.mul_le_mul hp c
      rw [e] at this
      rw [Nat.pow_succ, Nat.mul_comm (2 ^ _) 2, Nat.mul_assoc]
      exact this
    · rw [spN_no hm]
      refine ⟨h0, Nat.le_refl _, ?_⟩
      show 2 ^ 0 * z ≤ z
      omega
theorem spl_step {p w i W : Nat} (hp : 2 ≤ p) (hm : w % p = 0) (h : 2 ^ i * w ≤ W) : 2 ^ (i + 1) * (w / p) ≤ W := by
  have e : p * (w / p) = w := Nat.mul_div_cancel' (Nat.dvd_of_mod_eq_zero hm)
  have h2 : 2 * (w / p) ≤ w := by
    have := Nat.mul_le_mul_right (w / p) hp
    omega
  rw [Nat.pow_succ, Nat.mul_assoc]
  exact Nat.le_trans (Nat.mul_le_mul_left _ h2) h
theorem fit_lt2 {z : Int} (h : Fit z) : ∃ E, E ≤ 9000 ∧ z.natAbs < 2 ^ E := by
  have a := fit_len h
  have b := val_lt (digs_dig z.natAbs)
  rw [val_digs] at b
  have c : (1000000000 : Nat) ^ (digs z.natAbs).length ≤ (2 ^ 30) ^ (digs z.natAbs).length := Nat.pow_le_pow_left (by decide) _
  rw [← Nat.pow_mul] at c
  exact ⟨30 * (digs z.natAbs).length, by omega, Nat.lt_of_lt_of_le b c⟩
theorem spl_bd {i w : Nat} {z : Int} (hw : 0 < w) (h : 2 ^ i * w ≤ z.toNat) (hf : Fit z) : i ≤ 9000 := by
  obtain ⟨E, hE, a⟩ := fit_lt2 hf
  have b : 2 ^ i ≤ z.toNat := Nat.le_trans (Nat.le_mul_of_pos_right _ hw) h
  have c : z.toNat ≤ z.natAbs := by omega
  have d : (2 : Nat) ^ i < 2 ^ E := Nat.lt_of_le_of_lt (Nat.le_trans b c) a
  have := (Nat.pow_lt_pow_iff_right (a := 2) (by decide)).1 d
  omega
def dcL : Nat → Nat → Nat → List Int × Nat
  | 0, _, z => ([], z)
  | r + 1, i, z => ((((spN (P30.getD i 0) z).1 : Nat) : Int) :: (dcL r (i + 1) (spN (P30.getD i 0) z).2).1, (dcL r (i + 1) (spN (P30.getD i 0) z).2).2)
theorem dcL_len : ∀ (r i z : Nat), (dcL r i z).1.length = r
  | 0, _, _ => rfl
  | r + 1, i, z => by
    show (dcL r (i + 1) _).1.length + 1 = r + 1
    rw [dcL_len]
theorem dcL_nn : ∀ (r i z : Nat), ∀ n ∈ (dcL r i z).1, 0 ≤ n
  | 0, _, _, n, h => by simp [dcL] at h
  | r + 1, i, z, n, h => by
    rcases List.mem_cons.1 h with rfl | h
    · exact Int.natCast_nonneg _
    · exact dcL_nn r _ _ n h
theorem dcL_step {R i z : Nat} (h : i < R) : dcL (R - i) i z = ((((spN (P30.getD i 0) z).1 : Nat) : Int) :: (dcL (R - (i + 1)) (i + 1) (spN (P30.getD i 0) z).2).1, (dcL (R - (i + 1)) (i + 1) (spN (P30.getD i 0) z).2).2) := by
  rw [show R - i = (R - (i + 1)) + 1 by omega]
  rfl
def srch (m : Mac) (r : Nat) : Int := ixP (fun s : Nat => r = ownP m ((s : Nat) : Int)) (List.range (m.code.length + 1))
theorem rng_get {n k : Nat} (h : k < n) : (List.range n).getD k 0 = k := by
  rw [List.getD_eq_getElem?_getD, List.getElem?_range h]; rfl
def smallR (l : List Int) : Prop := ∀ n ∈ l, n ≤ 1000
instance (l : List Int) : Decidable (smallR l) := by unfold smallR; infer_instance
def decC (m : Mac) (w : Nat) : Cfg := if smallR (dcL m.regs.toNat 0 w).1 ∧ 0 ≤ srch m (dcL m.regs.toNat 0 w).2 then ⟨srch m (dcL m.regs.toNat 0 w).2, (dcL m.regs.toNat 0 w).1⟩ else zC
def decB (m : Mac) (w : Nat) : Prop := smallR (dcL m.regs.toNat 0 w).1 ∧ 0 ≤ srch m (dcL m.regs.toNat 0 w).2
instance (m : Mac) (w : Nat) : Decidable (decB m w) := by unfold decB; infer_instance
theorem srch_hit {m : Mac} {r s : Nat} (hs : s ≤ m.code.length) (h : r = ownP m ((s : Nat) : Int)) (hb : ∀ t, t < s → ¬ r = ownP m ((t : Nat) : Int)) : srch m r = (s : Int) :=
  ixP_hit (d := 0) (by rw [List.length_range]; omega) (by rw [rng_get (by omega)]; exact h) (fun k hk => by rw [rng_get (by omega)]; exact hb k hk)
theorem srch_none {m : Mac} {r : Nat} (hb : ∀ t, t < m.code.length + 1 → ¬ r = ownP m ((t : Nat) : Int)) : srch m r = -1 :=
  ixP_none (d := 0) (i := m.code.length + 1) (by rw [List.length_range]; omega) (fun k hk => by rw [rng_get hk]; exact hb k hk)
theorem decC_yes {m : Mac} {w s : Nat} (hr : smallR (dcL m.regs.toNat 0 w).1) (h : srch m (dcL m.regs.toNat 0 w).2 = (s : Int)) : decC m w = ⟨(s : Int), (dcL m.regs.toNat 0 w).1⟩ ∧ decB m w := by
  have : decB m w := ⟨hr, by rw [h]; exact Int.natCast_nonneg _⟩
  exact ⟨(if_pos this).trans (by rw [h]), this⟩
theorem decC_no {m : Mac} {w : Nat} (h : ¬ decB m w) : decC m w = zC := if_neg h
theorem own_eq {s : ByteArray} {w o : Nat} (hs : okS s = true) (hw : numS s = ((w : Nat) : Int)) : s.toList = (txt ((o : Nat) : Int)).toList ↔ w = o := by
  rw [str_eq]
  constructor
  · intro e
    have := numS_txt ((o : Nat) : Int)
    rw [← e, hw] at this
    omega
  · intro e
    rw [← e, ← hw]
    exact (txt_numS (okS_iff.1 hs)).symm
theorem decB_no {m : Mac} {w r : Nat} {acc : List Int} (hq : dcL m.regs.toNat 0 w = (acc, r)) (hb : ∀ u, u < m.code.length + 1 → r = ownP m ((u : Nat) : Int) → ¬ smallR acc) : ¬ decB m w := fun o => by
  unfold decB at o
  rw [hq] at o
  have := srch_none (m := m) (r := r) fun t ht e => hb t ht e o.1
  have h2 := o.2
  rw [show (acc, r).2 = r from rfl, this] at h2
  exact absurd h2 (by decide)
theorem decB_yes {m : Mac} {w r t : Nat} {acc : List Int} (hq : dcL m.regs.toNat 0 w = (acc, r)) (ht : t ≤ m.code.length) (e : r = ownP m ((t : Nat) : Int)) (hsm : smallR acc) (hb : ∀ u, u < t → r = ownP m ((u : Nat) : Int) → ¬ smallR acc) : decC m w = ⟨((t : Nat) : Int), acc⟩ ∧ decB m w := by
  have := decC_yes (m := m) (w := w) (s := t) (by rw [hq]; exact hsm) (by rw [hq]; exact srch_hit ht e fun u hu e2 => hb u hu e2 hsm)
  rw [hq] at this
  exact this
noncomputable def decV (m : Mac) (n : ByteArray) : Cfg := if okMac m then (if posE n = 0 then decC m (numS n).toNat else zC) else zC
noncomputable def decE (m : Mac) (n : ByteArray) : Nat := if okMac m then (if posE n = 0 then (if decB m (numS n).toNat then 0 else 4) else posE n) else 1
end Go.Mth

set_option linter.unusedVariables false
set_option linter.unusedSimpArgs false
namespace Go.Ab
open Go.RowKit
theorem Wk.nilIn2 {C : Ctx} {n : Nat} {σ : St} {i id ty e sz : Nat} {x : AV} (hs : lookO σ.objs i = some (.var ty [x, .lit (.slice none 0 0)])) (hf : σ.freshB id = true) (hsz : 0 < sz) : Wk C n σ ⟨σ.slots, (id, .row e sz []) :: (i, .var ty [x, .row id]) :: σ.objs⟩ := fun w0 H L a w hr => by
  have hne : i ≠ id := fun e => by
    subst e
    have := (fresh_sem hf).1
    rw [show σ.sem.μ i = lookO σ.objs i from rfl, hs] at this
    cases this
  have hnew := hr.new (id := id) (ob := .row e sz []) (x := .slice none 0 0) (w' := w) (fresh_sem hf) (Below.refl _ _) (fun g hg => by simp [ownB] at hg)
    ⟨.slice none 0 0, [], 0, by simp [Loc.set], by simp, World.ownsRow_nil w _ e sz, by simp [RepL], by simp, hsz, by simp, fun g hg => by simp [ownB] at hg⟩ hr.heap
  have conv : ∀ j o, lookO ((id, .row e sz []) :: (i, .var ty [x, .row id]) :: σ.objs) j = some o → (j = i ∧ o = .var ty [x, .row id]) ∨ (j ≠ i ∧ (if j = id then some (AO.row e sz []) else σ.sem.μ j) = some o) := fun j o ho => by
    simp only [lookO] at ho
    by_cases h1 : j = id
    · subst h1
      simp at ho
      exact .inr ⟨fun e => hne e.symm, by simp [ho]⟩
    · rw [beq_ne (fun e => h1 e.symm)] at ho
      by_cases h2 : j = i
      · subst h2
        simp at ho
        exact .inl ⟨rfl, ho.symm⟩
      · rw [beq_ne (fun e => h2 e.symm)] at ho
        exact .inr ⟨h2, by simp only [h1, if_false]; exact ho⟩
  have hi0 := hnew.objs i (.var ty [x, .lit (.slice none 0 0)]) (by simp only [hne, if_false]; exact hs)
  refine ⟨H, L.set id (some (.slice none 0 0)), Ext.refl _ _, ⟨hnew.glob, hnew.heap, hnew.size, hnew.slot, fun j o ho => ?_, fun j k o o' g u x' hjk hj hk => ?_, hnew.below, hnew.defers⟩⟩
  · rcases conv j o ho with ⟨rfl, rfl⟩ | ⟨h1, h2⟩
    · obtain ⟨g, vs, a1, a2, a3, a4, a5, a6⟩ := hi0
      refine ⟨g, vs, a1, a2, ?_, a4, a5, a6⟩
      simp only [RepL] at a3 ⊢
      obtain ⟨v0, r0, rfl, hx, v, r, rfl, hv, rfl⟩ := a3
      simp only [RepV] at hv
      subst hv
      exact ⟨v0, _, rfl, hx, _, [], rfl, by simp only [RepV]; exact ⟨by simp [Loc.set], rfl⟩, rfl⟩
    · exact hnew.objs j o h2
  · have conv' : ∀ j o, lookO ((id, .row e sz []) :: (i, .var ty [x, .row id]) :: σ.objs) j = some o → ∃ o', (if j = id then some (AO.row e sz []) else σ.sem.μ j) = some o' := fun j o ho => by
      rcases conv j o ho with ⟨rfl, rfl⟩ | ⟨h1, h2⟩
      · exact ⟨_, by simp only [hne, if_false]; exact hs⟩
      · exact ⟨_, h2⟩
    obtain ⟨o1, h1⟩ := conv' j o hj
    obtain ⟨o2, h2⟩ := conv' k o' hk
    exact hnew.apart j k o1 o2 g _ x' hjk h1 h2
end Go.Ab

set_option linter.unusedVariables false
set_option linter.unusedSimpArgs false
namespace Go.Proofs.YtnejjdcbbminaaaDoor
open Go Go.Ab Go.Mth
theorem Ys_tC20 : callable cx.P 20 = true := by kernel_rfl
theorem Ys_tC50 : callable cx.P 50 = true := by kernel_rfl
theorem c_split (n : ByteArray) (p : Nat) (ho : okS n = true) (h0 : 0 < numS n) (hn : n.size ≤ 9223372036854775807) (hp2 : 2 ≤ p) (hp3 : p ≤ 113) : ECalls cx 27 [(AV.lit (.string (n))), (nm .i64 (p))] (.tup [nm .i64 (spN p (numS n).toNat).1, .lit (.string (txt (((spN p (numS n).toNat).2 : Nat) : Int)))]) := by
  refine ecalls_of_awp Tryd.func27 (c := _) rfl (Nat.le_of_ble_eq_true rfl) ?_
  show awp cx 25 _ (postF cx Tryd.f27 _) ⟨[(0, (AV.lit (.string (n)))), (1, (nm .i64 (p)))], []⟩
  have hpf := fit_113 hp3
  have hps := txt_sz2 hpf
  have hpo := okS_iff.2 (okS_txt hpf)
  have hfn := fit_numS (okS_iff.1 ho)
  refine awp_seq fun K0 hK0 => ?_
  refine awp_region rfl ?_
  refine o_as (nm .i64 (0)) rfl ?_
  refine o_as (AV.lit (.string (({data := #[]} : ByteArray)))) rfl ?_
  refine aops_end ?_
  refine hK0 _ ?_
  refine awp_seq fun K1 hK1 => ?_
  refine awp_region rfl ?_
  refine o_as (nm .i64 (0)) rfl ?_
  refine aops_end ?_
  refine hK1 _ ?_
  refine awp_block ?_
  refine awp_loopR (fun κ σ => ∃ (i : Nat), ∃ (s : ByteArray), ∃ (w : Nat), (spN p (numS n).toNat = ((spN p w).1 + i, (spN p w).2)) ∧ (numS s = ((w : Nat) : Int)) ∧ (okS s = true) ∧ (0 < w) ∧ (s.size ≤ 9223372036854775807) ∧ (2 ^ i * w ≤ (numS n).toNat) ∧ (w) = κ ∧ σ = ⟨[(0, (AV.lit (.string (s)))), (1, (nm .i64 (p))), (6, (nm .i64 (i)))], []⟩) ⟨_, _, ⟨0, n, (numS n).toNat, rfl, (by omega), ho, (by omega), hn, (by rw [Nat.pow_zero, Nat.one_mul]; exact Nat.le_refl _), rfl, rfl⟩, ?wk0⟩ ?rd0
  case wk0 =>
    exact Wk.sub (And.intro (by first | rfl | (simp)) (And.intro rfl (And.intro (by first | rfl | exact congrArg (nm _) (by omega) | exact nm_int (by omega) | exact nm_int (by simp [IntKind.wrap, IntKind.bits, IntKind.signed]; omega)) (trivial)))) (trivial)
  rintro κ _ ⟨i, s, w, hp, hw, hos, hw0, hs, hc, rfl, rfl⟩
  have hd := div_yes (a := s) (b := txt ((p : Nat) : Int)) ⟨hos, hpo⟩ (by rw [numS_txt]; omega)
  have hq : divQ s (txt ((p : Nat) : Int)) = txt ((w / p : Nat) : Int) := by rw [hd.1, numS_txt, hw]; rfl
  have hz : (divR s (txt ((p : Nat) : Int))).toList = ByteArray.toList ⟨#[48]⟩ ↔ w % p = 0 := by rw [hd.2.1, numS_txt, hw, str_eq, ← txt_zero]; exact ⟨fun e => by have q := txt_inj e; omega, fun e => by rw [show ((w : Nat) : Int) % ((p : Nat) : Int) = 0 by omega]⟩
  have hib := spl_bd hw0 hc hfn
  refine awp_seq fun K2 hK2 => ?_
  refine awp_block ?_
  refine awp_seq fun K3 hK3 => ?_
  refine awp_region rfl ?_
  refine o_mv (AV.lit (.string (s))) rfl ?_
  refine o_mv (nm .i64 (p)) rfl ?_
  refine o_ct (c_itoa (p) (by omega)) Gd.none Ys_tC20 rfl ?_
  refine o_ct (c_nDivide (s) (txt ((p : Nat) : Int)) (by first | assumption | decide | omega) (by first | assumption | decide | omega)) Gd.none Ys_tC50 rfl ?_
  refine o_mv (AV.tup [(AV.lit (.string (divQ (s) (txt ((p : Nat) : Int))))), (AV.lit (.string (divR (s) (txt ((p : Nat) : Int))))), (nm .i64 (divE (s) (txt ((p : Nat) : Int))))]) rfl ?_
  refine o_extract (AV.lit (.string (divQ (s) (txt ((p : Nat) : Int))))) Gd.none rfl rfl ?_
  refine n_as (v' := (AV.lit (.string (txt ((w / p : Nat) : Int))))) (by exact str_as2 hq) ?_
  refine o_extract (AV.lit (.string (divR (s) (txt ((p : Nat) : Int))))) Gd.none rfl rfl ?_
  refine o_extract (nm .i64 (divE (s) (txt ((p : Nat) : Int)))) Gd.none rfl rfl ?_
  refine o_as (AV.lit (.string (txt ((w / p : Nat) : Int)))) rfl ?_
  refine o_as (AV.lit (.string (divR (s) (txt ((p : Nat) : Int))))) rfl ?_
  refine o_as (nm .i64 (divE (s) (txt ((p : Nat) : Int)))) rfl ?_
  refine aops_end ?_
  refine hK3 _ ?_
  refine awp_seq fun K4 hK4 => ?_
  refine awp_seq fun K5 hK5 => ?_
  refine awp_region rfl ?_
  refine o_mv (AV.lit (.string (divR (s) (txt ((p : Nat) : Int))))) rfl ?_
  refine o_neqS (a := (divR (s) (txt ((p : Nat) : Int)))) (c := (({data := #[48]} : ByteArray))) Gd.none rfl rfl ?_
  refine n_as (v' := (bp (w % p ≠ 0))) (by exact bpc (not_congr hz)) ?_
  refine aops_end ?_
  refine hK5 _ ?_
  refine awp_condQ (q := w % p ≠ 0) rfl (fun h1 => ?_) (fun h1 => ?_)
  · refine awp_seq fun K6 hK6 => ?_
    refine awp_region rfl ?_
    refine o_mv (nm .i64 (i)) rfl ?_
    refine o_mv (AV.lit (.string (s))) rfl ?_
    refine o_as (nm .i64 (i)) rfl ?_
    refine o_as (AV.lit (.string (s))) rfl ?_
    refine aops_end ?_
    refine hK6 _ ?_
    refine awp_ret ?_
    refine post_ret ⟨[(nm .i64 (i)), (AV.lit (.string (s)))], And.intro (AV.le_refl _) (And.intro (AV.le_refl _) (trivial)), rfl, ?_⟩
    rw [hp, spN_no (by assumption)]; show _ = AV.tup [nm .i64 i, .lit (.string s)]; rw [show s = txt ((w : Nat) : Int) by rw [← hw]; exact (txt_numS (okS_iff.1 hos)).symm]; simp
  · refine awp_skip ?_
    refine hK4 _ ?_
    refine awp_region rfl ?_
    refine o_mv (AV.lit (.string (txt ((w / p : Nat) : Int)))) rfl ?_
    refine o_as (AV.lit (.string (txt ((w / p : Nat) : Int)))) rfl ?_
    refine aops_end ?_
    refine hK2 _ ?_
    refine awp_region rfl ?_
    refine o_mv (nm .i64 (i)) rfl ?_
    refine n_add (i) (1) Gd.none rfl rfl (by simp only [topOf]; omega) ?_
    refine o_as (nm .i64 ((i) + (1))) rfl ?_
    refine aops_end ?_
    have hm : w % p = 0 := Decidable.not_not.1 (by assumption)
    have hdl : w / p < w := Nat.div_lt_self hw0 (by omega)
    have hdp : 0 < w / p := Nat.div_pos (Nat.le_of_dvd hw0 (Nat.dvd_of_mod_eq_zero hm)) (by omega)
    have hFq : Fit ((w / p : Nat) : Int) := fit_le (y := numS s) (by rw [hw]; omega) (fit_numS (okS_iff.1 hos))
    refine ⟨_, _, ?lt, ⟨i + 1, txt ((w / p : Nat) : Int), w / p, (by rw [hp, spN_yes hp2 hw0 hm, Nat.add_assoc, Nat.add_comm 1 i]), (numS_txt _), (okS_iff.2 (okS_txt hFq)), hdp, (txt_sz2 hFq), (spl_step hp2 hm hc), rfl, rfl⟩, ?wk⟩
    case lt => omega
    case wk => exact Wk.sub (And.intro (by first | rfl | (simp)) (And.intro rfl (And.intro (by first | rfl | exact congrArg (nm _) (by omega) | exact nm_int (by omega) | exact nm_int (by simp [IntKind.wrap, IntKind.bits, IntKind.signed]; omega)) (trivial)))) (trivial)

end Go.Proofs.YtnejjdcbbminaaaDoor

set_option linter.unusedVariables false
set_option linter.unusedSimpArgs false
namespace Go.Proofs.YtnejjdcbbminaaaDoor
open Go Go.Ab Go.Mth
theorem Yw_tO27 : tyZero cx.P 27 = some [(Go.Value.int IntKind.i64 0), (Go.Value.slice none 0 0)] := by kernel_rfl
theorem Yw_tA24 : tyAgg cx.P 24 = some 2 := by kernel_rfl
theorem Yw_tC25 : callable cx.P 25 = true := by kernel_rfl
theorem Yw_tP27 : tyPlaces cx.P 27 = some (fun i => (#[(0, 1), (1, 1)] : Array (Nat × Nat))[i]?) := by kernel_rfl
theorem Yw_tZ27 : tySize cx.P 27 = some 2 := by kernel_rfl
theorem Yw_tA27 : tyAgg cx.P 27 = some 2 := by kernel_rfl
theorem Yw_tC26 : callable cx.P 26 = true := by kernel_rfl
theorem Yw_tF24_0 : tyField cx.P 24 0 = some (0, 3) := by kernel_rfl
theorem Yw_tS3 : tySc cx.P 3 = true := by kernel_rfl
theorem Yw_tC23 : callable cx.P 23 = true := by kernel_rfl
theorem Yw_tR58 : tyArr cx.P 58 = some (30, 3, 1) := by kernel_rfl
theorem Yw_tC27 : callable cx.P 27 = true := by kernel_rfl
theorem Yw_tF27_1 : tyField cx.P 27 1 = some (1, 25) := by kernel_rfl
theorem Yw_tS25 : tySc cx.P 25 = true := by kernel_rfl
theorem Yw_tE25 : tyElem cx.P 25 = some (3, 1, 8) := by kernel_rfl
theorem Yw_tO3 : tyZero cx.P 3 = some [(Go.Value.int IntKind.i64 0)] := by kernel_rfl
theorem Yw_tZ25 : tySize cx.P 25 = some 1 := by kernel_rfl
theorem Yw_tF24_1 : tyField cx.P 24 1 = some (1, 22) := by kernel_rfl
theorem Yw_tS22 : tySc cx.P 22 = true := by kernel_rfl
theorem Yw_tU22 : cx.P.underlying 22 = some (.slice 50) := by kernel_rfl
theorem Yw_tC21 : callable cx.P 21 = true := by kernel_rfl
theorem Yw_tC20 : callable cx.P 20 = true := by kernel_rfl
theorem Yw_tF27_0 : tyField cx.P 27 0 = some (0, 3) := by kernel_rfl
theorem Yw_tZ3 : tySize cx.P 3 = some 1 := by kernel_rfl
theorem Yw_tC11 : callable cx.P 11 = true := by kernel_rfl
theorem c_Decode (m : Mac) (n : ByteArray) (hn : n.size ≤ 9223372036854775807) : ECalls cx 9 [(macV m), (AV.lit (.string (n)))] (.tup [cfgV (decV m n), nm .i64 (decE m n)]) := by
  refine ecalls_of_awp Tryd.func9 (c := _) rfl (Nat.le_of_ble_eq_true rfl) ?_
  show awp cx 62 _ (postF cx Tryd.f9 _) ⟨[(0, (macV m)), (1, (AV.lit (.string (n))))], []⟩
  refine awp_seq fun K0 hK0 => ?_
  refine awp_region rfl ?_
  refine o_box 2 [(AV.lit (.int .i64 (m.regs))), (AV.sl 4 (gcells cI (m.code)))] Gd.none rfl rfl ?_
  refine o_alloc 3 [(nm .i64 (0)), (AV.lit (.slice none 0 0))] Gd.none Yw_tO27 rfl rfl rfl ?_
  refine o_as (nm .i64 (0)) rfl ?_
  refine aops_end ?_
  refine hK0 _ ?_
  refine awp_seq fun K1 hK1 => ?_
  refine awp_seq fun K2 hK2 => ?_
  refine awp_region rfl ?_
  refine o_loadA [(AV.lit (.int .i64 (m.regs))), (AV.sl 4 (gcells cI (m.code)))] Gd.none Yw_tA24 rfl rfl rfl rfl rfl ?_
  refine o_ct (c_fValid m) Gd.none Yw_tC25 rfl ?_
  refine o_notP (q := okMac m) Gd.none rfl ?_
  refine aops_end ?_
  refine hK2 _ ?_
  refine awp_condQ (q := ¬ (okMac m)) rfl (fun h1 => ?_) (fun h1 => ?_)
  · refine awp_seq fun K3 hK3 => ?_
    refine awp_region rfl ?_
    refine o_build [(nm .i64 (0)), (AV.lit (.slice none 0 0))] [] Gd.none Yw_tP27 Yw_tO27 rfl rfl rfl ?_
    refine o_store [(3, (AO.var 27 [(nm .i64 (0)), (AV.lit (.slice none 0 0))])), (2, (AO.var 24 [(AV.lit (.int .i64 (m.regs))), (AV.sl 4 (gcells cI (m.code)))]))] Gd.none Yw_tZ27 rfl rfl rfl rfl rfl rfl ?_
    refine o_as (nm .i64 (1)) rfl ?_
    refine aops_end ?_
    refine hK3 _ ?_
    refine awp_ret ?_
    refine post_ret ⟨[(AV.agg [(AV.lit (.int .i64 (0))), (AV.sl 1 (is .i64 ([])))]), (nm .i64 (1))], And.intro ⟨3, (AO.var 27 [(nm .i64 (0)), (AV.lit (.slice none 0 0))]), rfl, rfl, rfl, Or.inl ⟨Yw_tA27, AV.le_agg (LeL.cons (AV.le_refl _) (LeL.cons (AV.le_nil' (by decide) (by first | rfl | simp [digs_zero, ns, is])) (LeL.nil)))⟩⟩ (And.intro (AV.le_refl _) (trivial)), rfl, ?_⟩
    rw [decV, decE, if_neg h1, if_neg h1]; rfl
  · have hM : okMac m := Decidable.not_not.1 h1
    have hM2 := hM
    obtain ⟨o1, o2, o3, o4, o5⟩ := hM2
    refine awp_skip ?_
    refine hK1 _ ?_
    refine awp_seq fun K4 hK4 => ?_
    refine awp_seq fun K5 hK5 => ?_
    refine awp_region rfl ?_
    refine o_mv (AV.lit (.string (n))) rfl ?_
    refine o_ct (c_positive (n) (by first | assumption | decide | omega)) Gd.none Yw_tC26 rfl ?_
    refine o_as (nm .i64 (posE (n))) rfl ?_
    refine aops_end ?_
    refine hK5 _ ?_
    refine awp_seq fun K6 hK6 => ?_
    refine awp_region rfl ?_
    refine o_mv (nm .i64 (posE (n))) rfl ?_
    refine n_neq (posE (n)) (0) Gd.none rfl rfl ?_
    refine aops_end ?_
    refine hK6 _ ?_
    refine awp_condQ (q := (posE (n)) ≠ (0)) rfl (fun h2 => ?_) (fun h2 => ?_)
    · refine awp_seq fun K7 hK7 => ?_
      refine awp_region rfl ?_
      refine o_build [(nm .i64 (0)), (AV.lit (.slice none 0 0))] [] Gd.none Yw_tP27 Yw_tO27 rfl rfl rfl ?_
      refine o_mv (nm .i64 (posE (n))) rfl ?_
      refine o_store [(3, (AO.var 27 [(nm .i64 (0)), (AV.lit (.slice none 0 0))])), (2, (AO.var 24 [(AV.lit (.int .i64 (m.regs))), (AV.sl 4 (gcells cI (m.code)))]))] Gd.none Yw_tZ27 rfl rfl rfl rfl rfl rfl ?_
      refine o_as (nm .i64 (posE (n))) rfl ?_
      refine aops_end ?_
      refine hK7 _ ?_
      refine awp_ret ?_
      refine post_ret ⟨[(AV.agg [(AV.lit (.int .i64 (0))), (AV.sl 1 (is .i64 ([])))]), (nm .i64 (posE (n)))], And.intro ⟨3, (AO.var 27 [(nm .i64 (0)), (AV.lit (.slice none 0 0))]), rfl, rfl, rfl, Or.inl ⟨Yw_tA27, AV.le_agg (LeL.cons (AV.le_refl _) (LeL.cons (AV.le_nil' (by decide) (by first | rfl | simp [digs_zero, ns, is])) (LeL.nil)))⟩⟩ (And.intro (AV.le_refl _) (trivial)), rfl, ?_⟩
      rw [decV, decE, if_pos hM, if_pos hM, if_neg h2, if_neg h2]; rfl
    · have hP0 : posE n = 0 := Decidable.not_not.1 h2
      have hP := posE_0.1 hP0
      refine awp_skip ?_
      refine hK4 _ ?_
      refine awp_seq fun K8 hK8 => ?_
      refine awp_region rfl ?_
      refine o_alloc 4 [(nm .i64 (0)), (AV.lit (.slice none 0 0))] Gd.none Yw_tO27 rfl rfl rfl ?_
      refine aops_end ?_
      refine hK8 _ ?_
      refine awp_seq fun K9 hK9 => ?_
      refine awp_seq fun K10 hK10 => ?_
      refine awp_wk (σ' := ⟨[(0, (macV m)), (1, (AV.lit (.string (n)))), (2, (AV.ref 2 (0))), (4, (AV.ref 3 (0))), (5, (nm .i64 (0))), (11, (AV.agg [(AV.lit (.int .i64 (m.regs))), (AV.sl 4 (gcells cI (m.code)))])), (12, (bp (okMac m))), (13, (bp (¬ (okMac m)))), (15, (AV.lit (.string (n)))), (16, (nm .i64 (posE (n)))), (6, (nm .i64 (posE (n)))), (17, (nm .i64 (posE (n)))), (18, (bp ((posE (n)) ≠ (0)))), (7, (AV.ref 4 (0)))], [(702, (AO.row 3 1 (is .i64 ([])))), (4, (AO.var 27 [(nm .i64 (0)), (AV.row 702)])), (3, (AO.var 27 [(nm .i64 (0)), (AV.lit (.slice none 0 0))])), (2, (AO.var 24 [(AV.lit (.int .i64 (m.regs))), (AV.sl 4 (gcells cI (m.code)))]))]⟩) (Wk.trans (Wk.nilIn2 (i := 4) (id := 702) (ty := 27) (e := 3) (sz := 1) rfl rfl (by decide)) (Wk.sub (And.intro rfl (And.intro rfl (And.intro rfl (And.intro rfl (And.intro rfl (And.intro rfl (And.intro rfl (And.intro rfl (And.intro rfl (And.intro rfl (And.intro rfl (And.intro rfl (And.intro rfl (And.intro rfl (trivial))))))))))))))) (And.intro rfl (And.intro rfl (And.intro rfl (And.intro rfl (trivial))))))) ?_
      refine awp_region rfl ?_
      refine o_fieldRef 0 Gd.none Yw_tF24_0 rfl rfl ?_
      refine o_loadS (AV.lit (.int .i64 (m.regs))) Gd.none Yw_tS3 rfl rfl rfl ?_
      refine o_mv (nm .i64 (0)) rfl ?_
      refine aops_end ?_
      refine hK10 _ ?_
      refine awp_block ?_
      refine awp_loopR (fun κ σ => ∃ (i : Nat), ∃ (s : ByteArray), ∃ (w : Nat), ∃ (acc : List Int), (i ≤ m.regs.toNat) ∧ (numS s = ((w : Nat) : Int)) ∧ (okS s = true) ∧ (0 < w) ∧ (s.size ≤ 9223372036854775807) ∧ (acc.length = i) ∧ (dcL m.regs.toNat 0 (numS n).toNat = (acc ++ (dcL (m.regs.toNat - i) i w).1, (dcL (m.regs.toNat - i) i w).2)) ∧ (m.regs.toNat - i) = κ ∧ σ = ⟨[(1, (AV.lit (.string (s)))), (2, (AV.ref 2 (0))), (4, (AV.ref 3 (0))), (7, (AV.ref 4 (0))), (22, (AV.lit (.int .i64 (m.regs)))), (23, (nm .i64 (i)))], [(2, (AO.var 24 [(AV.lit (.int .i64 (m.regs))), (AV.sl 4 (gcells cI (m.code)))])), (3, (AO.var 27 [(nm .i64 (0)), (AV.lit (.slice none 0 0))])), (4, (AO.var 27 [(nm .i64 (0)), (AV.row 702)])), (702, (AO.row 3 1 (is .i64 (acc))))]⟩) ⟨_, _, ⟨0, n, (numS n).toNat, [], (by omega), (by omega), hP.1, (by omega), hn, rfl, rfl, rfl, rfl⟩, ?wk0⟩ ?rd0
      case wk0 =>
        exact Wk.sub (And.intro (by first | rfl | (simp)) (And.intro rfl (And.intro rfl (And.intro rfl (And.intro rfl (And.intro (by first | rfl | exact congrArg (nm _) (by omega) | exact nm_int (by omega) | exact nm_int (by simp [IntKind.wrap, IntKind.bits, IntKind.signed]; omega)) (trivial))))))) (And.intro rfl (And.intro rfl (And.intro rfl (And.intro (by first | rfl | exact row_ns (by simp)) (trivial)))))
      rintro κ _ ⟨i, s, w, acc, hi, hw, hos, hw0, hs, hal, hp, rfl, rfl⟩
      have hs0 : 0 < numS s := by omega
      have hb1 := p30_bd i
      have hFw := fit_numS (okS_iff.1 hos)
      refine awp_seq fun K11 hK11 => ?_
      refine awp_region rfl ?_
      refine o_lss (a := (((i : Nat) : Int))) (c := (m.regs)) Gd.none rfl rfl ?_
      refine aops_end ?_
      refine hK11 _ ?_
      refine awp_seq fun K12 hK12 => ?_
      refine awp_condQ (q := (((i : Nat) : Int)) < (m.regs)) rfl (fun h3 => ?_) (fun h3 => ?_)
      · have hb2 := p30_ge i (by omega)
        refine awp_skip ?_
        refine hK12 _ ?_
        refine awp_seq fun K13 hK13 => ?_
        refine awp_block ?_
        refine awp_seq fun K14 hK14 => ?_
        refine awp_region rfl ?_
        refine o_mv (nm .i64 (i)) rfl ?_
        refine o_as (nm .i64 (i)) rfl ?_
        refine aops_end ?_
        refine hK14 _ ?_
        refine awp_seq fun K15 hK15 => ?_
        refine awp_region rfl ?_
        refine o_as (nm .i64 (0)) rfl ?_
        refine aops_end ?_
        refine hK15 _ ?_
        refine awp_seq fun K16 hK16 => ?_
        refine awp_region rfl ?_
        refine o_mv (AV.lit (.string (s))) rfl ?_
        refine o_ct c_primes Gd.none Yw_tC23 rfl ?_
        refine o_mv (nm .i64 (i)) rfl ?_
        refine n_indexAgg (P30) (i) Gd.none Yw_tR58 Yw_tS3 rfl rfl (by rfl) (by omega) ?_
        refine o_ct (c_split (s) ((P30).getD (i) 0) (by assumption) (by assumption) (by assumption) (by omega) (by omega)) Gd.none Yw_tC27 rfl ?_
        refine o_mv (AV.tup [(nm .i64 ((spN ((P30).getD (i) 0) (numS (s)).toNat).1)), (AV.lit (.string (txt (((spN ((P30).getD (i) 0) (numS (s)).toNat).2 : Nat) : Int))))]) rfl ?_
        refine o_extract (nm .i64 ((spN ((P30).getD (i) 0) (numS (s)).toNat).1)) Gd.none rfl rfl ?_
        refine n_as (v' := (nm .i64 ((spN (P30.getD (i) 0) w).1))) (by rw [hw, Int.toNat_natCast]) ?_
        refine o_extract (AV.lit (.string (txt (((spN ((P30).getD (i) 0) (numS (s)).toNat).2 : Nat) : Int)))) Gd.none rfl rfl ?_
        refine n_as (v' := (AV.lit (.string (txt (((spN (P30.getD (i) 0) w).2 : Nat) : Int))))) (by rw [hw, Int.toNat_natCast]) ?_
        refine o_as (nm .i64 ((spN (P30.getD (i) 0) w).1)) rfl ?_
        refine o_as (AV.lit (.string (txt (((spN (P30.getD (i) 0) w).2 : Nat) : Int)))) rfl ?_
        refine aops_end ?_
        refine hK16 _ ?_
        refine awp_region rfl ?_
        refine o_fieldRef 1 Gd.none Yw_tF27_1 rfl rfl ?_
        refine o_loadS (AV.row 702) Gd.none Yw_tS25 rfl rfl rfl ?_
        refine o_mv (nm .i64 ((spN (P30.getD (i) 0) w).1)) rfl ?_
        refine o_buildSlice 101 (is .i64 ([(((spN (P30.getD (i) 0) w).1 : Nat) : Int)])) [(0, [(nm .i64 ((spN (P30.getD (i) 0) w).1))])] Gd.none Yw_tE25 rfl Yw_tO3 rfl rfl rfl rfl rfl rfl rfl ?_
        refine i_append 102 (acc) ([(((spN (P30.getD (i) 0) w).1 : Nat) : Int)]) [(101, (AO.row 3 1 (is .i64 ([(((spN (P30.getD (i) 0) w).1 : Nat) : Int)])))), (2, (AO.var 24 [(AV.lit (.int .i64 (m.regs))), (AV.sl 4 (gcells cI (m.code)))])), (3, (AO.var 27 [(nm .i64 (0)), (AV.lit (.slice none 0 0))])), (4, (AO.var 27 [(nm .i64 (0)), (AV.row 702)]))] Gd.none Yw_tE25 Yw_tO3 rfl rfl rfl rfl rfl (by simp only [List.length_append, List.length_cons, List.length_nil]; omega) (by decide) rfl rfl ?_
        refine o_fieldRef 1 Gd.none Yw_tF27_1 rfl rfl ?_
        refine o_store [(102, (AO.row 3 1 (is .i64 ((acc) ++ ([(((spN (P30.getD (i) 0) w).1 : Nat) : Int)]))))), (101, (AO.row 3 1 (is .i64 ([(((spN (P30.getD (i) 0) w).1 : Nat) : Int)])))), (2, (AO.var 24 [(AV.lit (.int .i64 (m.regs))), (AV.sl 4 (gcells cI (m.code)))])), (3, (AO.var 27 [(nm .i64 (0)), (AV.lit (.slice none 0 0))])), (4, (AO.var 27 [(nm .i64 (0)), (AV.row 102)]))] Gd.none Yw_tZ25 rfl rfl rfl rfl rfl rfl ?_
        refine aops_end ?_
        refine hK13 _ ?_
        refine awp_region rfl ?_
        refine n_add (i) (1) Gd.none rfl rfl (by simp only [topOf]; omega) ?_
        refine o_mv (nm .i64 ((i) + (1))) rfl ?_
        refine aops_end ?_
        have hsp := spN_pos (p30_ge i (by omega)) w w (Nat.le_refl _) hw0
        have hF2 : Fit (((spN (P30.getD (i) 0) w).2 : Nat) : Int) := fit_le (y := numS s) (by rw [hw]; omega) hFw
        refine ⟨_, _, ?lt, ⟨i + 1, txt (((spN (P30.getD (i) 0) w).2 : Nat) : Int), (spN (P30.getD (i) 0) w).2, acc ++ [(((spN (P30.getD (i) 0) w).1 : Nat) : Int)], (by omega), (numS_txt _), (okS_iff.2 (okS_txt hF2)), hsp.1, (txt_sz2 hF2), (by rw [List.length_append, hal]; rfl), (by rw [hp, dcL_step (show i < m.regs.toNat by omega), List.append_assoc]; rfl), rfl, rfl⟩, ?wk⟩
        case lt => omega
        case wk => exact Wk.trans (Wk.sub (σ' := ⟨[(1, (AV.lit (.string (txt (((spN (P30.getD (i) 0) w).2 : Nat) : Int))))), (2, (AV.ref 2 (0))), (4, (AV.ref 3 (0))), (7, (AV.ref 4 (0))), (22, (AV.lit (.int .i64 (m.regs)))), (23, (nm .i64 ((i) + (1))))], [(2, (AO.var 24 [(AV.lit (.int .i64 (m.regs))), (AV.sl 4 (gcells cI (m.code)))])), (3, (AO.var 27 [(nm .i64 (0)), (AV.lit (.slice none 0 0))])), (4, (AO.var 27 [(nm .i64 (0)), (AV.row 102)])), (102, (AO.row 3 1 (is .i64 ((acc) ++ ([(((spN (P30.getD (i) 0) w).1 : Nat) : Int)])))))]⟩) (And.intro rfl (And.intro rfl (And.intro rfl (And.intro rfl (And.intro rfl (And.intro rfl (trivial))))))) (And.intro rfl (And.intro rfl (And.intro rfl (And.intro rfl (trivial)))))) (Wk.trans (Wk.ren (id := 102) (id' := 702) rfl) (Wk.sub (And.intro (by first | rfl | (simp)) (And.intro rfl (And.intro rfl (And.intro rfl (And.intro rfl (And.intro (by first | rfl | exact congrArg (nm _) (by omega) | exact nm_int (by omega) | exact nm_int (by simp [IntKind.wrap, IntKind.bits, IntKind.signed]; omega)) (trivial))))))) (And.intro rfl (And.intro rfl (And.intro rfl (And.intro (by first | rfl | exact row_ns (by simp)) (trivial)))))))
      · refine awp_exit ?_
        refine hK9 _ ?_
        refine awp_seq fun K17 hK17 => ?_
        refine awp_seq fun K18 hK18 => ?_
        refine awp_region rfl ?_
        refine o_fieldRef 1 Gd.none Yw_tF24_1 rfl rfl ?_
        refine o_loadS (AV.sl 4 (gcells cI (m.code))) Gd.none Yw_tS22 rfl rfl rfl ?_
        refine g_len cI (m.code) cI_len Gd.none Yw_tU22 rfl ?_
        refine n_add ((m.code).length) (1) Gd.none rfl rfl (by simp only [topOf]; omega) ?_
        refine o_mv (nm .i64 (0)) rfl ?_
        refine aops_end ?_
        refine hK18 _ ?_
        refine awp_block ?_
        refine awp_loopR (fun κ σ => ∃ (t : Nat), ∃ (a : Int), (t ≤ m.code.length + 1) ∧ (∀ u, u < t → w = ownP m ((u : Nat) : Int) → ¬ smallR acc) ∧ (m.code.length + 1 - t) = κ ∧ σ = ⟨[(1, (AV.lit (.string (s)))), (2, (AV.ref 2 (0))), (4, (AV.ref 3 (0))), (7, (AV.ref 4 (0))), (44, (nm .i64 (m.code.length + 1))), (45, (nm .i64 (t)))], [(2, (AO.var 24 [(AV.lit (.int .i64 (m.regs))), (AV.sl 4 (gcells cI (m.code)))])), (3, (AO.var 27 [(nm .i64 (0)), (AV.lit (.slice none 0 0))])), (4, (AO.var 27 [(AV.lit (.int .i64 (a))), (AV.row 702)])), (702, (AO.row 3 1 (is .i64 (acc))))]⟩) ⟨_, _, ⟨0, 0, (by omega), (fun u hu => by omega), rfl, rfl⟩, ?wk1⟩ ?rd1
        case wk1 =>
          exact Wk.sub (And.intro rfl (And.intro rfl (And.intro rfl (And.intro rfl (And.intro (by first | rfl | exact congrArg (nm _) (by omega) | exact nm_int (by omega) | exact nm_int (by simp [IntKind.wrap, IntKind.bits, IntKind.signed]; omega)) (And.intro (by first | rfl | exact congrArg (nm _) (by omega) | exact nm_int (by omega) | exact nm_int (by simp [IntKind.wrap, IntKind.bits, IntKind.signed]; omega)) (trivial))))))) (And.intro rfl (And.intro rfl (And.intro rfl (And.intro rfl (trivial)))))
        rintro κ _ ⟨t, a, ht, hb, rfl, rfl⟩
        have hq : dcL m.regs.toNat 0 (numS n).toNat = (acc, w) := by rw [hp, show m.regs.toNat - i = 0 by omega]; simp [dcL]
        have hnn : ∀ z ∈ acc, 0 ≤ z := by have := dcL_nn m.regs.toNat 0 (numS n).toNat; rw [hq] at this; exact this
        have hob := ownP_bd m ((t : Nat) : Int)
        refine awp_seq fun K19 hK19 => ?_
        refine awp_region rfl ?_
        refine n_lss (t) (m.code.length + 1) Gd.none rfl rfl ?_
        refine aops_end ?_
        refine hK19 _ ?_
        refine awp_seq fun K20 hK20 => ?_
        refine awp_condQ (q := (t) < (m.code.length + 1)) rfl (fun h4 => ?_) (fun h4 => ?_)
        · refine awp_skip ?_
          refine hK20 _ ?_
          refine awp_seq fun K21 hK21 => ?_
          refine awp_block ?_
          refine awp_seq fun K22 hK22 => ?_
          refine awp_region rfl ?_
          refine o_mv (nm .i64 (t)) rfl ?_
          refine o_as (nm .i64 (t)) rfl ?_
          refine aops_end ?_
          refine hK22 _ ?_
          refine awp_seq fun K23 hK23 => ?_
          refine awp_region rfl ?_
          refine o_mv (AV.lit (.string (s))) rfl ?_
          refine o_loadA [(AV.lit (.int .i64 (m.regs))), (AV.sl 4 (gcells cI (m.code)))] Gd.none Yw_tA24 rfl rfl rfl rfl rfl ?_
          refine o_mv (nm .i64 (t)) rfl ?_
          refine o_ct (c_own m (((t : Nat) : Int)) (by omega) (by omega) (by omega) (by omega)) Gd.none Yw_tC21 rfl ?_
          refine o_ct (c_itoa (ownP m (((t : Nat) : Int))) (by omega)) Gd.none Yw_tC20 rfl ?_
          refine o_eqlS (a := (s)) (c := (txt ((ownP m (((t : Nat) : Int)) : Nat) : Int))) Gd.none rfl rfl ?_
          refine n_as (v' := (bp (w = ownP m ((t : Nat) : Int)))) (by exact bpc (own_eq hos hw)) ?_
          refine aops_end ?_
          refine hK23 _ ?_
          refine awp_condQ (q := w = ownP m ((t : Nat) : Int)) rfl (fun h5 => ?_) (fun h5 => ?_)
          · refine awp_seq fun K24 hK24 => ?_
            refine awp_region rfl ?_
            refine o_mv (nm .i64 (t)) rfl ?_
            refine o_fieldRef 0 Gd.none Yw_tF27_0 rfl rfl ?_
            refine o_store [(2, (AO.var 24 [(AV.lit (.int .i64 (m.regs))), (AV.sl 4 (gcells cI (m.code)))])), (3, (AO.var 27 [(nm .i64 (0)), (AV.lit (.slice none 0 0))])), (4, (AO.var 27 [(nm .i64 (t)), (AV.row 702)])), (702, (AO.row 3 1 (is .i64 (acc))))] Gd.none Yw_tZ3 rfl rfl rfl rfl rfl rfl ?_
            refine aops_end ?_
            refine hK24 _ ?_
            refine awp_seq fun K25 hK25 => ?_
            refine awp_region rfl ?_
            refine o_loadA [(AV.lit (.int .i64 (m.regs))), (AV.sl 4 (gcells cI (m.code)))] Gd.none Yw_tA24 rfl rfl rfl rfl rfl ?_
            refine o_loadA [(nm .i64 (t)), (AV.row 702)] Gd.none Yw_tA27 rfl rfl rfl rfl rfl ?_
            refine o_callB [(702, 1, (is .i64 (acc)))] [(AV.agg [(AV.lit (.int .i64 (m.regs))), (AV.sl 4 (gcells cI (m.code)))]), (AV.agg [(nm .i64 (t)), (AV.sl 1 (is .i64 (acc)))])] _ (.bool (decide (okCfg m (Cfg.mk (((t : Nat) : Int)) (acc))))) Gd.none Yw_tC11 rfl (And.intro ⟨_, rfl⟩ (trivial)) rfl rfl (LeL.cons (AV.le_refl _) (LeL.cons (AV.le_refl _) (LeL.nil))) (c_fFits m (Cfg.mk (((t : Nat) : Int)) (acc))) ?_
            refine aops_end ?_
            refine hK25 _ ?_
            refine awp_condQ (q := okCfg m (Cfg.mk (((t : Nat) : Int)) (acc))) rfl (fun h6 => ?_) (fun h6 => ?_)
            · refine awp_seq fun K26 hK26 => ?_
              refine awp_region rfl ?_
              refine o_loadA [(nm .i64 (t)), (AV.row 702)] Gd.none Yw_tA27 rfl rfl rfl rfl rfl ?_
              refine o_store [(2, (AO.var 24 [(AV.lit (.int .i64 (m.regs))), (AV.sl 4 (gcells cI (m.code)))])), (3, (AO.var 27 [(nm .i64 (t)), (AV.row 702)])), (4, (AO.var 27 [(nm .i64 (t)), (AV.row 702)])), (702, (AO.row 3 1 (is .i64 (acc))))] Gd.none Yw_tZ27 rfl rfl rfl rfl rfl rfl ?_
              refine o_as (nm .i64 (0)) rfl ?_
              refine aops_end ?_
              refine hK26 _ ?_
              refine awp_wk (σ' := ⟨[(4, (AV.ref 3 (0))), (5, (nm .i64 (0)))], [(3, (AO.var 27 [(nm .i64 (t)), (AV.row 702)])), (702, (AO.row 3 1 (is .i64 (acc))))]⟩) (Wk.sub (And.intro rfl (And.intro rfl (trivial))) (And.intro rfl (And.intro rfl (trivial)))) ?_
              refine awp_wk (σ' := ⟨[(4, (AV.ref 3 (0))), (5, (nm .i64 (0)))], [(3, (AO.var 27 [(nm .i64 (t)), (AV.sl 1 (is .i64 (acc)))]))]⟩) (Wk.freeze (id := 702) (e := 3) (sz := 1) (cs := (is .i64 (acc))) rfl) ?_
              refine awp_ret ?_
              refine post_ret ⟨[(AV.agg [(AV.lit (.int .i64 (((t : Nat) : Int)))), (AV.sl 1 (is .i64 (acc)))]), (nm .i64 (0))], And.intro ⟨3, (AO.var 27 [(nm .i64 (t)), (AV.sl 1 (is .i64 (acc)))]), rfl, rfl, rfl, Or.inl ⟨Yw_tA27, AV.le_agg (LeL.cons (AV.le_refl _) (LeL.cons (AV.le_refl _) (LeL.nil)))⟩⟩ (And.intro (AV.le_refl _) (trivial)), rfl, ?_⟩
              have hK : okCfg m (Cfg.mk ((t : Nat) : Int) acc) := (by assumption); have e := decB_yes hq (by omega) (by assumption) (fun z hz => (hK.2.2.2 z hz).2) hb; rw [decV, decE, if_pos hM, if_pos hM, if_pos hP0, if_pos hP0, e.1, if_pos e.2]; rfl
            · refine awp_skip ?_
              refine hK21 _ ?_
              refine awp_region rfl ?_
              refine n_add (t) (1) Gd.none rfl rfl (by simp only [topOf]; omega) ?_
              refine o_mv (nm .i64 ((t) + (1))) rfl ?_
              refine aops_end ?_
              refine ⟨_, _, ?lt, ⟨t + 1, ((t : Nat) : Int), (by omega), (fun u hu e => by rcases Nat.lt_or_ge u t with c | c; exact hb u c e; exact fun hsm => absurd (show okCfg m (Cfg.mk ((t : Nat) : Int) acc) from ⟨hM, ⟨by show 0 ≤ ((t : Nat) : Int); omega, by show ((t : Nat) : Int) ≤ _; omega⟩, by show (acc.length : Int) = m.regs; omega, fun z hz => ⟨hnn z hz, hsm z hz⟩⟩) (by assumption)), rfl, rfl⟩, ?wk⟩
              case lt => omega
              case wk => exact Wk.sub (And.intro rfl (And.intro rfl (And.intro rfl (And.intro rfl (And.intro rfl (And.intro (by first | rfl | exact congrArg (nm _) (by omega) | exact nm_int (by omega) | exact nm_int (by simp [IntKind.wrap, IntKind.bits, IntKind.signed]; omega)) (trivial))))))) (And.intro rfl (And.intro rfl (And.intro rfl (And.intro rfl (trivial)))))
          · refine awp_skip ?_
            refine hK21 _ ?_
            refine awp_region rfl ?_
            refine n_add (t) (1) Gd.none rfl rfl (by simp only [topOf]; omega) ?_
            refine o_mv (nm .i64 ((t) + (1))) rfl ?_
            refine aops_end ?_
            refine ⟨_, _, ?lt, ⟨t + 1, a, (by omega), (fun u hu e => by rcases Nat.lt_or_ge u t with c | c; exact hb u c e; exact absurd (show w = ownP m ((t : Nat) : Int) by rw [show t = u by omega]; exact e) (by assumption)), rfl, rfl⟩, ?wk⟩
            case lt => omega
            case wk => exact Wk.sub (And.intro rfl (And.intro rfl (And.intro rfl (And.intro rfl (And.intro rfl (And.intro (by first | rfl | exact congrArg (nm _) (by omega) | exact nm_int (by omega) | exact nm_int (by simp [IntKind.wrap, IntKind.bits, IntKind.signed]; omega)) (trivial))))))) (And.intro rfl (And.intro rfl (And.intro rfl (And.intro rfl (trivial)))))
        · refine awp_exit ?_
          refine hK17 _ ?_
          refine awp_seq fun K27 hK27 => ?_
          refine awp_region rfl ?_
          refine o_build [(nm .i64 (0)), (AV.lit (.slice none 0 0))] [] Gd.none Yw_tP27 Yw_tO27 rfl rfl rfl ?_
          refine o_store [(2, (AO.var 24 [(AV.lit (.int .i64 (m.regs))), (AV.sl 4 (gcells cI (m.code)))])), (3, (AO.var 27 [(nm .i64 (0)), (AV.lit (.slice none 0 0))])), (4, (AO.var 27 [(AV.lit (.int .i64 (a))), (AV.row 702)])), (702, (AO.row 3 1 (is .i64 (acc))))] Gd.none Yw_tZ27 rfl rfl rfl rfl rfl rfl ?_
          refine o_as (nm .i64 (4)) rfl ?_
          refine aops_end ?_
          refine hK27 _ ?_
          refine awp_ret ?_
          refine post_ret ⟨[(AV.agg [(AV.lit (.int .i64 (0))), (AV.sl 1 (is .i64 ([])))]), (nm .i64 (4))], And.intro ⟨3, (AO.var 27 [(nm .i64 (0)), (AV.lit (.slice none 0 0))]), rfl, rfl, rfl, Or.inl ⟨Yw_tA27, AV.le_agg (LeL.cons (AV.le_refl _) (LeL.cons (AV.le_nil' (by decide) (by first | rfl | simp [digs_zero, ns, is])) (LeL.nil)))⟩⟩ (And.intro (AV.le_refl _) (trivial)), rfl, ?_⟩
          have e := decB_no hq (fun u hu => hb u (by omega)); rw [decV, decE, if_pos hM, if_pos hM, if_pos hP0, if_pos hP0, decC_no e, if_neg e]; rfl

end Go.Proofs.YtnejjdcbbminaaaDoor

set_option linter.unusedVariables false
set_option linter.unusedSimpArgs false
namespace Go.Proofs.YtnejjdcbbminaaaDoor
open Go Go.Ab Go.Mth
theorem Yd_tC35 : callable cx.P 35 = true := by kernel_rfl
theorem Yd_tC36 : callable cx.P 36 = true := by kernel_rfl
theorem Yd_tE38 : tyElem cx.P 38 = some (54, 2, 32) := by kernel_rfl
theorem Yd_tF54_0 : tyField cx.P 54 0 = some (0, 9) := by kernel_rfl
theorem Yd_tS9 : tySc cx.P 9 = true := by kernel_rfl
theorem Yd_tC24 : callable cx.P 24 = true := by kernel_rfl
theorem c_Play (l : List Frc) (n : ByteArray) (k : Int) (hS : ∀ f ∈ l, f.num.size ≤ 9223372036854775807 ∧ f.den.size ≤ 9223372036854775807) (hn : n.size ≤ 9223372036854775807) : ECalls cx 15 [(AV.sl 2 (gcells cF (l))), (AV.lit (.string (n))), (AV.lit (.int .i64 (k)))] (.tup [.lit (.string (plyA l n k).1), nm .i64 (plyA l n k).2.1, nm .i64 (plyA l n k).2.2]) := by
  refine ecalls_of_awp Tryd.func15 (c := _) rfl (Nat.le_of_ble_eq_true rfl) ?_
  show awp cx 58 _ (postF cx Tryd.f15 _) ⟨[(0, (AV.sl 2 (gcells cF (l)))), (1, (AV.lit (.string (n)))), (2, (AV.lit (.int .i64 (k))))], []⟩
  refine awp_seq fun K0 hK0 => ?_
  refine awp_region rfl ?_
  refine o_as (AV.lit (.string (({data := #[]} : ByteArray)))) rfl ?_
  refine o_as (nm .i64 (0)) rfl ?_
  refine o_as (nm .i64 (0)) rfl ?_
  refine aops_end ?_
  refine hK0 _ ?_
  refine awp_seq fun K1 hK1 => ?_
  refine awp_seq fun K2 hK2 => ?_
  refine awp_region rfl ?_
  refine o_mv (AV.sl 2 (gcells cF (l))) rfl ?_
  refine o_mv (AV.lit (.string (n))) rfl ?_
  refine o_ct (c_asks (l) (n) (by assumption) (by first | assumption | decide | omega)) Gd.none Yd_tC35 rfl ?_
  refine o_as (nm .i64 (askE (l) (n))) rfl ?_
  refine aops_end ?_
  refine hK2 _ ?_
  refine awp_seq fun K3 hK3 => ?_
  refine awp_region rfl ?_
  refine o_mv (nm .i64 (askE (l) (n))) rfl ?_
  refine n_neq (askE (l) (n)) (0) Gd.none rfl rfl ?_
  refine aops_end ?_
  refine hK3 _ ?_
  refine awp_condQ (q := (askE (l) (n)) ≠ (0)) rfl (fun h1 => ?_) (fun h1 => ?_)
  · refine awp_seq fun K4 hK4 => ?_
    refine awp_region rfl ?_
    refine o_mv (nm .i64 (askE (l) (n))) rfl ?_
    refine o_as (AV.lit (.string (({data := #[]} : ByteArray)))) rfl ?_
    refine o_as (nm .i64 (0)) rfl ?_
    refine o_as (nm .i64 (askE (l) (n))) rfl ?_
    refine aops_end ?_
    refine hK4 _ ?_
    refine awp_ret ?_
    refine post_ret ⟨[(AV.lit (.string (({data := #[]} : ByteArray)))), (nm .i64 (0)), (nm .i64 (askE (l) (n)))], And.intro (AV.le_refl _) (And.intro (AV.le_refl _) (And.intro (AV.le_refl _) (trivial))), rfl, ?_⟩
    first | (rw [plyA_1 h1]; rfl) | (rw [plyA_2 hA0 (by omega)]; rfl) | (rw [hp, ply_stop (by omega) (by omega), txt_numS (okS_iff.1 ho)]; rfl) | (rw [hp, ply_big (by omega) (by omega) (tld_big h6), tld_3 (tld_big h6)]; rfl) | (rw [hp, show k.toNat - i = 0 by omega, show i = k.toNat by omega]; show AV.tup [.lit (.string (txt (numS s))), _, _] = _; rw [txt_numS (okS_iff.1 ho)]; rfl)
  · have hA0 := Decidable.not_not.1 h1
    have hA := askE_0.1 hA0
    have hA1 := hA.1
    have hA2 := hA.2.1
    refine awp_skip ?_
    refine hK1 _ ?_
    refine awp_seq fun K5 hK5 => ?_
    refine awp_seq fun K6 hK6 => ?_
    refine awp_region rfl ?_
    refine o_mv (AV.lit (.int .i64 (k))) rfl ?_
    refine o_lss (a := (k)) (c := (((0 : Nat) : Int))) Gd.none rfl rfl ?_
    refine o_mv (bp ((k) < (((0 : Nat) : Int)))) rfl ?_
    refine o_splitP (q := (k) < (((0 : Nat) : Int))) 23 rfl (fun h2 => ?_) (fun h2 => ?_)
    · refine o_skip rfl rfl (decide_eq_true h2) ?_
      refine o_skip rfl rfl (decide_eq_true h2) ?_
      refine o_pickT (AV.lit (.bool true)) Gd.none rfl (decide_eq_true h2) rfl ?_
      refine aops_end ?_
      refine hK6 _ ?_
      refine awp_condB (b := true) rfl (fun _ => ?_) (fun hh => absurd (hh.symm.trans rfl) (by decide))
      refine awp_seq fun K7 hK7 => ?_
      refine awp_region rfl ?_
      refine o_as (AV.lit (.string (({data := #[]} : ByteArray)))) rfl ?_
      refine o_as (nm .i64 (0)) rfl ?_
      refine o_as (nm .i64 (2)) rfl ?_
      refine aops_end ?_
      refine hK7 _ ?_
      refine awp_ret ?_
      refine post_ret ⟨[(AV.lit (.string (({data := #[]} : ByteArray)))), (nm .i64 (0)), (nm .i64 (2))], And.intro (AV.le_refl _) (And.intro (AV.le_refl _) (And.intro (AV.le_refl _) (trivial))), rfl, ?_⟩
      first | (rw [plyA_1 h1]; rfl) | (rw [plyA_2 hA0 (by omega)]; rfl) | (rw [hp, ply_stop (by omega) (by omega), txt_numS (okS_iff.1 ho)]; rfl) | (rw [hp, ply_big (by omega) (by omega) (tld_big h6), tld_3 (tld_big h6)]; rfl) | (rw [hp, show k.toNat - i = 0 by omega, show i = k.toNat by omega]; show AV.tup [.lit (.string (txt (numS s))), _, _] = _; rw [txt_numS (okS_iff.1 ho)]; rfl)
    · refine o_move (AV.lit (.int .i64 (k))) (Gd.yes rfl rfl (decide_eq_false h2)) rfl ?_
      refine o_gtr (a := (k)) (c := (((20000 : Nat) : Int))) (Gd.yes rfl rfl (decide_eq_false h2)) rfl rfl ?_
      refine o_pickF (bp ((((20000 : Nat) : Int)) < (k))) Gd.none rfl (decide_eq_false h2) rfl ?_
      refine aops_end ?_
      refine hK6 _ ?_
      refine awp_condQ (q := (((20000 : Nat) : Int)) < (k)) rfl (fun h3 => ?_) (fun h3 => ?_)
      · refine awp_seq fun K8 hK8 => ?_
        refine awp_region rfl ?_
        refine o_as (AV.lit (.string (({data := #[]} : ByteArray)))) rfl ?_
        refine o_as (nm .i64 (0)) rfl ?_
        refine o_as (nm .i64 (2)) rfl ?_
        refine aops_end ?_
        refine hK8 _ ?_
        refine awp_ret ?_
        refine post_ret ⟨[(AV.lit (.string (({data := #[]} : ByteArray)))), (nm .i64 (0)), (nm .i64 (2))], And.intro (AV.le_refl _) (And.intro (AV.le_refl _) (And.intro (AV.le_refl _) (trivial))), rfl, ?_⟩
        first | (rw [plyA_1 h1]; rfl) | (rw [plyA_2 hA0 (by omega)]; rfl) | (rw [hp, ply_stop (by omega) (by omega), txt_numS (okS_iff.1 ho)]; rfl) | (rw [hp, ply_big (by omega) (by omega) (tld_big h6), tld_3 (tld_big h6)]; rfl) | (rw [hp, show k.toNat - i = 0 by omega, show i = k.toNat by omega]; show AV.tup [.lit (.string (txt (numS s))), _, _] = _; rw [txt_numS (okS_iff.1 ho)]; rfl)
      · refine awp_skip ?_
        refine hK5 _ ?_
        refine awp_seq fun K9 hK9 => ?_
        refine awp_seq fun K10 hK10 => ?_
        refine awp_region rfl ?_
        refine o_mv (AV.lit (.int .i64 (k))) rfl ?_
        refine n_as (v' := (nm .i64 (k.toNat))) (nm_int (by omega)) ?_
        refine o_mv (nm .i64 (0)) rfl ?_
        refine aops_end ?_
        refine hK10 _ ?_
        refine awp_block ?_
        refine awp_loopR (fun κ σ => ∃ (i : Nat), ∃ (s : ByteArray), (i ≤ k.toNat) ∧ (plyA l n k = ply l (k.toNat - i) (numS s) i) ∧ (okS s = true) ∧ (0 < numS s) ∧ (s.size ≤ 9223372036854775807) ∧ (k.toNat - i) = κ ∧ σ = ⟨[(0, (AV.sl 2 (gcells cF (l)))), (1, (AV.lit (.string (s)))), (2, (AV.lit (.int .i64 (k)))), (27, (nm .i64 (k.toNat))), (28, (nm .i64 (i)))], []⟩) ⟨_, _, ⟨0, n, (by omega), (plyA_0 hA0 (by omega)), hA.2.1, hA.2.2, hn, rfl, rfl⟩, ?wk0⟩ ?rd0
        case wk0 =>
          exact Wk.sub (And.intro rfl (And.intro (by first | rfl | (simp)) (And.intro rfl (And.intro rfl (And.intro (by first | rfl | exact congrArg (nm _) (by omega) | exact nm_int (by omega) | exact nm_int (by simp [IntKind.wrap, IntKind.bits, IntKind.signed]; omega)) (trivial)))))) (trivial)
        rintro κ _ ⟨i, s, hi, hp, ho, hz, hs, rfl, rfl⟩
        refine awp_seq fun K11 hK11 => ?_
        refine awp_region rfl ?_
        refine n_lss (i) (k.toNat) Gd.none rfl rfl ?_
        refine aops_end ?_
        refine hK11 _ ?_
        refine awp_seq fun K12 hK12 => ?_
        refine awp_condQ (q := (i) < (k.toNat)) rfl (fun h4 => ?_) (fun h4 => ?_)
        · refine awp_skip ?_
          refine hK12 _ ?_
          refine awp_seq fun K13 hK13 => ?_
          refine awp_block ?_
          refine awp_seq fun K14 hK14 => ?_
          refine awp_region rfl ?_
          refine o_mv (nm .i64 (i)) rfl ?_
          refine o_as (nm .i64 (i)) rfl ?_
          refine aops_end ?_
          refine hK14 _ ?_
          refine awp_seq fun K15 hK15 => ?_
          refine awp_region rfl ?_
          refine o_mv (AV.sl 2 (gcells cF (l))) rfl ?_
          refine o_mv (AV.lit (.string (s))) rfl ?_
          refine o_ct (c_first (l) (s) (by assumption) (by assumption) (by assumption) (by first | assumption | decide | omega)) Gd.none Yd_tC36 rfl ?_
          refine o_mv (AV.tup [(AV.lit (.int .i64 (fstI (l) (numS (s))))), (AV.lit (.string (fstS (l) (numS (s)))))]) rfl ?_
          refine o_extract (AV.lit (.int .i64 (fstI (l) (numS (s))))) Gd.none rfl rfl ?_
          refine o_extract (AV.lit (.string (fstS (l) (numS (s))))) Gd.none rfl rfl ?_
          refine o_as (AV.lit (.int .i64 (fstI (l) (numS (s))))) rfl ?_
          refine o_as (AV.lit (.string (fstS (l) (numS (s))))) rfl ?_
          refine aops_end ?_
          refine hK15 _ ?_
          refine awp_seq fun K16 hK16 => ?_
          refine awp_seq fun K17 hK17 => ?_
          refine awp_region rfl ?_
          refine o_mv (AV.lit (.int .i64 (fstI (l) (numS (s))))) rfl ?_
          refine o_lss (a := (fstI (l) (numS (s)))) (c := (((0 : Nat) : Int))) Gd.none rfl rfl ?_
          refine aops_end ?_
          refine hK17 _ ?_
          refine awp_condQ (q := (fstI (l) (numS (s))) < (((0 : Nat) : Int))) rfl (fun h5 => ?_) (fun h5 => ?_)
          · refine awp_seq fun K18 hK18 => ?_
            refine awp_region rfl ?_
            refine o_mv (AV.lit (.string (s))) rfl ?_
            refine o_mv (nm .i64 (i)) rfl ?_
            refine o_as (AV.lit (.string (s))) rfl ?_
            refine o_as (nm .i64 (i)) rfl ?_
            refine o_as (nm .i64 (0)) rfl ?_
            refine aops_end ?_
            refine hK18 _ ?_
            refine awp_ret ?_
            refine post_ret ⟨[(AV.lit (.string (s))), (nm .i64 (i)), (nm .i64 (0))], And.intro (AV.le_refl _) (And.intro (AV.le_refl _) (And.intro (AV.le_refl _) (trivial))), rfl, ?_⟩
            first | (rw [plyA_1 h1]; rfl) | (rw [plyA_2 hA0 (by omega)]; rfl) | (rw [hp, ply_stop (by omega) (by omega), txt_numS (okS_iff.1 ho)]; rfl) | (rw [hp, ply_big (by omega) (by omega) (tld_big h6), tld_3 (tld_big h6)]; rfl) | (rw [hp, show k.toNat - i = 0 by omega, show i = k.toNat by omega]; show AV.tup [.lit (.string (txt (numS s))), _, _] = _; rw [txt_numS (okS_iff.1 ho)]; rfl)
          · have hf := fst_str hA1 (show 0 ≤ (fstI l (numS s)) by omega) hz (fit_numS (okS_iff.1 ho))
            have hd := fstI_bd (l := l) (z := numS s) (by omega)
            have hd1 := hd.1
            have hSi := (hS _ (gdm (d := default) hd1)).1
            have hr := (hA1.2 _ (gdm (d := default) hd1)).1
            have qs := txt_sz2 hf.2.1
            have hm := mul_str (a := txt (numS s / numS (l.getD (fstI l (numS s)).toNat default).den)) (b := (l.getD (fstI l (numS s)).toNat default).num) ⟨okS_iff.2 (okS_txt hf.2.1), hr.1⟩
            refine awp_skip ?_
            refine hK16 _ ?_
            refine awp_seq fun K19 hK19 => ?_
            refine awp_region rfl ?_
            refine o_mv (AV.lit (.string (fstS (l) (numS (s))))) rfl ?_
            refine n_as (v' := (AV.lit (.string (txt (numS s / numS (l.getD (fstI l (numS s)).toNat default).den))))) (by exact str_as2 hf.1) ?_
            refine o_mv (AV.sl 2 (gcells cF (l))) rfl ?_
            refine o_mv (AV.lit (.int .i64 (fstI (l) (numS (s))))) rfl ?_
            refine n_as (v' := (nm .i64 ((fstI l (numS s)).toNat))) (nm_int (by omega)) ?_
            refine g_index cF (l) ((fstI l (numS s)).toNat) cF_len rfl Gd.none Yd_tE38 rfl rfl (by omega) ?_
            refine g_field cF (l) ((fstI l (numS s)).toNat) cF_len Gd.none Yd_tF54_0 rfl (by omega) rfl ?_
            refine g_loadS cF (l) ((fstI l (numS s)).toNat) default (AV.lit (.string ((((l).getD ((fstI l (numS s)).toNat) default)).num))) cF_len Gd.none Yd_tS9 rfl (by omega) rfl ?_
            refine o_ct (c_nMul (txt (numS s / numS (l.getD (fstI l (numS s)).toNat default).den)) ((((l).getD ((fstI l (numS s)).toNat) default)).num) (by first | assumption | decide | omega) (by first | assumption | decide | omega)) Gd.none Yd_tC24 rfl ?_
            refine o_mv (AV.tup [(AV.lit (.string ((if okS (txt (numS s / numS (l.getD (fstI l (numS s)).toNat default).den)) && okS ((((l).getD ((fstI l (numS s)).toNat) default)).num) then (toldS (numS (txt (numS s / numS (l.getD (fstI l (numS s)).toNat default).den)) * numS ((((l).getD ((fstI l (numS s)).toNat) default)).num))) else (({ data := #[] } : ByteArray)))))), (nm .i64 ((if okS (txt (numS s / numS (l.getD (fstI l (numS s)).toNat default).den)) && okS ((((l).getD ((fstI l (numS s)).toNat) default)).num) then (toldE (numS (txt (numS s / numS (l.getD (fstI l (numS s)).toNat default).den)) * numS ((((l).getD ((fstI l (numS s)).toNat) default)).num))) else (1))))]) rfl ?_
            refine o_extract (AV.lit (.string ((if okS (txt (numS s / numS (l.getD (fstI l (numS s)).toNat default).den)) && okS ((((l).getD ((fstI l (numS s)).toNat) default)).num) then (toldS (numS (txt (numS s / numS (l.getD (fstI l (numS s)).toNat default).den)) * numS ((((l).getD ((fstI l (numS s)).toNat) default)).num))) else (({ data := #[] } : ByteArray)))))) Gd.none rfl rfl ?_
            refine n_as (v' := (AV.lit (.string (toldS (nxF l (numS s)))))) (by exact str_as2 (hm.1.trans (by rw [numS_txt]; rfl))) ?_
            refine o_extract (nm .i64 ((if okS (txt (numS s / numS (l.getD (fstI l (numS s)).toNat default).den)) && okS ((((l).getD ((fstI l (numS s)).toNat) default)).num) then (toldE (numS (txt (numS s / numS (l.getD (fstI l (numS s)).toNat default).den)) * numS ((((l).getD ((fstI l (numS s)).toNat) default)).num))) else (1)))) Gd.none rfl rfl ?_
            refine n_as (v' := (nm .i64 (toldE (nxF l (numS s))))) (by exact congrArg (nm _) (hm.2.trans (by rw [numS_txt]; rfl))) ?_
            refine o_as (AV.lit (.string (toldS (nxF l (numS s))))) rfl ?_
            refine o_as (nm .i64 (toldE (nxF l (numS s)))) rfl ?_
            refine aops_end ?_
            refine hK19 _ ?_
            refine awp_seq fun K20 hK20 => ?_
            refine awp_seq fun K21 hK21 => ?_
            refine awp_region rfl ?_
            refine o_mv (nm .i64 (toldE (nxF l (numS s)))) rfl ?_
            refine n_neq (toldE (nxF l (numS s))) (0) Gd.none rfl rfl ?_
            refine aops_end ?_
            refine hK21 _ ?_
            refine awp_condQ (q := (toldE (nxF l (numS s))) ≠ (0)) rfl (fun h6 => ?_) (fun h6 => ?_)
            · refine awp_seq fun K22 hK22 => ?_
              refine awp_region rfl ?_
              refine o_mv (nm .i64 (toldE (nxF l (numS s)))) rfl ?_
              refine o_as (AV.lit (.string (({data := #[]} : ByteArray)))) rfl ?_
              refine o_as (nm .i64 (0)) rfl ?_
              refine o_as (nm .i64 (toldE (nxF l (numS s)))) rfl ?_
              refine aops_end ?_
              refine hK22 _ ?_
              refine awp_ret ?_
              refine post_ret ⟨[(AV.lit (.string (({data := #[]} : ByteArray)))), (nm .i64 (0)), (nm .i64 (toldE (nxF l (numS s))))], And.intro (AV.le_refl _) (And.intro (AV.le_refl _) (And.intro (AV.le_refl _) (trivial))), rfl, ?_⟩
              first | (rw [plyA_1 h1]; rfl) | (rw [plyA_2 hA0 (by omega)]; rfl) | (rw [hp, ply_stop (by omega) (by omega), txt_numS (okS_iff.1 ho)]; rfl) | (rw [hp, ply_big (by omega) (by omega) (tld_big h6), tld_3 (tld_big h6)]; rfl) | (rw [hp, show k.toNat - i = 0 by omega, show i = k.toNat by omega]; show AV.tup [.lit (.string (txt (numS s))), _, _] = _; rw [txt_numS (okS_iff.1 ho)]; rfl)
            · have hF := tld_ok h6
              obtain ⟨w1, w2⟩ := told_fit hF
              refine awp_skip ?_
              refine hK20 _ ?_
              refine awp_region rfl ?_
              refine o_mv (AV.lit (.string (toldS (nxF l (numS s))))) rfl ?_
              refine o_as (AV.lit (.string (toldS (nxF l (numS s))))) rfl ?_
              refine aops_end ?_
              refine hK13 _ ?_
              refine awp_region rfl ?_
              refine n_add (i) (1) Gd.none rfl rfl (by simp only [topOf]; omega) ?_
              refine o_mv (nm .i64 ((i) + (1))) rfl ?_
              refine aops_end ?_
              refine ⟨_, _, ?lt, ⟨i + 1, toldS (nxF l (numS s)), (by omega), (by rw [hp, ply_next (by omega) (by omega) hF, w1, numS_txt]), (by rw [w1]; exact okS_iff.2 (okS_txt hF)), (by rw [w1, numS_txt]; exact Int.mul_pos hf.2.2 hr.2), (by rw [w1]; exact txt_sz2 hF), rfl, rfl⟩, ?wk⟩
              case lt => omega
              case wk => exact Wk.sub (And.intro rfl (And.intro (by first | rfl | (simp)) (And.intro rfl (And.intro rfl (And.intro (by first | rfl | exact congrArg (nm _) (by omega) | exact nm_int (by omega) | exact nm_int (by simp [IntKind.wrap, IntKind.bits, IntKind.signed]; omega)) (trivial)))))) (trivial)
        · refine awp_exit ?_
          refine hK9 _ ?_
          refine awp_seq fun K23 hK23 => ?_
          refine awp_region rfl ?_
          refine o_mv (AV.lit (.string (s))) rfl ?_
          refine o_mv (AV.lit (.int .i64 (k))) rfl ?_
          refine n_as (v' := (nm .i64 (k.toNat))) (nm_int (by omega)) ?_
          refine o_as (AV.lit (.string (s))) rfl ?_
          refine o_as (nm .i64 (k.toNat)) rfl ?_
          refine o_as (nm .i64 (0)) rfl ?_
          refine aops_end ?_
          refine hK23 _ ?_
          refine awp_ret ?_
          refine post_ret ⟨[(AV.lit (.string (s))), (nm .i64 (k.toNat)), (nm .i64 (0))], And.intro (AV.le_refl _) (And.intro (AV.le_refl _) (And.intro (AV.le_refl _) (trivial))), rfl, ?_⟩
          first | (rw [plyA_1 h1]; rfl) | (rw [plyA_2 hA0 (by omega)]; rfl) | (rw [hp, ply_stop (by omega) (by omega), txt_numS (okS_iff.1 ho)]; rfl) | (rw [hp, ply_big (by omega) (by omega) (tld_big h6), tld_3 (tld_big h6)]; rfl) | (rw [hp, show k.toNat - i = 0 by omega, show i = k.toNat by omega]; show AV.tup [.lit (.string (txt (numS s))), _, _] = _; rw [txt_numS (okS_iff.1 ho)]; rfl)

end Go.Proofs.YtnejjdcbbminaaaDoor

