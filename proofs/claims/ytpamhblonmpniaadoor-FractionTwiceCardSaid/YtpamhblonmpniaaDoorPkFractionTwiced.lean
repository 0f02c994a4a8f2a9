/- What the proof of a row of this seat leans on (part 4 of 5): a library of abstract values, walks of functions, and plain laws. -/
import Derived.Test.YtpamhblonmpniaaDoorPkFractionTwicec
set_option linter.unusedVariables false
set_option linter.unusedSimpArgs false
namespace Go.Proofs.YtpamhblonmpniaaDoor
open Go Go.Ab Go.Mth
theorem Ya_tF24_1 : tyField cx.P 24 1 = some (1, 22) := by kernel_rfl
theorem Ya_tS22 : tySc cx.P 22 = true := by kernel_rfl
theorem Ya_tU22 : cx.P.underlying 22 = some (.slice 52) := by kernel_rfl
theorem Ya_tF52_1 : tyField cx.P 52 1 = some (1, 3) := by kernel_rfl
theorem Ya_tS3 : tySc cx.P 3 = true := by kernel_rfl
theorem Ya_tF24_0 : tyField cx.P 24 0 = some (0, 3) := by kernel_rfl
theorem Ya_tA24 : tyAgg cx.P 24 = some 2 := by kernel_rfl
theorem Ya_tF52_2 : tyField cx.P 52 2 = some (2, 3) := by kernel_rfl
theorem Ya_tC37 : callable cx.P 37 = true := by kernel_rfl
theorem Ya_tF52_0 : tyField cx.P 52 0 = some (0, 3) := by kernel_rfl
theorem Ya_tF52_3 : tyField cx.P 52 3 = some (3, 3) := by kernel_rfl
theorem Ya_tA52 : tyAgg cx.P 52 = some 4 := by kernel_rfl
theorem Ya_tC34 : callable cx.P 34 = true := by kernel_rfl
theorem Ya_tE22 : tyElem cx.P 22 = some (52, 4, 32) := by kernel_rfl
theorem Ya_tC33 : callable cx.P 33 = true := by kernel_rfl
theorem Ya_tC51 : callable cx.P 51 = true := by kernel_rfl
theorem Ya_tC32 : callable cx.P 32 = true := by kernel_rfl
theorem Ya_tU25 : cx.P.underlying 25 = some (.slice 3) := by kernel_rfl
theorem Ya_tE25 : tyElem cx.P 25 = some (3, 1, 8) := by kernel_rfl
theorem Ya_tC38 : callable cx.P 38 = true := by kernel_rfl
theorem Ya_tC52 : callable cx.P 52 = true := by kernel_rfl
theorem Ya_tC17 : callable cx.P 17 = true := by kernel_rfl
theorem Ya_tF27_0 : tyField cx.P 27 0 = some (0, 3) := by kernel_rfl
theorem Ya_tF27_1 : tyField cx.P 27 1 = some (1, 25) := by kernel_rfl
theorem Ya_tS25 : tySc cx.P 25 = true := by kernel_rfl
theorem Ya_tC35 : callable cx.P 35 = true := by kernel_rfl
theorem Ya_tC36 : callable cx.P 36 = true := by kernel_rfl
theorem c_place (m : Mac) (z : Int) : ECalls cx 37 [(macV m), (AV.lit (.int .i64 (z)))] (bp (plc m z)) := by
  refine ecalls_of_awp Tryd.func37 (c := _) rfl (Nat.le_of_ble_eq_true rfl) ?_
  show awp cx 14 _ (postF cx Tryd.f37 _) ⟨[(0, (macV m)), (1, (AV.lit (.int .i64 (z))))], []⟩
  refine awp_seq fun K0 hK0 => ?_
  refine awp_region rfl ?_
  refine o_box 2 [(AV.lit (.int .i64 (m.regs))), (AV.sl 4 (gcells cI (m.code)))] Gd.none rfl rfl ?_
  refine o_as (AV.lit (.bool false)) rfl ?_
  refine aops_end ?_
  refine hK0 _ ?_
  refine awp_seq fun K1 hK1 => ?_
  refine awp_region rfl ?_
  refine o_mv (AV.lit (.int .i64 (z))) rfl ?_
  refine o_geq (a := (z)) (c := (((0 : Nat) : Int))) Gd.none rfl rfl ?_
  refine o_mv (bp ((((0 : Nat) : Int)) ≤ (z))) rfl ?_
  refine o_splitP (q := (((0 : Nat) : Int)) ≤ (z)) 7 rfl (fun h1 => ?_) (fun h1 => ?_)
  · refine o_move (AV.lit (.int .i64 (z))) (Gd.yes rfl rfl (decide_eq_true h1)) rfl ?_
    refine o_fieldRef 1 (Gd.yes rfl rfl (decide_eq_true h1)) Ya_tF24_1 rfl rfl ?_
    refine o_loadS (AV.sl 4 (gcells cI (m.code))) (Gd.yes rfl rfl (decide_eq_true h1)) Ya_tS22 rfl rfl rfl ?_
    refine g_len cI (m.code) cI_len (Gd.yes rfl rfl (decide_eq_true h1)) Ya_tU22 rfl ?_
    refine o_leq (a := (z)) (c := ((((m.code).length : Nat) : Int))) (Gd.yes rfl rfl (decide_eq_true h1)) rfl rfl ?_
    refine o_pickT (bp ((z) ≤ ((((m.code).length : Nat) : Int)))) Gd.none rfl (decide_eq_true h1) rfl ?_
    refine o_as (bp ((z) ≤ ((((m.code).length : Nat) : Int)))) rfl ?_
    refine aops_end ?_
    refine hK1 _ ?_
    refine awp_ret ?_
    refine post_ret ⟨[(bp ((z) ≤ ((((m.code).length : Nat) : Int))))], And.intro (AV.le_refl _) (trivial), rfl, ?_⟩
    first | rfl | exact bpc (by simp only [insP, plc, regP] at *; omega) | exact bpn (by simp only [insP, plc, regP] at *; omega) | exact bpy (by simp only [insP, plc, regP] at *; omega)
  · refine o_skip rfl rfl (decide_eq_false h1) ?_
    refine o_skip rfl rfl (decide_eq_false h1) ?_
    refine o_skip rfl rfl (decide_eq_false h1) ?_
    refine o_skip rfl rfl (decide_eq_false h1) ?_
    refine o_skip rfl rfl (decide_eq_false h1) ?_
    refine o_pickF (AV.lit (.bool false)) Gd.none rfl (decide_eq_false h1) rfl ?_
    refine o_as (AV.lit (.bool false)) rfl ?_
    refine aops_end ?_
    refine hK1 _ ?_
    refine awp_ret ?_
    refine post_ret ⟨[(AV.lit (.bool false))], And.intro (AV.le_refl _) (trivial), rfl, ?_⟩
    first | rfl | exact bpc (by simp only [insP, plc, regP] at *; omega) | exact bpn (by simp only [insP, plc, regP] at *; omega) | exact bpy (by simp only [insP, plc, regP] at *; omega)

theorem c_instr (m : Mac) (x : Ins) : ECalls cx 34 [(macV m), (AV.agg [(AV.lit (.int .i64 ((x).kind))), (AV.lit (.int .i64 ((x).reg))), (AV.lit (.int .i64 ((x).next))), (AV.lit (.int .i64 ((x).els)))])] (bp (insP m x)) := by
  refine ecalls_of_awp Tryd.func34 (c := _) rfl (Nat.le_of_ble_eq_true rfl) ?_
  show awp cx 39 _ (postF cx Tryd.f34 _) ⟨[(0, (macV m)), (1, (AV.agg [(AV.lit (.int .i64 ((x).kind))), (AV.lit (.int .i64 ((x).reg))), (AV.lit (.int .i64 ((x).next))), (AV.lit (.int .i64 ((x).els)))]))], []⟩
  refine awp_seq fun K0 hK0 => ?_
  refine awp_region rfl ?_
  refine o_box 2 [(AV.lit (.int .i64 (m.regs))), (AV.sl 4 (gcells cI (m.code)))] Gd.none rfl rfl ?_
  refine o_box 3 [(AV.lit (.int .i64 ((x).kind))), (AV.lit (.int .i64 ((x).reg))), (AV.lit (.int .i64 ((x).next))), (AV.lit (.int .i64 ((x).els)))] Gd.none rfl rfl ?_
  refine o_as (AV.lit (.bool false)) rfl ?_
  refine aops_end ?_
  refine hK0 _ ?_
  refine awp_seq fun K1 hK1 => ?_
  refine awp_block ?_
  refine awp_seq fun K2 hK2 => ?_
  refine awp_region rfl ?_
  refine o_fieldRef 1 Gd.none Ya_tF52_1 rfl rfl ?_
  refine o_loadS (AV.lit (.int .i64 ((x).reg))) Gd.none Ya_tS3 rfl rfl rfl ?_
  refine o_lss (a := ((x).reg)) (c := (((0 : Nat) : Int))) Gd.none rfl rfl ?_
  refine o_mv (bp (((x).reg) < (((0 : Nat) : Int)))) rfl ?_
  refine o_splitP (q := ((x).reg) < (((0 : Nat) : Int))) 9 rfl (fun h1 => ?_) (fun h1 => ?_)
  · refine o_skip rfl rfl (decide_eq_true h1) ?_
    refine o_skip rfl rfl (decide_eq_true h1) ?_
    refine o_skip rfl rfl (decide_eq_true h1) ?_
    refine o_skip rfl rfl (decide_eq_true h1) ?_
    refine o_skip rfl rfl (decide_eq_true h1) ?_
    refine o_pickT (AV.lit (.bool true)) Gd.none rfl (decide_eq_true h1) rfl ?_
    refine o_mv (AV.lit (.bool true)) rfl ?_
    refine o_skip rfl rfl rfl ?_
    refine o_skip rfl rfl rfl ?_
    refine o_skip rfl rfl rfl ?_
    refine o_skip rfl rfl rfl ?_
    refine o_skip rfl rfl rfl ?_
    refine o_pickT (AV.lit (.bool true)) Gd.none rfl rfl rfl ?_
    refine o_as (AV.lit (.bool true)) rfl ?_
    refine aops_end ?_
    refine hK2 _ ?_
    refine awp_condB (b := true) rfl (fun _ => ?_) (fun hh => absurd (hh.symm.trans rfl) (by decide))
    refine awp_seq fun K3 hK3 => ?_
    refine awp_region rfl ?_
    refine o_as (AV.lit (.bool false)) rfl ?_
    refine aops_end ?_
    refine hK3 _ ?_
    refine awp_ret ?_
    refine post_ret ⟨[(AV.lit (.bool false))], And.intro (AV.le_refl _) (trivial), rfl, ?_⟩
    first | rfl | exact bpc (by simp only [insP, plc, regP] at *; omega) | exact bpn (by simp only [insP, plc, regP] at *; omega) | exact bpy (by simp only [insP, plc, regP] at *; omega)
  · refine o_fieldRef 1 (Gd.yes rfl rfl (decide_eq_false h1)) Ya_tF52_1 rfl rfl ?_
    refine o_loadS (AV.lit (.int .i64 ((x).reg))) (Gd.yes rfl rfl (decide_eq_false h1)) Ya_tS3 rfl rfl rfl ?_
    refine o_fieldRef 0 (Gd.yes rfl rfl (decide_eq_false h1)) Ya_tF24_0 rfl rfl ?_
    refine o_loadS (AV.lit (.int .i64 (m.regs))) (Gd.yes rfl rfl (decide_eq_false h1)) Ya_tS3 rfl rfl rfl ?_
    refine o_geq (a := ((x).reg)) (c := (m.regs)) (Gd.yes rfl rfl (decide_eq_false h1)) rfl rfl ?_
    refine o_pickF (bp ((m.regs) ≤ ((x).reg))) Gd.none rfl (decide_eq_false h1) rfl ?_
    refine o_mv (bp ((m.regs) ≤ ((x).reg))) rfl ?_
    refine o_splitP (q := (m.regs) ≤ ((x).reg)) 16 rfl (fun h2 => ?_) (fun h2 => ?_)
    · refine o_skip rfl rfl (decide_eq_true h2) ?_
      refine o_skip rfl rfl (decide_eq_true h2) ?_
      refine o_skip rfl rfl (decide_eq_true h2) ?_
      refine o_skip rfl rfl (decide_eq_true h2) ?_
      refine o_skip rfl rfl (decide_eq_true h2) ?_
      refine o_pickT (AV.lit (.bool true)) Gd.none rfl (decide_eq_true h2) rfl ?_
      refine o_as (AV.lit (.bool true)) rfl ?_
      refine aops_end ?_
      refine hK2 _ ?_
      refine awp_condB (b := true) rfl (fun _ => ?_) (fun hh => absurd (hh.symm.trans rfl) (by decide))
      refine awp_seq fun K4 hK4 => ?_
      refine awp_region rfl ?_
      refine o_as (AV.lit (.bool false)) rfl ?_
      refine aops_end ?_
      refine hK4 _ ?_
      refine awp_ret ?_
      refine post_ret ⟨[(AV.lit (.bool false))], And.intro (AV.le_refl _) (trivial), rfl, ?_⟩
      first | rfl | exact bpc (by simp only [insP, plc, regP] at *; omega) | exact bpn (by simp only [insP, plc, regP] at *; omega) | exact bpy (by simp only [insP, plc, regP] at *; omega)
    · refine o_loadA [(AV.lit (.int .i64 (m.regs))), (AV.sl 4 (gcells cI (m.code)))] (Gd.yes rfl rfl (decide_eq_false h2)) Ya_tA24 rfl rfl rfl rfl rfl ?_
      refine o_fieldRef 2 (Gd.yes rfl rfl (decide_eq_false h2)) Ya_tF52_2 rfl rfl ?_
      refine o_loadS (AV.lit (.int .i64 ((x).next))) (Gd.yes rfl rfl (decide_eq_false h2)) Ya_tS3 rfl rfl rfl ?_
      refine o_ct (c_place m ((x).next)) (Gd.yes rfl rfl (decide_eq_false h2)) Ya_tC37 rfl ?_
      refine o_notP (q := plc m ((x).next)) (Gd.yes rfl rfl (decide_eq_false h2)) rfl ?_
      refine o_pickF (bp (¬ (plc m ((x).next)))) Gd.none rfl (decide_eq_false h2) rfl ?_
      refine o_as (bp (¬ (plc m ((x).next)))) rfl ?_
      refine aops_end ?_
      refine hK2 _ ?_
      refine awp_condQ (q := ¬ (plc m ((x).next))) rfl (fun h3 => ?_) (fun h3 => ?_)
      · refine awp_seq fun K5 hK5 => ?_
        refine awp_region rfl ?_
        refine o_as (AV.lit (.bool false)) rfl ?_
        refine aops_end ?_
        refine hK5 _ ?_
        refine awp_ret ?_
        refine post_ret ⟨[(AV.lit (.bool false))], And.intro (AV.le_refl _) (trivial), rfl, ?_⟩
        first | rfl | exact bpc (by simp only [insP, plc, regP] at *; omega) | exact bpn (by simp only [insP, plc, regP] at *; omega) | exact bpy (by simp only [insP, plc, regP] at *; omega)
      · refine awp_seq fun K6 hK6 => ?_
        refine awp_region rfl ?_
        refine o_fieldRef 0 Gd.none Ya_tF52_0 rfl rfl ?_
        refine o_loadS (AV.lit (.int .i64 ((x).kind))) Gd.none Ya_tS3 rfl rfl rfl ?_
        refine o_eql (a := ((x).kind)) (c := (((0 : Nat) : Int))) Gd.none rfl rfl ?_
        refine o_as (bp (((x).kind) = (((0 : Nat) : Int)))) rfl ?_
        refine aops_end ?_
        refine hK6 _ ?_
        refine awp_condQ (q := ((x).kind) = (((0 : Nat) : Int))) rfl (fun h4 => ?_) (fun h4 => ?_)
        · refine awp_seq fun K7 hK7 => ?_
          refine awp_region rfl ?_
          refine o_fieldRef 3 Gd.none Ya_tF52_3 rfl rfl ?_
          refine o_loadS (AV.lit (.int .i64 ((x).els))) Gd.none Ya_tS3 rfl rfl rfl ?_
          refine o_eql (a := ((x).els)) (c := (((0 : Nat) : Int))) Gd.none rfl rfl ?_
          refine o_as (bp (((x).els) = (((0 : Nat) : Int)))) rfl ?_
          refine aops_end ?_
          refine hK7 _ ?_
          refine awp_ret ?_
          refine post_ret ⟨[(bp (((x).els) = (((0 : Nat) : Int))))], And.intro (AV.le_refl _) (trivial), rfl, ?_⟩
          first | rfl | exact bpc (by simp only [insP, plc, regP] at *; omega) | exact bpn (by simp only [insP, plc, regP] at *; omega) | exact bpy (by simp only [insP, plc, regP] at *; omega)
        · refine awp_skip ?_
          refine hK1 _ ?_
          refine awp_seq fun K8 hK8 => ?_
          refine awp_region rfl ?_
          refine o_fieldRef 0 Gd.none Ya_tF52_0 rfl rfl ?_
          refine o_loadS (AV.lit (.int .i64 ((x).kind))) Gd.none Ya_tS3 rfl rfl rfl ?_
          refine o_eql (a := ((x).kind)) (c := (((1 : Nat) : Int))) Gd.none rfl rfl ?_
          refine o_mv (bp (((x).kind) = (((1 : Nat) : Int)))) rfl ?_
          refine o_splitP (q := ((x).kind) = (((1 : Nat) : Int))) 33 rfl (fun h5 => ?_) (fun h5 => ?_)
          · refine o_loadA [(AV.lit (.int .i64 (m.regs))), (AV.sl 4 (gcells cI (m.code)))] (Gd.yes rfl rfl (decide_eq_true h5)) Ya_tA24 rfl rfl rfl rfl rfl ?_
            refine o_fieldRef 3 (Gd.yes rfl rfl (decide_eq_true h5)) Ya_tF52_3 rfl rfl ?_
            refine o_loadS (AV.lit (.int .i64 ((x).els))) (Gd.yes rfl rfl (decide_eq_true h5)) Ya_tS3 rfl rfl rfl ?_
            refine o_ct (c_place m ((x).els)) (Gd.yes rfl rfl (decide_eq_true h5)) Ya_tC37 rfl ?_
            refine o_pickT (bp (plc m ((x).els))) Gd.none rfl (decide_eq_true h5) rfl ?_
            refine o_as (bp (plc m ((x).els))) rfl ?_
            refine aops_end ?_
            refine hK8 _ ?_
            refine awp_ret ?_
            refine post_ret ⟨[(bp (plc m ((x).els)))], And.intro (AV.le_refl _) (trivial), rfl, ?_⟩
            first | rfl | exact bpc (by simp only [insP, plc, regP] at *; omega) | exact bpn (by simp only [insP, plc, regP] at *; omega) | exact bpy (by simp only [insP, plc, regP] at *; omega)
          · refine o_skip rfl rfl (decide_eq_false h5) ?_
            refine o_skip rfl rfl (decide_eq_false h5) ?_
            refine o_skip rfl rfl (decide_eq_false h5) ?_
            refine o_skip rfl rfl (decide_eq_false h5) ?_
            refine o_pickF (AV.lit (.bool false)) Gd.none rfl (decide_eq_false h5) rfl ?_
            refine o_as (AV.lit (.bool false)) rfl ?_
            refine aops_end ?_
            refine hK8 _ ?_
            refine awp_ret ?_
            refine post_ret ⟨[(AV.lit (.bool false))], And.intro (AV.le_refl _) (trivial), rfl, ?_⟩
            first | rfl | exact bpc (by simp only [insP, plc, regP] at *; omega) | exact bpn (by simp only [insP, plc, regP] at *; omega) | exact bpy (by simp only [insP, plc, regP] at *; omega)

theorem c_Valid1 (m : Mac) (x : Ins) : ECalls cx 33 [(AV.agg [(AV.lit (.int .i64 ((x).kind))), (AV.lit (.int .i64 ((x).reg))), (AV.lit (.int .i64 ((x).next))), (AV.lit (.int .i64 ((x).els)))]), (AV.ip [(AV.lit (.int .i64 (m.regs))), (AV.sl 4 (gcells cI (m.code)))])] (bp (¬ insP m x)) := by
  refine ecalls_of_awp Tryd.func33 (c := _) rfl (Nat.le_of_ble_eq_true rfl) ?_
  show awp cx 8 _ (postF cx Tryd.f33 _) ⟨[(0, (AV.agg [(AV.lit (.int .i64 ((x).kind))), (AV.lit (.int .i64 ((x).reg))), (AV.lit (.int .i64 ((x).next))), (AV.lit (.int .i64 ((x).els)))])), (1, (AV.ip [(AV.lit (.int .i64 (m.regs))), (AV.sl 4 (gcells cI (m.code)))]))], []⟩
  refine awp_seq fun K0 hK0 => ?_
  refine awp_region rfl ?_
  refine o_box 2 [(AV.lit (.int .i64 ((x).kind))), (AV.lit (.int .i64 ((x).reg))), (AV.lit (.int .i64 ((x).next))), (AV.lit (.int .i64 ((x).els)))] Gd.none rfl rfl ?_
  refine o_as (AV.lit (.bool false)) rfl ?_
  refine aops_end ?_
  refine hK0 _ ?_
  refine awp_seq fun K1 hK1 => ?_
  refine awp_region rfl ?_
  refine o_loadIA [(AV.lit (.int .i64 (m.regs))), (AV.sl 4 (gcells cI (m.code)))] Gd.none Ya_tA24 rfl (Nat.le_of_ble_eq_true rfl) rfl ?_
  refine o_loadA [(AV.lit (.int .i64 ((x).kind))), (AV.lit (.int .i64 ((x).reg))), (AV.lit (.int .i64 ((x).next))), (AV.lit (.int .i64 ((x).els)))] Gd.none Ya_tA52 rfl rfl rfl rfl rfl ?_
  refine o_ct (c_instr m (x)) Gd.none Ya_tC34 rfl ?_
  refine o_notP (q := insP m (x)) Gd.none rfl ?_
  refine o_as (bp (¬ (insP m (x)))) rfl ?_
  refine aops_end ?_
  refine hK1 _ ?_
  refine awp_ret ?_
  refine post_ret ⟨[(bp (¬ (insP m (x))))], And.intro (AV.le_refl _) (trivial), rfl, ?_⟩
  rfl

theorem c_ixIns (m : Mac) (hl : m.code.length ≤ 12) : ECalls cx 51 [(AV.sl 4 (gcells cI (m.code))), (AV.clo 33 [(AV.ip [(AV.lit (.int .i64 (m.regs))), (AV.sl 4 (gcells cI (m.code)))])])] (.lit (.int .i64 (ixP (fun x => ¬ insP m x) m.code))) := by
  refine ecalls_of_awp Tryd.func51 (c := _) rfl (Nat.le_of_ble_eq_true rfl) ?_
  show awp cx 19 _ (postF cx Tryd.f51 _) ⟨[(0, (AV.sl 4 (gcells cI (m.code)))), (1, (AV.clo 33 [(AV.ip [(AV.lit (.int .i64 (m.regs))), (AV.sl 4 (gcells cI (m.code)))])]))], []⟩
  refine awp_seq fun K0 hK0 => ?_
  refine awp_region rfl ?_
  refine o_as (nm .i64 (0)) rfl ?_
  refine aops_end ?_
  refine hK0 _ ?_
  refine awp_seq fun K1 hK1 => ?_
  refine awp_seq fun K2 hK2 => ?_
  refine awp_region rfl ?_
  refine o_mv (AV.sl 4 (gcells cI (m.code))) rfl ?_
  refine g_len cI (m.code) cI_len Gd.none Ya_tU22 rfl ?_
  refine o_mv (nm .i64 (0)) rfl ?_
  refine aops_end ?_
  refine hK2 _ ?_
  refine awp_block ?_
  refine awp_loopR (fun κ σ => ∃ (i : Nat), (i ≤ m.code.length) ∧ (∀ k, k < i → ¬ ((fun x => ¬ insP m x) ((m.code).getD k default))) ∧ (m.code.length - i) = κ ∧ σ = ⟨[(0, (AV.sl 4 (gcells cI (m.code)))), (1, (AV.clo 33 [(AV.ip [(AV.lit (.int .i64 (m.regs))), (AV.sl 4 (gcells cI (m.code)))])])), (7, (nm .i64 (m.code.length))), (8, (nm .i64 (i)))], []⟩) ⟨_, _, ⟨0, (by omega), (fun k hk => by omega), rfl, rfl⟩, ?wk0⟩ ?rd0
  case wk0 =>
    exact Wk.sub (And.intro rfl (And.intro rfl (And.intro (by first | rfl | exact congrArg (nm _) (by omega) | exact nm_int (by omega) | exact nm_int (by simp [IntKind.wrap, IntKind.bits, IntKind.signed]; omega)) (And.intro (by first | rfl | exact congrArg (nm _) (by omega) | exact nm_int (by omega) | exact nm_int (by simp [IntKind.wrap, IntKind.bits, IntKind.signed]; omega)) (trivial))))) (trivial)
  rintro κ _ ⟨i, hi, hb, rfl, rfl⟩
  refine awp_seq fun K3 hK3 => ?_
  refine awp_region rfl ?_
  refine n_lss (i) (m.code.length) Gd.none rfl rfl ?_
  refine aops_end ?_
  refine hK3 _ ?_
  refine awp_seq fun K4 hK4 => ?_
  refine awp_condQ (q := (i) < (m.code.length)) rfl (fun h1 => ?_) (fun h1 => ?_)
  · refine awp_skip ?_
    refine hK4 _ ?_
    refine awp_seq fun K5 hK5 => ?_
    refine awp_block ?_
    refine awp_seq fun K6 hK6 => ?_
    refine awp_region rfl ?_
    refine o_mv (nm .i64 (i)) rfl ?_
    refine o_as (nm .i64 (i)) rfl ?_
    refine aops_end ?_
    refine hK6 _ ?_
    refine awp_seq fun K7 hK7 => ?_
    refine awp_region rfl ?_
    refine o_mv (AV.clo 33 [(AV.ip [(AV.lit (.int .i64 (m.regs))), (AV.sl 4 (gcells cI (m.code)))])]) rfl ?_
    refine o_mv (AV.sl 4 (gcells cI (m.code))) rfl ?_
    refine o_mv (nm .i64 (i)) rfl ?_
    refine g_index cI (m.code) (i) cI_len rfl Gd.none Ya_tE22 rfl rfl (by omega) ?_
    refine g_loadA cI (m.code) (i) default cI_len Gd.none Ya_tA52 rfl (by omega) ?_
    refine o_callG [] [(AV.agg [(AV.lit (.int .i64 ((((m.code).getD (i) default)).kind))), (AV.lit (.int .i64 ((((m.code).getD (i) default)).reg))), (AV.lit (.int .i64 ((((m.code).getD (i) default)).next))), (AV.lit (.int .i64 ((((m.code).getD (i) default)).els)))]), (AV.ip [(AV.lit (.int .i64 (m.regs))), (AV.sl 4 (gcells cI (m.code)))])] _ (bp (¬ (insP m (((m.code).getD (i) default))))) [] Gd.none Ya_tC33 rfl (trivial) rfl rfl (LeL.cons (AV.le_refl _) (LeL.cons (AV.le_refl _) (LeL.nil))) (c_Valid1 m (((m.code).getD (i) default))) rfl ?_
    refine aops_end ?_
    refine hK7 _ ?_
    refine awp_condQ (q := ¬ (insP m (((m.code).getD (i) default)))) rfl (fun h2 => ?_) (fun h2 => ?_)
    · refine awp_seq fun K8 hK8 => ?_
      refine awp_region rfl ?_
      refine o_mv (nm .i64 (i)) rfl ?_
      refine o_as (nm .i64 (i)) rfl ?_
      refine aops_end ?_
      refine hK8 _ ?_
      refine awp_ret ?_
      refine post_ret ⟨[(nm .i64 (i))], And.intro (AV.le_refl _) (trivial), rfl, ?_⟩
      exact congrArg (fun z => AV.lit (.int .i64 z)) (ixP_hit (d := default) (by omega) (by assumption) hb)
    · refine awp_skip ?_
      refine hK5 _ ?_
      refine awp_region rfl ?_
      refine n_add (i) (1) Gd.none rfl rfl (by simp only [topOf]; omega) ?_
      refine o_mv (nm .i64 ((i) + (1))) rfl ?_
      refine aops_end ?_
      refine ⟨_, _, ?lt, ⟨i + 1, (by omega), (fun k hk => by rcases Nat.lt_or_ge k i with e | e; exact hb k e; rw [show k = i by omega]; assumption), rfl, rfl⟩, ?wk⟩
      case lt => omega
      case wk => exact Wk.sub (And.intro rfl (And.intro rfl (And.intro rfl (And.intro (by first | rfl | exact congrArg (nm _) (by omega) | exact nm_int (by omega) | exact nm_int (by simp [IntKind.wrap, IntKind.bits, IntKind.signed]; omega)) (trivial))))) (trivial)
  · refine awp_exit ?_
    refine hK1 _ ?_
    refine awp_seq fun K9 hK9 => ?_
    refine awp_region rfl ?_
    refine o_as (AV.lit (.int .i64 ((-1)))) rfl ?_
    refine aops_end ?_
    refine hK9 _ ?_
    refine awp_ret ?_
    refine post_ret ⟨[(AV.lit (.int .i64 ((-1))))], And.intro (AV.le_refl _) (trivial), rfl, ?_⟩
    exact congrArg (fun z => AV.lit (.int .i64 z)) (ixP_none (d := default) (by omega) hb)

theorem c_hasIns (m : Mac) (hl : m.code.length ≤ 12) : ECalls cx 32 [(AV.sl 4 (gcells cI (m.code))), (AV.clo 33 [(AV.ip [(AV.lit (.int .i64 (m.regs))), (AV.sl 4 (gcells cI (m.code)))])])] (bp (∃ x ∈ m.code, (fun x => ¬ insP m x) x)) := by
  refine ecalls_of_awp Tryd.func32 (c := _) rfl (Nat.le_of_ble_eq_true rfl) ?_
  show awp cx 9 _ (postF cx Tryd.f32 _) ⟨[(0, (AV.sl 4 (gcells cI (m.code)))), (1, (AV.clo 33 [(AV.ip [(AV.lit (.int .i64 (m.regs))), (AV.sl 4 (gcells cI (m.code)))])]))], []⟩
  refine awp_seq fun K0 hK0 => ?_
  refine awp_region rfl ?_
  refine o_as (AV.lit (.bool false)) rfl ?_
  refine aops_end ?_
  refine hK0 _ ?_
  refine awp_seq fun K1 hK1 => ?_
  refine awp_region rfl ?_
  refine o_mv (AV.sl 4 (gcells cI (m.code))) rfl ?_
  refine o_mv (AV.clo 33 [(AV.ip [(AV.lit (.int .i64 (m.regs))), (AV.sl 4 (gcells cI (m.code)))])]) rfl ?_
  refine o_ct (c_ixIns m (by omega)) Gd.none Ya_tC51 rfl ?_
  refine o_geq (a := (ixP (fun x => ¬ insP m x) (m.code))) (c := (((0 : Nat) : Int))) Gd.none rfl rfl ?_
  refine o_as (bp ((((0 : Nat) : Int)) ≤ (ixP (fun x => ¬ insP m x) (m.code)))) rfl ?_
  refine aops_end ?_
  refine hK1 _ ?_
  refine awp_ret ?_
  refine post_ret ⟨[(bp ((((0 : Nat) : Int)) ≤ (ixP (fun x => ¬ insP m x) (m.code))))], And.intro (AV.le_refl _) (trivial), rfl, ?_⟩
  exact bpc (ixP_nn (p := fun x => ¬ insP m x))

theorem c_fValid (m : Mac) : ECalls cx 17 [(macV m)] (bp (okMac m)) := by
  refine ecalls_of_awp Tryd.func17 (c := _) rfl (Nat.le_of_ble_eq_true rfl) ?_
  show awp cx 30 _ (postF cx Tryd.f17 _) ⟨[(0, (macV m))], []⟩
  refine awp_seq fun K0 hK0 => ?_
  refine awp_region rfl ?_
  refine o_box 2 [(AV.lit (.int .i64 (m.regs))), (AV.sl 4 (gcells cI (m.code)))] Gd.none rfl rfl ?_
  refine o_as (AV.lit (.bool false)) rfl ?_
  refine aops_end ?_
  refine hK0 _ ?_
  refine awp_seq fun K1 hK1 => ?_
  refine awp_region rfl ?_
  refine o_fieldRef 0 Gd.none Ya_tF24_0 rfl rfl ?_
  refine o_loadS (AV.lit (.int .i64 (m.regs))) Gd.none Ya_tS3 rfl rfl rfl ?_
  refine o_geq (a := (m.regs)) (c := (((1 : Nat) : Int))) Gd.none rfl rfl ?_
  refine o_mv (bp ((((1 : Nat) : Int)) ≤ (m.regs))) rfl ?_
  refine o_splitP (q := (((1 : Nat) : Int)) ≤ (m.regs)) 6 rfl (fun h1 => ?_) (fun h1 => ?_)
  · refine o_fieldRef 0 (Gd.yes rfl rfl (decide_eq_true h1)) Ya_tF24_0 rfl rfl ?_
    refine o_loadS (AV.lit (.int .i64 (m.regs))) (Gd.yes rfl rfl (decide_eq_true h1)) Ya_tS3 rfl rfl rfl ?_
    refine o_leq (a := (m.regs)) (c := (((4 : Nat) : Int))) (Gd.yes rfl rfl (decide_eq_true h1)) rfl rfl ?_
    refine o_pickT (bp ((m.regs) ≤ (((4 : Nat) : Int)))) Gd.none rfl (decide_eq_true h1) rfl ?_
    refine o_mv (bp ((m.regs) ≤ (((4 : Nat) : Int)))) rfl ?_
    refine o_splitP (q := (m.regs) ≤ (((4 : Nat) : Int))) 11 rfl (fun h2 => ?_) (fun h2 => ?_)
    · refine o_fieldRef 1 (Gd.yes rfl rfl (decide_eq_true h2)) Ya_tF24_1 rfl rfl ?_
      refine o_loadS (AV.sl 4 (gcells cI (m.code))) (Gd.yes rfl rfl (decide_eq_true h2)) Ya_tS22 rfl rfl rfl ?_
      refine g_len cI (m.code) cI_len (Gd.yes rfl rfl (decide_eq_true h2)) Ya_tU22 rfl ?_
      refine n_geq ((m.code).length) (1) (Gd.yes rfl rfl (decide_eq_true h2)) rfl rfl ?_
      refine o_pickT (bp ((1) ≤ ((m.code).length))) Gd.none rfl (decide_eq_true h2) rfl ?_
      refine o_mv (bp ((1) ≤ ((m.code).length))) rfl ?_
      refine o_splitP (q := (1) ≤ ((m.code).length)) 17 rfl (fun h3 => ?_) (fun h3 => ?_)
      · refine o_fieldRef 1 (Gd.yes rfl rfl (decide_eq_true h3)) Ya_tF24_1 rfl rfl ?_
        refine o_loadS (AV.sl 4 (gcells cI (m.code))) (Gd.yes rfl rfl (decide_eq_true h3)) Ya_tS22 rfl rfl rfl ?_
        refine g_len cI (m.code) cI_len (Gd.yes rfl rfl (decide_eq_true h3)) Ya_tU22 rfl ?_
        refine n_leq ((m.code).length) (12) (Gd.yes rfl rfl (decide_eq_true h3)) rfl rfl ?_
        refine o_pickT (bp (((m.code).length) ≤ (12))) Gd.none rfl (decide_eq_true h3) rfl ?_
        refine o_mv (bp (((m.code).length) ≤ (12))) rfl ?_
        refine o_splitP (q := ((m.code).length) ≤ (12)) 23 rfl (fun h4 => ?_) (fun h4 => ?_)
        · refine o_fieldRef 1 (Gd.yes rfl rfl (decide_eq_true h4)) Ya_tF24_1 rfl rfl ?_
          refine o_loadS (AV.sl 4 (gcells cI (m.code))) (Gd.yes rfl rfl (decide_eq_true h4)) Ya_tS22 rfl rfl rfl ?_
          refine o_makeFunc [(AV.ref 2 (0))] (Gd.yes rfl rfl (decide_eq_true h4)) rfl ?_
          refine o_callV [(2, (AO.var 24 [(AV.lit (.int .i64 (m.regs))), (AV.sl 4 (gcells cI (m.code)))]))] [(AV.sl 4 (gcells cI (m.code))), (AV.clo 33 [(AV.ip [(AV.lit (.int .i64 (m.regs))), (AV.sl 4 (gcells cI (m.code)))])])] (.bool (decide (∃ x ∈ (m.code), (fun x => ¬ insP m x) x))) (Gd.yes rfl rfl (decide_eq_true h4)) Ya_tC32 rfl (And.intro rfl (And.intro rfl (trivial))) rfl (by rfl) (c_hasIns m (by omega)) ?_
          refine o_notP (q := ∃ x ∈ (m.code), (fun x => ¬ insP m x) x) (Gd.yes rfl rfl (decide_eq_true h4)) rfl ?_
          refine o_pickT (bp (¬ (∃ x ∈ (m.code), (fun x => ¬ insP m x) x))) Gd.none rfl (decide_eq_true h4) rfl ?_
          refine o_as (bp (¬ (∃ x ∈ (m.code), (fun x => ¬ insP m x) x))) rfl ?_
          refine aops_end ?_
          refine hK1 _ ?_
          refine awp_ret ?_
          refine post_ret ⟨[(bp (¬ (∃ x ∈ (m.code), (fun x => ¬ insP m x) x)))], And.intro (AV.le_refl _) (trivial), rfl, ?_⟩
          first | exact bpn (fun o => by obtain ⟨o1, o2, o3, o4, o5⟩ := o; omega) | exact bpc ⟨fun o => (by rintro ⟨x, hx, hn⟩; exact hn (o.2.2.2.2 x hx)), fun o => ⟨by omega, by omega, by omega, by omega, fun x hx => Decidable.not_not.1 fun hn => o ⟨x, hx, hn⟩⟩⟩
        · refine o_skip rfl rfl (decide_eq_false h4) ?_
          refine o_skip rfl rfl (decide_eq_false h4) ?_
          refine o_skip rfl rfl (decide_eq_false h4) ?_
          refine o_skip rfl rfl (decide_eq_false h4) ?_
          refine o_skip rfl rfl (decide_eq_false h4) ?_
          refine o_pickF (AV.lit (.bool false)) Gd.none rfl (decide_eq_false h4) rfl ?_
          refine o_as (AV.lit (.bool false)) rfl ?_
          refine aops_end ?_
          refine hK1 _ ?_
          refine awp_ret ?_
          refine post_ret ⟨[(AV.lit (.bool false))], And.intro (AV.le_refl _) (trivial), rfl, ?_⟩
          first | exact bpn (fun o => by obtain ⟨o1, o2, o3, o4, o5⟩ := o; omega) | exact bpc ⟨fun o => (by rintro ⟨x, hx, hn⟩; exact hn (o.2.2.2.2 x hx)), fun o => ⟨by omega, by omega, by omega, by omega, fun x hx => Decidable.not_not.1 fun hn => o ⟨x, hx, hn⟩⟩⟩
      · refine o_skip rfl rfl (decide_eq_false h3) ?_
        refine o_skip rfl rfl (decide_eq_false h3) ?_
        refine o_skip rfl rfl (decide_eq_false h3) ?_
        refine o_skip rfl rfl (decide_eq_false h3) ?_
        refine o_pickF (AV.lit (.bool false)) Gd.none rfl (decide_eq_false h3) rfl ?_
        refine o_mv (AV.lit (.bool false)) rfl ?_
        refine o_skip rfl rfl rfl ?_
        refine o_skip rfl rfl rfl ?_
        refine o_skip rfl rfl rfl ?_
        refine o_skip rfl rfl rfl ?_
        refine o_skip rfl rfl rfl ?_
        refine o_pickF (AV.lit (.bool false)) Gd.none rfl rfl rfl ?_
        refine o_as (AV.lit (.bool false)) rfl ?_
        refine aops_end ?_
        refine hK1 _ ?_
        refine awp_ret ?_
        refine post_ret ⟨[(AV.lit (.bool false))], And.intro (AV.le_refl _) (trivial), rfl, ?_⟩
        first | exact bpn (fun o => by obtain ⟨o1, o2, o3, o4, o5⟩ := o; omega) | exact bpc ⟨fun o => (by rintro ⟨x, hx, hn⟩; exact hn (o.2.2.2.2 x hx)), fun o => ⟨by omega, by omega, by omega, by omega, fun x hx => Decidable.not_not.1 fun hn => o ⟨x, hx, hn⟩⟩⟩
    · refine o_skip rfl rfl (decide_eq_false h2) ?_
      refine o_skip rfl rfl (decide_eq_false h2) ?_
      refine o_skip rfl rfl (decide_eq_false h2) ?_
      refine o_skip rfl rfl (decide_eq_false h2) ?_
      refine o_pickF (AV.lit (.bool false)) Gd.none rfl (decide_eq_false h2) rfl ?_
      refine o_mv (AV.lit (.bool false)) rfl ?_
      refine o_skip rfl rfl rfl ?_
      refine o_skip rfl rfl rfl ?_
      refine o_skip rfl rfl rfl ?_
      refine o_skip rfl rfl rfl ?_
      refine o_pickF (AV.lit (.bool false)) Gd.none rfl rfl rfl ?_
      refine o_mv (AV.lit (.bool false)) rfl ?_
      refine o_skip rfl rfl rfl ?_
      refine o_skip rfl rfl rfl ?_
      refine o_skip rfl rfl rfl ?_
      refine o_skip rfl rfl rfl ?_
      refine o_skip rfl rfl rfl ?_
      refine o_pickF (AV.lit (.bool false)) Gd.none rfl rfl rfl ?_
      refine o_as (AV.lit (.bool false)) rfl ?_
      refine aops_end ?_
      refine hK1 _ ?_
      refine awp_ret ?_
      refine post_ret ⟨[(AV.lit (.bool false))], And.intro (AV.le_refl _) (trivial), rfl, ?_⟩
      first | exact bpn (fun o => by obtain ⟨o1, o2, o3, o4, o5⟩ := o; omega) | exact bpc ⟨fun o => (by rintro ⟨x, hx, hn⟩; exact hn (o.2.2.2.2 x hx)), fun o => ⟨by omega, by omega, by omega, by omega, fun x hx => Decidable.not_not.1 fun hn => o ⟨x, hx, hn⟩⟩⟩
  · refine o_skip rfl rfl (decide_eq_false h1) ?_
    refine o_skip rfl rfl (decide_eq_false h1) ?_
    refine o_skip rfl rfl (decide_eq_false h1) ?_
    refine o_pickF (AV.lit (.bool false)) Gd.none rfl (decide_eq_false h1) rfl ?_
    refine o_mv (AV.lit (.bool false)) rfl ?_
    refine o_skip rfl rfl rfl ?_
    refine o_skip rfl rfl rfl ?_
    refine o_skip rfl rfl rfl ?_
    refine o_skip rfl rfl rfl ?_
    refine o_pickF (AV.lit (.bool false)) Gd.none rfl rfl rfl ?_
    refine o_mv (AV.lit (.bool false)) rfl ?_
    refine o_skip rfl rfl rfl ?_
    refine o_skip rfl rfl rfl ?_
    refine o_skip rfl rfl rfl ?_
    refine o_skip rfl rfl rfl ?_
    refine o_pickF (AV.lit (.bool false)) Gd.none rfl rfl rfl ?_
    refine o_mv (AV.lit (.bool false)) rfl ?_
    refine o_skip rfl rfl rfl ?_
    refine o_skip rfl rfl rfl ?_
    refine o_skip rfl rfl rfl ?_
    refine o_skip rfl rfl rfl ?_
    refine o_skip rfl rfl rfl ?_
    refine o_pickF (AV.lit (.bool false)) Gd.none rfl rfl rfl ?_
    refine o_as (AV.lit (.bool false)) rfl ?_
    refine aops_end ?_
    refine hK1 _ ?_
    refine awp_ret ?_
    refine post_ret ⟨[(AV.lit (.bool false))], And.intro (AV.le_refl _) (trivial), rfl, ?_⟩
    first | exact bpn (fun o => by obtain ⟨o1, o2, o3, o4, o5⟩ := o; omega) | exact bpc ⟨fun o => (by rintro ⟨x, hx, hn⟩; exact hn (o.2.2.2.2 x hx)), fun o => ⟨by omega, by omega, by omega, by omega, fun x hx => Decidable.not_not.1 fun hn => o ⟨x, hx, hn⟩⟩⟩

theorem c_Fits1 (n : Int) : ECalls cx 38 [(AV.lit (.int .i64 (n)))] (bp (¬ regP n)) := by
  refine ecalls_of_awp Tryd.func38 (c := _) rfl (Nat.le_of_ble_eq_true rfl) ?_
  show awp cx 9 _ (postF cx Tryd.f38 _) ⟨[(0, (AV.lit (.int .i64 (n))))], []⟩
  refine awp_seq fun K0 hK0 => ?_
  refine awp_region rfl ?_
  refine o_as (AV.lit (.bool false)) rfl ?_
  refine aops_end ?_
  refine hK0 _ ?_
  refine awp_seq fun K1 hK1 => ?_
  refine awp_region rfl ?_
  refine o_mv (AV.lit (.int .i64 (n))) rfl ?_
  refine o_lss (a := (n)) (c := (((0 : Nat) : Int))) Gd.none rfl rfl ?_
  refine o_mv (bp ((n) < (((0 : Nat) : Int)))) rfl ?_
  refine o_splitP (q := (n) < (((0 : Nat) : Int))) 5 rfl (fun h1 => ?_) (fun h1 => ?_)
  · refine o_skip rfl rfl (decide_eq_true h1) ?_
    refine o_skip rfl rfl (decide_eq_true h1) ?_
    refine o_pickT (AV.lit (.bool true)) Gd.none rfl (decide_eq_true h1) rfl ?_
    refine o_as (AV.lit (.bool true)) rfl ?_
    refine aops_end ?_
    refine hK1 _ ?_
    refine awp_ret ?_
    refine post_ret ⟨[(AV.lit (.bool true))], And.intro (AV.le_refl _) (trivial), rfl, ?_⟩
    first | rfl | exact bpc (by simp only [insP, plc, regP] at *; omega) | exact bpn (by simp only [insP, plc, regP] at *; omega) | exact bpy (by simp only [insP, plc, regP] at *; omega)
  · refine o_move (AV.lit (.int .i64 (n))) (Gd.yes rfl rfl (decide_eq_false h1)) rfl ?_
    refine o_gtr (a := (n)) (c := (((1000 : Nat) : Int))) (Gd.yes rfl rfl (decide_eq_false h1)) rfl rfl ?_
    refine o_pickF (bp ((((1000 : Nat) : Int)) < (n))) Gd.none rfl (decide_eq_false h1) rfl ?_
    refine o_as (bp ((((1000 : Nat) : Int)) < (n))) rfl ?_
    refine aops_end ?_
    refine hK1 _ ?_
    refine awp_ret ?_
    refine post_ret ⟨[(bp ((((1000 : Nat) : Int)) < (n)))], And.intro (AV.le_refl _) (trivial), rfl, ?_⟩
    first | rfl | exact bpc (by simp only [insP, plc, regP] at *; omega) | exact bpn (by simp only [insP, plc, regP] at *; omega) | exact bpy (by simp only [insP, plc, regP] at *; omega)

theorem c_ixReg (l : List Int) (hl : l.length ≤ 4) : ECalls cx 52 [(AV.sl 1 (is .i64 (l))), (AV.clo 38 [])] (.lit (.int .i64 (ixP (fun n => ¬ regP n) l))) := by
  refine ecalls_of_awp Tryd.func52 (c := _) rfl (Nat.le_of_ble_eq_true rfl) ?_
  show awp cx 19 _ (postF cx Tryd.f52 _) ⟨[(0, (AV.sl 1 (is .i64 (l)))), (1, (AV.clo 38 []))], []⟩
  refine awp_seq fun K0 hK0 => ?_
  refine awp_region rfl ?_
  refine o_as (nm .i64 (0)) rfl ?_
  refine aops_end ?_
  refine hK0 _ ?_
  refine awp_seq fun K1 hK1 => ?_
  refine awp_seq fun K2 hK2 => ?_
  refine awp_region rfl ?_
  refine o_mv (AV.sl 1 (is .i64 (l))) rfl ?_
  refine i_len (l) Gd.none Ya_tU25 rfl ?_
  refine o_mv (nm .i64 (0)) rfl ?_
  refine aops_end ?_
  refine hK2 _ ?_
  refine awp_block ?_
  refine awp_loopR (fun κ σ => ∃ (i : Nat), (i ≤ l.length) ∧ (∀ k, k < i → ¬ ((fun n => ¬ regP n) ((l).getD k 0))) ∧ (l.length - i) = κ ∧ σ = ⟨[(0, (AV.sl 1 (is .i64 (l)))), (1, (AV.clo 38 [])), (7, (nm .i64 (l.length))), (8, (nm .i64 (i)))], []⟩) ⟨_, _, ⟨0, (by omega), (fun k hk => by omega), rfl, rfl⟩, ?wk0⟩ ?rd0
  case wk0 =>
    exact Wk.sub (And.intro rfl (And.intro rfl (And.intro (by first | rfl | exact congrArg (nm _) (by omega) | exact nm_int (by omega) | exact nm_int (by simp [IntKind.wrap, IntKind.bits, IntKind.signed]; omega)) (And.intro (by first | rfl | exact congrArg (nm _) (by omega) | exact nm_int (by omega) | exact nm_int (by simp [IntKind.wrap, IntKind.bits, IntKind.signed]; omega)) (trivial))))) (trivial)
  rintro κ _ ⟨i, hi, hb, rfl, rfl⟩
  refine awp_seq fun K3 hK3 => ?_
  refine awp_region rfl ?_
  refine n_lss (i) (l.length) Gd.none rfl rfl ?_
  refine aops_end ?_
  refine hK3 _ ?_
  refine awp_seq fun K4 hK4 => ?_
  refine awp_condQ (q := (i) < (l.length)) rfl (fun h1 => ?_) (fun h1 => ?_)
  · refine awp_skip ?_
    refine hK4 _ ?_
    refine awp_seq fun K5 hK5 => ?_
    refine awp_block ?_
    refine awp_seq fun K6 hK6 => ?_
    refine awp_region rfl ?_
    refine o_mv (nm .i64 (i)) rfl ?_
    refine o_as (nm .i64 (i)) rfl ?_
    refine aops_end ?_
    refine hK6 _ ?_
    refine awp_seq fun K7 hK7 => ?_
    refine awp_region rfl ?_
    refine o_mv (AV.clo 38 []) rfl ?_
    refine o_mv (AV.sl 1 (is .i64 (l))) rfl ?_
    refine o_mv (nm .i64 (i)) rfl ?_
    refine i_index (l) (i) Gd.none Ya_tE25 rfl rfl (by omega) ?_
    refine i_loadI (l) (i) Gd.none Ya_tS3 rfl (by omega) ?_
    refine o_callG [] [(AV.lit (.int .i64 ((l).getD (i) 0)))] _ (bp (¬ (regP ((l).getD (i) 0)))) [] Gd.none Ya_tC38 rfl (trivial) rfl rfl (LeL.cons (AV.le_refl _) (LeL.nil)) (c_Fits1 ((l).getD (i) 0)) rfl ?_
    refine aops_end ?_
    refine hK7 _ ?_
    refine awp_condQ (q := ¬ (regP ((l).getD (i) 0))) rfl (fun h2 => ?_) (fun h2 => ?_)
    · refine awp_seq fun K8 hK8 => ?_
      refine awp_region rfl ?_
      refine o_mv (nm .i64 (i)) rfl ?_
      refine o_as (nm .i64 (i)) rfl ?_
      refine aops_end ?_
      refine hK8 _ ?_
      refine awp_ret ?_
      refine post_ret ⟨[(nm .i64 (i))], And.intro (AV.le_refl _) (trivial), rfl, ?_⟩
      exact congrArg (fun z => AV.lit (.int .i64 z)) (ixP_hit (d := 0) (by omega) (by assumption) hb)
    · refine awp_skip ?_
      refine hK5 _ ?_
      refine awp_region rfl ?_
      refine n_add (i) (1) Gd.none rfl rfl (by simp only [topOf]; omega) ?_
      refine o_mv (nm .i64 ((i) + (1))) rfl ?_
      refine aops_end ?_
      refine ⟨_, _, ?lt, ⟨i + 1, (by omega), (fun k hk => by rcases Nat.lt_or_ge k i with e | e; exact hb k e; rw [show k = i by omega]; assumption), rfl, rfl⟩, ?wk⟩
      case lt => omega
      case wk => exact Wk.sub (And.intro rfl (And.intro rfl (And.intro rfl (And.intro (by first | rfl | exact congrArg (nm _) (by omega) | exact nm_int (by omega) | exact nm_int (by simp [IntKind.wrap, IntKind.bits, IntKind.signed]; omega)) (trivial))))) (trivial)
  · refine awp_exit ?_
    refine hK1 _ ?_
    refine awp_seq fun K9 hK9 => ?_
    refine awp_region rfl ?_
    refine o_as (AV.lit (.int .i64 ((-1)))) rfl ?_
    refine aops_end ?_
    refine hK9 _ ?_
    refine awp_ret ?_
    refine post_ret ⟨[(AV.lit (.int .i64 ((-1))))], And.intro (AV.le_refl _) (trivial), rfl, ?_⟩
    exact congrArg (fun z => AV.lit (.int .i64 z)) (ixP_none (d := 0) (by omega) hb)

theorem c_hasReg (l : List Int) (hl : l.length ≤ 4) : ECalls cx 35 [(AV.sl 1 (is .i64 (l))), (AV.clo 38 [])] (bp (∃ x ∈ l, (fun n => ¬ regP n) x)) := by
  refine ecalls_of_awp Tryd.func35 (c := _) rfl (Nat.le_of_ble_eq_true rfl) ?_
  show awp cx 9 _ (postF cx Tryd.f35 _) ⟨[(0, (AV.sl 1 (is .i64 (l)))), (1, (AV.clo 38 []))], []⟩
  refine awp_seq fun K0 hK0 => ?_
  refine awp_region rfl ?_
  refine o_as (AV.lit (.bool false)) rfl ?_
  refine aops_end ?_
  refine hK0 _ ?_
  refine awp_seq fun K1 hK1 => ?_
  refine awp_region rfl ?_
  refine o_mv (AV.sl 1 (is .i64 (l))) rfl ?_
  refine o_mv (AV.clo 38 []) rfl ?_
  refine o_ct (c_ixReg (l) (by omega)) Gd.none Ya_tC52 rfl ?_
  refine o_geq (a := (ixP (fun n => ¬ regP n) (l))) (c := (((0 : Nat) : Int))) Gd.none rfl rfl ?_
  refine o_as (bp ((((0 : Nat) : Int)) ≤ (ixP (fun n => ¬ regP n) (l)))) rfl ?_
  refine aops_end ?_
  refine hK1 _ ?_
  refine awp_ret ?_
  refine post_ret ⟨[(bp ((((0 : Nat) : Int)) ≤ (ixP (fun n => ¬ regP n) (l))))], And.intro (AV.le_refl _) (trivial), rfl, ?_⟩
  exact bpc (ixP_nn (p := fun n => ¬ regP n))

theorem c_fFits (m : Mac) (c : Cfg) : ECalls cx 22 [(macV m), (cfgV c)] (bp (okCfg m c)) := by
  refine ecalls_of_awp Tryd.func22 (c := _) rfl (Nat.le_of_ble_eq_true rfl) ?_
  show awp cx 27 _ (postF cx Tryd.f22 _) ⟨[(0, (macV m)), (1, (cfgV c))], []⟩
  refine awp_seq fun K0 hK0 => ?_
  refine awp_region rfl ?_
  refine o_box 2 [(AV.lit (.int .i64 (m.regs))), (AV.sl 4 (gcells cI (m.code)))] Gd.none rfl rfl ?_
  refine o_box 3 [(AV.lit (.int .i64 (c.at'))), (AV.sl 1 (is .i64 (c.regs)))] Gd.none rfl rfl ?_
  refine o_as (AV.lit (.bool false)) rfl ?_
  refine aops_end ?_
  refine hK0 _ ?_
  refine awp_seq fun K1 hK1 => ?_
  refine awp_region rfl ?_
  refine o_loadA [(AV.lit (.int .i64 (m.regs))), (AV.sl 4 (gcells cI (m.code)))] Gd.none Ya_tA24 rfl rfl rfl rfl rfl ?_
  refine o_ct (c_fValid m) Gd.none Ya_tC17 rfl ?_
  refine o_mv (bp (okMac m)) rfl ?_
  refine o_splitP (q := okMac m) 7 rfl (fun h1 => ?_) (fun h1 => ?_)
  · have hoM := h1
    obtain ⟨o1, o2, o3, o4, o5⟩ := hoM
    refine o_loadA [(AV.lit (.int .i64 (m.regs))), (AV.sl 4 (gcells cI (m.code)))] (Gd.yes rfl rfl (decide_eq_true h1)) Ya_tA24 rfl rfl rfl rfl rfl ?_
    refine o_fieldRef 0 (Gd.yes rfl rfl (decide_eq_true h1)) Ya_tF27_0 rfl rfl ?_
    refine o_loadS (AV.lit (.int .i64 (c.at'))) (Gd.yes rfl rfl (decide_eq_true h1)) Ya_tS3 rfl rfl rfl ?_
    refine o_ct (c_place m (c.at')) (Gd.yes rfl rfl (decide_eq_true h1)) Ya_tC37 rfl ?_
    refine o_pickT (bp (plc m (c.at'))) Gd.none rfl (decide_eq_true h1) rfl ?_
    refine o_mv (bp (plc m (c.at'))) rfl ?_
    refine o_splitP (q := plc m (c.at')) 13 rfl (fun h2 => ?_) (fun h2 => ?_)
    · refine o_fieldRef 1 (Gd.yes rfl rfl (decide_eq_true h2)) Ya_tF27_1 rfl rfl ?_
      refine o_loadS (AV.sl 1 (is .i64 (c.regs))) (Gd.yes rfl rfl (decide_eq_true h2)) Ya_tS25 rfl rfl rfl ?_
      refine i_len (c.regs) (Gd.yes rfl rfl (decide_eq_true h2)) Ya_tU25 rfl ?_
      refine o_fieldRef 0 (Gd.yes rfl rfl (decide_eq_true h2)) Ya_tF24_0 rfl rfl ?_
      refine o_loadS (AV.lit (.int .i64 (m.regs))) (Gd.yes rfl rfl (decide_eq_true h2)) Ya_tS3 rfl rfl rfl ?_
      refine o_eql (a := ((((c.regs).length : Nat) : Int))) (c := (m.regs)) (Gd.yes rfl rfl (decide_eq_true h2)) rfl rfl ?_
      refine o_pickT (bp (((((c.regs).length : Nat) : Int)) = (m.regs))) Gd.none rfl (decide_eq_true h2) rfl ?_
      refine o_mv (bp (((((c.regs).length : Nat) : Int)) = (m.regs))) rfl ?_
      refine o_splitP (q := ((((c.regs).length : Nat) : Int)) = (m.regs)) 21 rfl (fun h3 => ?_) (fun h3 => ?_)
      · refine o_fieldRef 1 (Gd.yes rfl rfl (decide_eq_true h3)) Ya_tF27_1 rfl rfl ?_
        refine o_loadS (AV.sl 1 (is .i64 (c.regs))) (Gd.yes rfl rfl (decide_eq_true h3)) Ya_tS25 rfl rfl rfl ?_
        refine o_ct (c_hasReg (c.regs) (by omega)) (Gd.yes rfl rfl (decide_eq_true h3)) Ya_tC35 rfl ?_
        refine o_notP (q := ∃ x ∈ (c.regs), (fun n => ¬ regP n) x) (Gd.yes rfl rfl (decide_eq_true h3)) rfl ?_
        refine o_pickT (bp (¬ (∃ x ∈ (c.regs), (fun n => ¬ regP n) x))) Gd.none rfl (decide_eq_true h3) rfl ?_
        refine o_as (bp (¬ (∃ x ∈ (c.regs), (fun n => ¬ regP n) x))) rfl ?_
        refine aops_end ?_
        refine hK1 _ ?_
        refine awp_ret ?_
        refine post_ret ⟨[(bp (¬ (∃ x ∈ (c.regs), (fun n => ¬ regP n) x)))], And.intro (AV.le_refl _) (trivial), rfl, ?_⟩
        first | exact bpn (fun o => absurd o.1 (by assumption)) | exact bpn (fun o => absurd o.2.1 (by assumption)) | exact bpn (fun o => absurd o.2.2.1 (by assumption)) | exact bpc ⟨fun o => (by rintro ⟨x, hx, hn⟩; exact hn (o.2.2.2 x hx)), fun o => ⟨h1, by assumption, by assumption, fun x hx => Decidable.not_not.1 fun hn => o ⟨x, hx, hn⟩⟩⟩
      · refine o_skip rfl rfl (decide_eq_false h3) ?_
        refine o_skip rfl rfl (decide_eq_false h3) ?_
        refine o_skip rfl rfl (decide_eq_false h3) ?_
        refine o_skip rfl rfl (decide_eq_false h3) ?_
        refine o_pickF (AV.lit (.bool false)) Gd.none rfl (decide_eq_false h3) rfl ?_
        refine o_as (AV.lit (.bool false)) rfl ?_
        refine aops_end ?_
        refine hK1 _ ?_
        refine awp_ret ?_
        refine post_ret ⟨[(AV.lit (.bool false))], And.intro (AV.le_refl _) (trivial), rfl, ?_⟩
        first | exact bpn (fun o => absurd o.1 (by assumption)) | exact bpn (fun o => absurd o.2.1 (by assumption)) | exact bpn (fun o => absurd o.2.2.1 (by assumption)) | exact bpc ⟨fun o => (by rintro ⟨x, hx, hn⟩; exact hn (o.2.2.2 x hx)), fun o => ⟨h1, by assumption, by assumption, fun x hx => Decidable.not_not.1 fun hn => o ⟨x, hx, hn⟩⟩⟩
    · refine o_skip rfl rfl (decide_eq_false h2) ?_
      refine o_skip rfl rfl (decide_eq_false h2) ?_
      refine o_skip rfl rfl (decide_eq_false h2) ?_
      refine o_skip rfl rfl (decide_eq_false h2) ?_
      refine o_skip rfl rfl (decide_eq_false h2) ?_
      refine o_skip rfl rfl (decide_eq_false h2) ?_
      refine o_pickF (AV.lit (.bool false)) Gd.none rfl (decide_eq_false h2) rfl ?_
      refine o_mv (AV.lit (.bool false)) rfl ?_
      refine o_skip rfl rfl rfl ?_
      refine o_skip rfl rfl rfl ?_
      refine o_skip rfl rfl rfl ?_
      refine o_skip rfl rfl rfl ?_
      refine o_pickF (AV.lit (.bool false)) Gd.none rfl rfl rfl ?_
      refine o_as (AV.lit (.bool false)) rfl ?_
      refine aops_end ?_
      refine hK1 _ ?_
      refine awp_ret ?_
      refine post_ret ⟨[(AV.lit (.bool false))], And.intro (AV.le_refl _) (trivial), rfl, ?_⟩
      first | exact bpn (fun o => absurd o.1 (by assumption)) | exact bpn (fun o => absurd o.2.1 (by assumption)) | exact bpn (fun o => absurd o.2.2.1 (by assumption)) | exact bpc ⟨fun o => (by rintro ⟨x, hx, hn⟩; exact hn (o.2.2.2 x hx)), fun o => ⟨h1, by assumption, by assumption, fun x hx => Decidable.not_not.1 fun hn => o ⟨x, hx, hn⟩⟩⟩
  · refine o_skip rfl rfl (decide_eq_false h1) ?_
    refine o_skip rfl rfl (decide_eq_false h1) ?_
    refine o_skip rfl rfl (decide_eq_false h1) ?_
    refine o_skip rfl rfl (decide_eq_false h1) ?_
    refine o_pickF (AV.lit (.bool false)) Gd.none rfl (decide_eq_false h1) rfl ?_
    refine o_mv (AV.lit (.bool false)) rfl ?_
    refine o_skip rfl rfl rfl ?_
    refine o_skip rfl rfl rfl ?_
    refine o_skip rfl rfl rfl ?_
    refine o_skip rfl rfl rfl ?_
    refine o_skip rfl rfl rfl ?_
    refine o_skip rfl rfl rfl ?_
    refine o_pickF (AV.lit (.bool false)) Gd.none rfl rfl rfl ?_
    refine o_mv (AV.lit (.bool false)) rfl ?_
    refine o_skip rfl rfl rfl ?_
    refine o_skip rfl rfl rfl ?_
    refine o_skip rfl rfl rfl ?_
    refine o_skip rfl rfl rfl ?_
    refine o_pickF (AV.lit (.bool false)) Gd.none rfl rfl rfl ?_
    refine o_as (AV.lit (.bool false)) rfl ?_
    refine aops_end ?_
    refine hK1 _ ?_
    refine awp_ret ?_
    refine post_ret ⟨[(AV.lit (.bool false))], And.intro (AV.le_refl _) (trivial), rfl, ?_⟩
    first | exact bpn (fun o => absurd o.1 (by assumption)) | exact bpn (fun o => absurd o.2.1 (by assumption)) | exact bpn (fun o => absurd o.2.2.1 (by assumption)) | exact bpc ⟨fun o => (by rintro ⟨x, hx, hn⟩; exact hn (o.2.2.2 x hx)), fun o => ⟨h1, by assumption, by assumption, fun x hx => Decidable.not_not.1 fun hn => o ⟨x, hx, hn⟩⟩⟩

theorem c_primes1 (n p : Nat) (hp : 0 < p) : ECalls cx 36 [(nm .i64 (p)), (AV.ip [(nm .i64 (n))])] (bp (n % p = 0)) := by
  refine ecalls_of_awp Tryd.func36 (c := _) rfl (Nat.le_of_ble_eq_true rfl) ?_
  show awp cx 8 _ (postF cx Tryd.f36 _) ⟨[(0, (nm .i64 (p))), (1, (AV.ip [(nm .i64 (n))]))], []⟩
  refine awp_seq fun K0 hK0 => ?_
  refine awp_region rfl ?_
  refine o_as (AV.lit (.bool false)) rfl ?_
  refine aops_end ?_
  refine hK0 _ ?_
  refine awp_seq fun K1 hK1 => ?_
  refine awp_region rfl ?_
  refine o_loadIS (nm .i64 (n)) Gd.none Ya_tS3 rfl rfl ?_
  refine o_mv (nm .i64 (p)) rfl ?_
  refine n_rem (n) (p) Gd.none rfl rfl (by omega) ?_
  refine n_eql ((n) % (p)) (0) Gd.none rfl rfl ?_
  refine o_as (bp (((n) % (p)) = (0))) rfl ?_
  refine aops_end ?_
  refine hK1 _ ?_
  refine awp_ret ?_
  refine post_ret ⟨[(bp (((n) % (p)) = (0)))], And.intro (AV.le_refl _) (trivial), rfl, ?_⟩
  rfl

theorem c_ixPrm (n : Nat) (l : List Nat) (hl : l.length ≤ 30) (hp : ∀ p ∈ l, 0 < p) : ECalls cx 52 [(AV.sl 1 (ns .i64 (l))), (AV.clo 36 [(AV.ip [(nm .i64 (n))])])] (.lit (.int .i64 (ixP (fun (p : Nat) => n % p = 0) l))) := by
  refine ecalls_of_awp Tryd.func52 (c := _) rfl (Nat.le_of_ble_eq_true rfl) ?_
  show awp cx 19 _ (postF cx Tryd.f52 _) ⟨[(0, (AV.sl 1 (ns .i64 (l)))), (1, (AV.clo 36 [(AV.ip [(nm .i64 (n))])]))], []⟩
  refine awp_seq fun K0 hK0 => ?_
  refine awp_region rfl ?_
  refine o_as (nm .i64 (0)) rfl ?_
  refine aops_end ?_
  refine hK0 _ ?_
  refine awp_seq fun K1 hK1 => ?_
  refine awp_seq fun K2 hK2 => ?_
  refine awp_region rfl ?_
  refine o_mv (AV.sl 1 (ns .i64 (l))) rfl ?_
  refine n_len (l) Gd.none Ya_tU25 rfl ?_
  refine o_mv (nm .i64 (0)) rfl ?_
  refine aops_end ?_
  refine hK2 _ ?_
  refine awp_block ?_
  refine awp_loopR (fun κ σ => ∃ (i : Nat), (i ≤ l.length) ∧ (∀ k, k < i → ¬ ((fun (p : Nat) => n % p = 0) ((l).getD k 0))) ∧ (l.length - i) = κ ∧ σ = ⟨[(0, (AV.sl 1 (ns .i64 (l)))), (1, (AV.clo 36 [(AV.ip [(nm .i64 (n))])])), (7, (nm .i64 (l.length))), (8, (nm .i64 (i)))], []⟩) ⟨_, _, ⟨0, (by omega), (fun k hk => by omega), rfl, rfl⟩, ?wk0⟩ ?rd0
  case wk0 =>
    exact Wk.sub (And.intro rfl (And.intro rfl (And.intro (by first | rfl | exact congrArg (nm _) (by omega) | exact nm_int (by omega) | exact nm_int (by simp [IntKind.wrap, IntKind.bits, IntKind.signed]; omega)) (And.intro (by first | rfl | exact congrArg (nm _) (by omega) | exact nm_int (by omega) | exact nm_int (by simp [IntKind.wrap, IntKind.bits, IntKind.signed]; omega)) (trivial))))) (trivial)
  rintro κ _ ⟨i, hi, hb, rfl, rfl⟩
  refine awp_seq fun K3 hK3 => ?_
  refine awp_region rfl ?_
  refine n_lss (i) (l.length) Gd.none rfl rfl ?_
  refine aops_end ?_
  refine hK3 _ ?_
  refine awp_seq fun K4 hK4 => ?_
  refine awp_condQ (q := (i) < (l.length)) rfl (fun h1 => ?_) (fun h1 => ?_)
  · refine awp_skip ?_
    refine hK4 _ ?_
    refine awp_seq fun K5 hK5 => ?_
    refine awp_block ?_
    refine awp_seq fun K6 hK6 => ?_
    refine awp_region rfl ?_
    refine o_mv (nm .i64 (i)) rfl ?_
    refine o_as (nm .i64 (i)) rfl ?_
    refine aops_end ?_
    refine hK6 _ ?_
    refine awp_seq fun K7 hK7 => ?_
    refine awp_region rfl ?_
    refine o_mv (AV.clo 36 [(AV.ip [(nm .i64 (n))])]) rfl ?_
    refine o_mv (AV.sl 1 (ns .i64 (l))) rfl ?_
    refine o_mv (nm .i64 (i)) rfl ?_
    refine n_index (l) (i) Gd.none Ya_tE25 rfl rfl (by omega) ?_
    refine n_loadI (l) (i) Gd.none Ya_tS3 rfl (by omega) ?_
    refine o_callG [] [(nm .i64 ((l).getD (i) 0)), (AV.ip [(nm .i64 (n))])] _ (bp ((n) % ((l).getD (i) 0) = 0)) [] Gd.none Ya_tC36 rfl (trivial) rfl rfl (LeL.cons (AV.le_refl _) (LeL.cons (AV.le_refl _) (LeL.nil))) (c_primes1 (n) ((l).getD (i) 0) (hp _ (gdm (by omega)))) rfl ?_
    refine aops_end ?_
    refine hK7 _ ?_
    refine awp_condQ (q := (n) % ((l).getD (i) 0) = 0) rfl (fun h2 => ?_) (fun h2 => ?_)
    · refine awp_seq fun K8 hK8 => ?_
      refine awp_region rfl ?_
      refine o_mv (nm .i64 (i)) rfl ?_
      refine o_as (nm .i64 (i)) rfl ?_
      refine aops_end ?_
      refine hK8 _ ?_
      refine awp_ret ?_
      refine post_ret ⟨[(nm .i64 (i))], And.intro (AV.le_refl _) (trivial), rfl, ?_⟩
      exact congrArg (fun z => AV.lit (.int .i64 z)) (ixP_hit (d := 0) (by omega) (by assumption) hb)
    · refine awp_skip ?_
      refine hK5 _ ?_
      refine awp_region rfl ?_
      refine n_add (i) (1) Gd.none rfl rfl (by simp only [topOf]; omega) ?_
      refine o_mv (nm .i64 ((i) + (1))) rfl ?_
      refine aops_end ?_
      refine ⟨_, _, ?lt, ⟨i + 1, (by omega), (fun k hk => by rcases Nat.lt_or_ge k i with e | e; exact hb k e; rw [show k = i by omega]; assumption), rfl, rfl⟩, ?wk⟩
      case lt => omega
      case wk => exact Wk.sub (And.intro rfl (And.intro rfl (And.intro rfl (And.intro (by first | rfl | exact congrArg (nm _) (by omega) | exact nm_int (by omega) | exact nm_int (by simp [IntKind.wrap, IntKind.bits, IntKind.signed]; omega)) (trivial))))) (trivial)
  · refine awp_exit ?_
    refine hK1 _ ?_
    refine awp_seq fun K9 hK9 => ?_
    refine awp_region rfl ?_
    refine o_as (AV.lit (.int .i64 ((-1)))) rfl ?_
    refine aops_end ?_
    refine hK9 _ ?_
    refine awp_ret ?_
    refine post_ret ⟨[(AV.lit (.int .i64 ((-1))))], And.intro (AV.le_refl _) (trivial), rfl, ?_⟩
    exact congrArg (fun z => AV.lit (.int .i64 z)) (ixP_none (d := 0) (by omega) hb)

theorem c_hasPrm (n : Nat) (l : List Nat) (hl : l.length ≤ 30) (hp : ∀ p ∈ l, 0 < p) : ECalls cx 35 [(AV.sl 1 (ns .i64 (l))), (AV.clo 36 [(AV.ip [(nm .i64 (n))])])] (bp (∃ x ∈ l, (fun (p : Nat) => n % p = 0) x)) := by
  refine ecalls_of_awp Tryd.func35 (c := _) rfl (Nat.le_of_ble_eq_true rfl) ?_
  show awp cx 9 _ (postF cx Tryd.f35 _) ⟨[(0, (AV.sl 1 (ns .i64 (l)))), (1, (AV.clo 36 [(AV.ip [(nm .i64 (n))])]))], []⟩
  refine awp_seq fun K0 hK0 => ?_
  refine awp_region rfl ?_
  refine o_as (AV.lit (.bool false)) rfl ?_
  refine aops_end ?_
  refine hK0 _ ?_
  refine awp_seq fun K1 hK1 => ?_
  refine awp_region rfl ?_
  refine o_mv (AV.sl 1 (ns .i64 (l))) rfl ?_
  refine o_mv (AV.clo 36 [(AV.ip [(nm .i64 (n))])]) rfl ?_
  refine o_ct (c_ixPrm (n) (l) (by first | omega | assumption) (by assumption)) Gd.none Ya_tC52 rfl ?_
  refine o_geq (a := (ixP (fun (p : Nat) => (n) % p = 0) (l))) (c := (((0 : Nat) : Int))) Gd.none rfl rfl ?_
  refine o_as (bp ((((0 : Nat) : Int)) ≤ (ixP (fun (p : Nat) => (n) % p = 0) (l)))) rfl ?_
  refine aops_end ?_
  refine hK1 _ ?_
  refine awp_ret ?_
  refine post_ret ⟨[(bp ((((0 : Nat) : Int)) ≤ (ixP (fun (p : Nat) => (n) % p = 0) (l))))], And.intro (AV.le_refl _) (trivial), rfl, ?_⟩
  exact bpc (ixP_nn (p := fun (p : Nat) => n % p = 0))

end Go.Proofs.YtpamhblonmpniaaDoor

set_option linter.unusedVariables false
set_option linter.unusedSimpArgs false
namespace Go.Mth
open Go.Ab
theorem txt_nil : txt 0 = ⟨#[48]⟩ := by
  simp [txt, txtL]
  rfl
theorem fit_tiny {z : Int} (h : z.natAbs < 100) : Fit z := fit_of_pow (k := 2) h (by decide) (by decide)
theorem ok_of_txt {a : ByteArray} {z : Int} (h : txt z = a) (hz : z.natAbs < 100) : okS a = true ∧ numS a = z := by
  subst h
  exact ⟨okS_iff.2 (okS_txt (fit_tiny hz)), numS_txt z⟩
noncomputable def sumS (a b : ByteArray) : ByteArray := if okS a && okS b then toldS (numS a + numS b) else { data := #[] }
noncomputable def proS (a b : ByteArray) : ByteArray := if okS a && okS b then toldS (numS a * numS b) else { data := #[] }
def alikeS (a b : ByteArray) : Prop := a = { data := #[] } ∨ b = { data := #[] } ∨ a = b
noncomputable instance (a b : ByteArray) : Decidable (alikeS a b) := Classical.propDecidable _
def divsS (d n : ByteArray) : Prop := divE n d = 0 ∧ divR n d = ⟨#[48]⟩
noncomputable instance (d n : ByteArray) : Decidable (divsS d n) := Classical.propDecidable _
theorem told_sz (z : Int) : (toldS z).size ≤ 9223372036854775807 := by
  unfold toldS
  split
  · rename_i h
    rw [txt_len]
    have : (txtL z).length ≤ 2001 := by
      unfold txtL
      have hn := h
      unfold Fit ndig at hn
      split
      · simp
      · rename_i h0
        rw [if_neg (by omega)] at hn
        split <;> simp <;> omega
    omega
  · decide
end Go.Mth

set_option linter.unusedVariables false
set_option linter.unusedSimpArgs false
namespace Go.Proofs.YtpamhblonmpniaaDoor
open Go Go.Ab Go.Mth
theorem Yb_tO53 : tyZero cx.P 53 = some [(Go.Value.int IntKind.i64 0), (Go.Value.int IntKind.i64 0), (Go.Value.int IntKind.i64 0), (Go.Value.int IntKind.i64 0), (Go.Value.int IntKind.i64 0), (Go.Value.int IntKind.i64 0), (Go.Value.int IntKind.i64 0), (Go.Value.int IntKind.i64 0), (Go.Value.int IntKind.i64 0), (Go.Value.int IntKind.i64 0), (Go.Value.int IntKind.i64 0), (Go.Value.int IntKind.i64 0), (Go.Value.int IntKind.i64 0), (Go.Value.int IntKind.i64 0), (Go.Value.int IntKind.i64 0), (Go.Value.int IntKind.i64 0), (Go.Value.int IntKind.i64 0), (Go.Value.int IntKind.i64 0), (Go.Value.int IntKind.i64 0), (Go.Value.int IntKind.i64 0), (Go.Value.int IntKind.i64 0), (Go.Value.int IntKind.i64 0), (Go.Value.int IntKind.i64 0), (Go.Value.int IntKind.i64 0), (Go.Value.int IntKind.i64 0), (Go.Value.int IntKind.i64 0), (Go.Value.int IntKind.i64 0), (Go.Value.int IntKind.i64 0), (Go.Value.int IntKind.i64 0), (Go.Value.int IntKind.i64 0)] := by kernel_rfl
theorem Yb_tO3 : tyZero cx.P 3 = some [(Go.Value.int IntKind.i64 0)] := by kernel_rfl
theorem Yb_tZ3 : tySize cx.P 3 = some 1 := by kernel_rfl
theorem Yb_tS3 : tySc cx.P 3 = true := by kernel_rfl
theorem Yb_tR53 : tyArr cx.P 53 = some (30, 3, 1) := by kernel_rfl
theorem Yb_tC35 : callable cx.P 35 = true := by kernel_rfl
theorem Yb_tA53 : tyAgg cx.P 53 = some 30 := by kernel_rfl
theorem Yb_tZ53 : tySize cx.P 53 = some 30 := by kernel_rfl
theorem Yb_tC18 : callable cx.P 18 = true := by kernel_rfl
theorem Yb_tF24_0 : tyField cx.P 24 0 = some (0, 3) := by kernel_rfl
theorem Yb_tO50 : tyZero cx.P 50 = some [(Go.Value.string {data := #[]}), (Go.Value.string {data := #[]})] := by kernel_rfl
theorem Yb_tC23 : callable cx.P 23 = true := by kernel_rfl
theorem Yb_tP50 : tyPlaces cx.P 50 = some (fun i => (#[(0, 1), (1, 1)] : Array (Nat × Nat))[i]?) := by kernel_rfl
theorem Yb_tZ50 : tySize cx.P 50 = some 2 := by kernel_rfl
theorem Yb_tA50 : tyAgg cx.P 50 = some 2 := by kernel_rfl
theorem c_primes  : ECalls cx 18 [] (AV.agg (ns .i64 P30)) := by
  refine ecalls_of_awp Tryd.func18 (c := _) rfl (Nat.le_of_ble_eq_true rfl) ?_
  show awp cx 20 _ (postF cx Tryd.f18 _) ⟨[], []⟩
  refine awp_seq fun K0 hK0 => ?_
  refine awp_region rfl ?_
  refine o_alloc 2 [(nm .i64 (0)), (nm .i64 (0)), (nm .i64 (0)), (nm .i64 (0)), (nm .i64 (0)), (nm .i64 (0)), (nm .i64 (0)), (nm .i64 (0)), (nm .i64 (0)), (nm .i64 (0)), (nm .i64 (0)), (nm .i64 (0)), (nm .i64 (0)), (nm .i64 (0)), (nm .i64 (0)), (nm .i64 (0)), (nm .i64 (0)), (nm .i64 (0)), (nm .i64 (0)), (nm .i64 (0)), (nm .i64 (0)), (nm .i64 (0)), (nm .i64 (0)), (nm .i64 (0)), (nm .i64 (0)), (nm .i64 (0)), (nm .i64 (0)), (nm .i64 (0)), (nm .i64 (0)), (nm .i64 (0))] Gd.none Yb_tO53 rfl rfl rfl ?_
  refine aops_end ?_
  refine hK0 _ ?_
  refine awp_seq fun K1 hK1 => ?_
  refine awp_region rfl ?_
  refine o_alloc 3 [(nm .i64 (0)), (nm .i64 (0)), (nm .i64 (0)), (nm .i64 (0)), (nm .i64 (0)), (nm .i64 (0)), (nm .i64 (0)), (nm .i64 (0)), (nm .i64 (0)), (nm .i64 (0)), (nm .i64 (0)), (nm .i64 (0)), (nm .i64 (0)), (nm .i64 (0)), (nm .i64 (0)), (nm .i64 (0)), (nm .i64 (0)), (nm .i64 (0)), (nm .i64 (0)), (nm .i64 (0)), (nm .i64 (0)), (nm .i64 (0)), (nm .i64 (0)), (nm .i64 (0)), (nm .i64 (0)), (nm .i64 (0)), (nm .i64 (0)), (nm .i64 (0)), (nm .i64 (0)), (nm .i64 (0))] Gd.none Yb_tO53 rfl rfl rfl ?_
  refine aops_end ?_
  refine hK1 _ ?_
  refine awp_seq fun K2 hK2 => ?_
  refine awp_region rfl ?_
  refine o_alloc 4 [(nm .i64 (0))] Gd.none Yb_tO3 rfl rfl rfl ?_
  refine o_store [(4, (AO.var 3 [(nm .i64 (1))])), (3, (AO.var 53 [(nm .i64 (0)), (nm .i64 (0)), (nm .i64 (0)), (nm .i64 (0)), (nm .i64 (0)), (nm .i64 (0)), (nm .i64 (0)), (nm .i64 (0)), (nm .i64 (0)), (nm .i64 (0)), (nm .i64 (0)), (nm .i64 (0)), (nm .i64 (0)), (nm .i64 (0)), (nm .i64 (0)), (nm .i64 (0)), (nm .i64 (0)), (nm .i64 (0)), (nm .i64 (0)), (nm .i64 (0)), (nm .i64 (0)), (nm .i64 (0)), (nm .i64 (0)), (nm .i64 (0)), (nm .i64 (0)), (nm .i64 (0)), (nm .i64 (0)), (nm .i64 (0)), (nm .i64 (0)), (nm .i64 (0))])), (2, (AO.var 53 [(nm .i64 (0)), (nm .i64 (0)), (nm .i64 (0)), (nm .i64 (0)), (nm .i64 (0)), (nm .i64 (0)), (nm .i64 (0)), (nm .i64 (0)), (nm .i64 (0)), (nm .i64 (0)), (nm .i64 (0)), (nm .i64 (0)), (nm .i64 (0)), (nm .i64 (0)), (nm .i64 (0)), (nm .i64 (0)), (nm .i64 (0)), (nm .i64 (0)), (nm .i64 (0)), (nm .i64 (0)), (nm .i64 (0)), (nm .i64 (0)), (nm .i64 (0)), (nm .i64 (0)), (nm .i64 (0)), (nm .i64 (0)), (nm .i64 (0)), (nm .i64 (0)), (nm .i64 (0)), (nm .i64 (0))]))] Gd.none Yb_tZ3 rfl rfl rfl rfl rfl rfl ?_
  refine aops_end ?_
  refine hK2 _ ?_
  refine awp_seq fun K3 hK3 => ?_
  refine awp_seq fun K4 hK4 => ?_
  refine awp_region rfl ?_
  refine o_mv (nm .i64 (0)) rfl ?_
  refine aops_end ?_
  refine hK4 _ ?_
  refine awp_block ?_
  refine awp_loopR (fun κ σ => ∃ (i : Nat), (i ≤ 30) ∧ (30 - i) = κ ∧ σ = ⟨[(0, (AV.ref 2 (0))), (1, (AV.ref 3 (0))), (2, (AV.ref 4 (0))), (4, (nm .i64 (i)))], [(2, (AO.var 53 [(nm .i64 (0)), (nm .i64 (0)), (nm .i64 (0)), (nm .i64 (0)), (nm .i64 (0)), (nm .i64 (0)), (nm .i64 (0)), (nm .i64 (0)), (nm .i64 (0)), (nm .i64 (0)), (nm .i64 (0)), (nm .i64 (0)), (nm .i64 (0)), (nm .i64 (0)), (nm .i64 (0)), (nm .i64 (0)), (nm .i64 (0)), (nm .i64 (0)), (nm .i64 (0)), (nm .i64 (0)), (nm .i64 (0)), (nm .i64 (0)), (nm .i64 (0)), (nm .i64 (0)), (nm .i64 (0)), (nm .i64 (0)), (nm .i64 (0)), (nm .i64 (0)), (nm .i64 (0)), (nm .i64 (0))])), (3, (AO.var 53 (ns .i64 (arr i)))), (4, (AO.var 3 [(nm .i64 (prv i))]))]⟩) ⟨_, _, ⟨0, (by omega), rfl, rfl⟩, ?wk0⟩ ?rd0
  case wk0 =>
    exact Wk.sub (And.intro rfl (And.intro rfl (And.intro rfl (And.intro (by first | rfl | exact congrArg (nm _) (by omega) | exact nm_int (by omega) | exact nm_int (by simp [IntKind.wrap, IntKind.bits, IntKind.signed]; omega)) (trivial))))) (And.intro (by first | rfl | (first | (show some (AO.var _ (ns .i64 ((arr i).set i n))) = some (AO.var _ (ns .i64 (arr (i + 1)))); rw [hnE, arr_set i (by omega)]) | (rw [hnE]; rfl))) (And.intro (by first | rfl | (first | (show some (AO.var _ (ns .i64 ((arr i).set i n))) = some (AO.var _ (ns .i64 (arr (i + 1)))); rw [hnE, arr_set i (by omega)]) | (rw [hnE]; rfl))) (And.intro (by first | rfl | (first | (show some (AO.var _ (ns .i64 ((arr i).set i n))) = some (AO.var _ (ns .i64 (arr (i + 1)))); rw [hnE, arr_set i (by omega)]) | (rw [hnE]; rfl))) (trivial))))
  rintro κ _ ⟨i, hi, rfl, rfl⟩
  refine awp_seq fun K5 hK5 => ?_
  refine awp_region rfl ?_
  refine n_lss (i) (30) Gd.none rfl rfl ?_
  refine aops_end ?_
  refine hK5 _ ?_
  refine awp_seq fun K6 hK6 => ?_
  refine awp_condQ (q := (i) < (30)) rfl (fun h1 => ?_) (fun h1 => ?_)
  · have hu := p30_up i h1
    have hal2 := arr_len hi
    refine awp_skip ?_
    refine hK6 _ ?_
    refine awp_seq fun K7 hK7 => ?_
    refine awp_block ?_
    refine awp_seq fun K8 hK8 => ?_
    refine awp_region rfl ?_
    refine o_mv (nm .i64 (i)) rfl ?_
    refine o_as (nm .i64 (i)) rfl ?_
    refine aops_end ?_
    refine hK8 _ ?_
    refine awp_seq fun K9 hK9 => ?_
    refine awp_seq fun K10 hK10 => ?_
    refine awp_region rfl ?_
    refine o_loadS (nm .i64 (prv i)) Gd.none Yb_tS3 rfl rfl rfl ?_
    refine n_add (prv i) (1) Gd.none rfl rfl (by simp only [topOf]; omega) ?_
    refine o_store [(2, (AO.var 53 [(nm .i64 (0)), (nm .i64 (0)), (nm .i64 (0)), (nm .i64 (0)), (nm .i64 (0)), (nm .i64 (0)), (nm .i64 (0)), (nm .i64 (0)), (nm .i64 (0)), (nm .i64 (0)), (nm .i64 (0)), (nm .i64 (0)), (nm .i64 (0)), (nm .i64 (0)), (nm .i64 (0)), (nm .i64 (0)), (nm .i64 (0)), (nm .i64 (0)), (nm .i64 (0)), (nm .i64 (0)), (nm .i64 (0)), (nm .i64 (0)), (nm .i64 (0)), (nm .i64 (0)), (nm .i64 (0)), (nm .i64 (0)), (nm .i64 (0)), (nm .i64 (0)), (nm .i64 (0)), (nm .i64 (0))])), (3, (AO.var 53 (ns .i64 (arr i)))), (4, (AO.var 3 [(nm .i64 ((prv i) + (1)))]))] Gd.none Yb_tZ3 rfl rfl rfl rfl rfl rfl ?_
    refine aops_end ?_
    refine hK10 _ ?_
    refine awp_block ?_
    refine awp_loopR (fun κ σ => ∃ (n : Nat), (prv i < n) ∧ (n ≤ P30.getD i 0) ∧ (114 - n) = κ ∧ σ = ⟨[(0, (AV.ref 2 (0))), (1, (AV.ref 3 (0))), (2, (AV.ref 4 (0))), (3, (nm .i64 (i))), (4, (nm .i64 (i)))], [(2, (AO.var 53 [(nm .i64 (0)), (nm .i64 (0)), (nm .i64 (0)), (nm .i64 (0)), (nm .i64 (0)), (nm .i64 (0)), (nm .i64 (0)), (nm .i64 (0)), (nm .i64 (0)), (nm .i64 (0)), (nm .i64 (0)), (nm .i64 (0)), (nm .i64 (0)), (nm .i64 (0)), (nm .i64 (0)), (nm .i64 (0)), (nm .i64 (0)), (nm .i64 (0)), (nm .i64 (0)), (nm .i64 (0)), (nm .i64 (0)), (nm .i64 (0)), (nm .i64 (0)), (nm .i64 (0)), (nm .i64 (0)), (nm .i64 (0)), (nm .i64 (0)), (nm .i64 (0)), (nm .i64 (0)), (nm .i64 (0))])), (3, (AO.var 53 (ns .i64 (arr i)))), (4, (AO.var 3 [(nm .i64 (n))]))]⟩) ⟨_, _, ⟨prv i + 1, (by omega), (by omega), rfl, rfl⟩, ?wk1⟩ ?rd1
    case wk1 =>
      exact Wk.sub (And.intro rfl (And.intro rfl (And.intro rfl (And.intro rfl (And.intro rfl (trivial)))))) (And.intro rfl (And.intro rfl (And.intro (by first | rfl | (first | (show some (AO.var _ (ns .i64 ((arr i).set i n))) = some (AO.var _ (ns .i64 (arr (i + 1)))); rw [hnE, arr_set i (by omega)]) | (rw [hnE]; rfl))) (trivial))))
    rintro κ _ ⟨n, hn1, hn2, rfl, rfl⟩
    have hal : ((arr i).take i).length ≤ 30 := by rw [arr_take hi, List.length_take]; omega
    have hap : ∀ p ∈ (arr i).take i, 0 < p := by rw [arr_take hi]; exact fun p hp => p30_pos p (List.mem_of_mem_take hp)
    refine awp_seq fun K11 hK11 => ?_
    refine awp_seq fun K12 hK12 => ?_
    refine awp_region rfl ?_
    refine o_mv (nm .i64 (i)) rfl ?_
    refine n_sliceArr (0) (i) (0) (i) Gd.none Yb_tR53 rfl rfl rfl rfl (hi_nm rfl) (by omega) (by omega) (by first | rfl | simp) (by first | rfl | omega) ?_
    refine o_makeFunc [(AV.ref 4 (0))] Gd.none rfl ?_
    refine o_callV [(3, (AO.var 53 (ns .i64 (arr i)))), (4, (AO.var 3 [(nm .i64 (n))]))] [(AV.sl 1 (ns .i64 ((arr i).take (i)))), (AV.clo 36 [(AV.ip [(nm .i64 (n))])])] (.bool (decide (∃ x ∈ ((arr i).take (i)), (fun (p : Nat) => (n) % p = 0) x))) Gd.none Yb_tC35 rfl (And.intro rfl (And.intro (closedL_ns _ _) (And.intro rfl (And.intro rfl (trivial))))) rfl (by show [AV.frzV 4 _ (AV.frzV 3 _ (AV.vw 3 0 1 i)), _] = _; rw [frzV_vw (by omega)]; rfl) (c_hasPrm (n) ((arr i).take (i)) (by first | omega | assumption) (by assumption)) ?_
    refine aops_end ?_
    refine hK12 _ ?_
    refine awp_condQ (q := ∃ x ∈ ((arr i).take (i)), (fun (p : Nat) => (n) % p = 0) x) rfl (fun h2 => ?_) (fun h2 => ?_)
    · refine awp_skip ?_
      refine hK11 _ ?_
      refine awp_seq fun K13 hK13 => ?_
      refine awp_block ?_
      refine awp_skip ?_
      refine hK13 _ ?_
      refine awp_region rfl ?_
      refine o_loadS (nm .i64 (n)) Gd.none Yb_tS3 rfl rfl rfl ?_
      refine n_add (n) (1) Gd.none rfl rfl (by simp only [topOf]; omega) ?_
      refine o_store [(2, (AO.var 53 [(nm .i64 (0)), (nm .i64 (0)), (nm .i64 (0)), (nm .i64 (0)), (nm .i64 (0)), (nm .i64 (0)), (nm .i64 (0)), (nm .i64 (0)), (nm .i64 (0)), (nm .i64 (0)), (nm .i64 (0)), (nm .i64 (0)), (nm .i64 (0)), (nm .i64 (0)), (nm .i64 (0)), (nm .i64 (0)), (nm .i64 (0)), (nm .i64 (0)), (nm .i64 (0)), (nm .i64 (0)), (nm .i64 (0)), (nm .i64 (0)), (nm .i64 (0)), (nm .i64 (0)), (nm .i64 (0)), (nm .i64 (0)), (nm .i64 (0)), (nm .i64 (0)), (nm .i64 (0)), (nm .i64 (0))])), (3, (AO.var 53 (ns .i64 (arr i)))), (4, (AO.var 3 [(nm .i64 ((n) + (1)))]))] Gd.none Yb_tZ3 rfl rfl rfl rfl rfl rfl ?_
      refine aops_end ?_
      refine ⟨_, _, ?lt, ⟨n + 1, (by omega), (by have hne : n ≠ P30.getD i 0 := fun e => p30_miss i h1 (by rw [← arr_take hi, ← e]; exact h2); omega), rfl, rfl⟩, ?wk⟩
      case lt => omega
      case wk => exact Wk.sub (And.intro rfl (And.intro rfl (And.intro rfl (And.intro rfl (And.intro rfl (trivial)))))) (And.intro rfl (And.intro rfl (And.intro (by first | rfl | (first | (show some (AO.var _ (ns .i64 ((arr i).set i n))) = some (AO.var _ (ns .i64 (arr (i + 1)))); rw [hnE, arr_set i (by omega)]) | (rw [hnE]; rfl))) (trivial))))
    · have hnE : n = P30.getD i 0 := Nat.le_antisymm hn2 (Nat.not_lt.1 fun e => h2 (by rw [arr_take hi]; exact p30_hit i h1 n (by omega) hn1 e))
      refine awp_exit ?_
      refine hK9 _ ?_
      refine awp_region rfl ?_
      refine o_mv (nm .i64 (i)) rfl ?_
      refine o_loadS (nm .i64 (n)) Gd.none Yb_tS3 rfl rfl rfl ?_
      refine n_indexArr (i) (i) Gd.none Yb_tR53 rfl rfl (by omega) (by first | rfl | simp) ?_
      refine n_storeArr (arr i) (i) (n) [(2, (AO.var 53 [(nm .i64 (0)), (nm .i64 (0)), (nm .i64 (0)), (nm .i64 (0)), (nm .i64 (0)), (nm .i64 (0)), (nm .i64 (0)), (nm .i64 (0)), (nm .i64 (0)), (nm .i64 (0)), (nm .i64 (0)), (nm .i64 (0)), (nm .i64 (0)), (nm .i64 (0)), (nm .i64 (0)), (nm .i64 (0)), (nm .i64 (0)), (nm .i64 (0)), (nm .i64 (0)), (nm .i64 (0)), (nm .i64 (0)), (nm .i64 (0)), (nm .i64 (0)), (nm .i64 (0)), (nm .i64 (0)), (nm .i64 (0)), (nm .i64 (0)), (nm .i64 (0)), (nm .i64 (0)), (nm .i64 (0))])), (3, (AO.var 53 (ns .i64 ((arr i).set (i) (n))))), (4, (AO.var 3 [(nm .i64 (n))]))] Gd.none Yb_tZ3 rfl rfl rfl (by omega) rfl ?_
      refine aops_end ?_
      refine hK7 _ ?_
      refine awp_region rfl ?_
      refine n_add (i) (1) Gd.none rfl rfl (by simp only [topOf]; omega) ?_
      refine o_mv (nm .i64 ((i) + (1))) rfl ?_
      refine aops_end ?_
      refine ⟨_, _, ?lt, ⟨i + 1, (by omega), rfl, rfl⟩, ?wk⟩
      case lt => omega
      case wk => exact Wk.sub (And.intro rfl (And.intro rfl (And.intro rfl (And.intro (by first | rfl | exact congrArg (nm _) (by omega) | exact nm_int (by omega) | exact nm_int (by simp [IntKind.wrap, IntKind.bits, IntKind.signed]; omega)) (trivial))))) (And.intro rfl (And.intro (by first | rfl | (first | (show some (AO.var _ (ns .i64 ((arr i).set i n))) = some (AO.var _ (ns .i64 (arr (i + 1)))); rw [hnE, arr_set i (by omega)]) | (rw [hnE]; rfl))) (And.intro (by first | rfl | (first | (show some (AO.var _ (ns .i64 ((arr i).set i n))) = some (AO.var _ (ns .i64 (arr (i + 1)))); rw [hnE, arr_set i (by omega)]) | (rw [hnE]; rfl))) (trivial))))
  · have hal2 := arr_len hi
    refine awp_exit ?_
    refine hK3 _ ?_
    refine awp_seq fun K14 hK14 => ?_
    refine awp_region rfl ?_
    refine n_loadArrA (arr i) Gd.none Yb_tA53 rfl rfl (by exact hal2) ?_
    refine n_as (v' := (AV.agg (ns .i64 (P30)))) (by rw [show i = 30 by omega]; rfl) ?_
    refine n_storeArrA (P30) [(2, (AO.var 53 (ns .i64 (P30)))), (3, (AO.var 53 (ns .i64 (arr i)))), (4, (AO.var 3 [(nm .i64 (prv i))]))] Gd.none Yb_tZ53 rfl rfl rfl (by rfl) rfl rfl ?_
    refine aops_end ?_
    refine hK14 _ ?_
    refine awp_ret ?_
    refine post_ret ⟨[(AV.agg (ns .i64 (P30)))], And.intro ⟨2, (AO.var 53 (ns .i64 (P30))), rfl, rfl, rfl, Or.inl ⟨Yb_tA53, AV.le_refl _⟩⟩ (trivial), rfl, ?_⟩
    rfl

theorem c_own (m : Mac) (z : Int) (h0 : 0 ≤ m.regs + 2 * z) (h1 : m.regs + 2 * z < 30) (h2 : 0 ≤ m.regs) (h3 : m.regs ≤ 4) : ECalls cx 21 [(macV m), (AV.lit (.int .i64 (z)))] (nm .i64 (ownP m z)) := by
  refine ecalls_of_awp Tryd.func21 (c := _) rfl (Nat.le_of_ble_eq_true rfl) ?_
  show awp cx 12 _ (postF cx Tryd.f21 _) ⟨[(0, (macV m)), (1, (AV.lit (.int .i64 (z))))], []⟩
  refine awp_seq fun K0 hK0 => ?_
  refine awp_region rfl ?_
  refine o_box 2 [(AV.lit (.int .i64 (m.regs))), (AV.sl 4 (gcells cI (m.code)))] Gd.none rfl rfl ?_
  refine o_as (nm .i64 (0)) rfl ?_
  refine aops_end ?_
  refine hK0 _ ?_
  refine awp_seq fun K1 hK1 => ?_
  refine awp_regionD rfl ?_
  refine o_ct c_primes Gd.none Yb_tC18 rfl ?_
  refine o_fieldRef 0 Gd.none Yb_tF24_0 rfl rfl ?_
  refine o_loadS (AV.lit (.int .i64 (m.regs))) Gd.none Yb_tS3 rfl rfl rfl ?_
  refine o_mv (AV.lit (.int .i64 (z))) rfl ?_
  refine o_mul (a := (((2 : Nat) : Int))) (c := (z)) Gd.none rfl rfl (by exact wrap64 (by omega) (by omega)) ?_
  refine o_add (a := (m.regs)) (c := ((((2 : Nat) : Int)) * (z))) Gd.none rfl rfl (by exact wrap64 (by omega) (by omega)) ?_
  refine n_as (v' := (nm .i64 ((m.regs + 2 * z).toNat))) (nm_int (by omega)) ?_
  refine n_indexAgg (P30) ((m.regs + 2 * z).toNat) Gd.none Yb_tR53 Yb_tS3 rfl rfl (by rfl) (by omega) ?_
  refine o_as (nm .i64 ((P30).getD ((m.regs + 2 * z).toNat) 0)) rfl ?_
  refine aops_end ⟨by kernel_rfl, ?_⟩
  refine hK1 _ ?_
  refine awp_ret ?_
  refine post_ret ⟨[(nm .i64 ((P30).getD ((m.regs + 2 * z).toNat) 0))], And.intro (AV.le_refl _) (trivial), rfl, ?_⟩
  rfl

theorem c_twin (m : Mac) (z : Int) (h0 : 0 ≤ m.regs + 2 * z) (h1 : m.regs + 2 * z < 29) (h2 : 0 ≤ m.regs) (h3 : m.regs ≤ 4) : ECalls cx 20 [(macV m), (AV.lit (.int .i64 (z)))] (nm .i64 (twnP m z)) := by
  refine ecalls_of_awp Tryd.func20 (c := _) rfl (Nat.le_of_ble_eq_true rfl) ?_
  show awp cx 13 _ (postF cx Tryd.f20 _) ⟨[(0, (macV m)), (1, (AV.lit (.int .i64 (z))))], []⟩
  refine awp_seq fun K0 hK0 => ?_
  refine awp_region rfl ?_
  refine o_box 2 [(AV.lit (.int .i64 (m.regs))), (AV.sl 4 (gcells cI (m.code)))] Gd.none rfl rfl ?_
  refine o_as (nm .i64 (0)) rfl ?_
  refine aops_end ?_
  refine hK0 _ ?_
  refine awp_seq fun K1 hK1 => ?_
  refine awp_regionD rfl ?_
  refine o_ct c_primes Gd.none Yb_tC18 rfl ?_
  refine o_fieldRef 0 Gd.none Yb_tF24_0 rfl rfl ?_
  refine o_loadS (AV.lit (.int .i64 (m.regs))) Gd.none Yb_tS3 rfl rfl rfl ?_
  refine o_mv (AV.lit (.int .i64 (z))) rfl ?_
  refine o_mul (a := (((2 : Nat) : Int))) (c := (z)) Gd.none rfl rfl (by exact wrap64 (by omega) (by omega)) ?_
  refine o_add (a := (m.regs)) (c := ((((2 : Nat) : Int)) * (z))) Gd.none rfl rfl (by exact wrap64 (by omega) (by omega)) ?_
  refine o_add (a := ((m.regs) + ((((2 : Nat) : Int)) * (z)))) (c := (((1 : Nat) : Int))) Gd.none rfl rfl (by exact wrap64 (by omega) (by omega)) ?_
  refine n_as (v' := (nm .i64 ((m.regs + 2 * z + 1).toNat))) (nm_int (by omega)) ?_
  refine n_indexAgg (P30) ((m.regs + 2 * z + 1).toNat) Gd.none Yb_tR53 Yb_tS3 rfl rfl (by rfl) (by omega) ?_
  refine o_as (nm .i64 ((P30).getD ((m.regs + 2 * z + 1).toNat) 0)) rfl ?_
  refine aops_end ⟨by kernel_rfl, ?_⟩
  refine hK1 _ ?_
  refine awp_ret ?_
  refine post_ret ⟨[(nm .i64 ((P30).getD ((m.regs + 2 * z + 1).toNat) 0))], And.intro (AV.le_refl _) (trivial), rfl, ?_⟩
  rfl

theorem c_frac (a b : Nat) (ha : a ≤ 9223372036854775807) (hb : b ≤ 9223372036854775807) : ECalls cx 19 [(nm .i64 (a)), (nm .i64 (b))] (.agg [.lit (.string (txt ((a : Nat) : Int))), .lit (.string (txt ((b : Nat) : Int)))]) := by
  refine ecalls_of_awp Tryd.func19 (c := _) rfl (Nat.le_of_ble_eq_true rfl) ?_
  show awp cx 10 _ (postF cx Tryd.f19 _) ⟨[(0, (nm .i64 (a))), (1, (nm .i64 (b)))], []⟩
  refine awp_seq fun K0 hK0 => ?_
  refine awp_region rfl ?_
  refine o_alloc 2 [(AV.lit (.string (({data := #[]} : ByteArray)))), (AV.lit (.string (({data := #[]} : ByteArray))))] Gd.none Yb_tO50 rfl rfl rfl ?_
  refine aops_end ?_
  refine hK0 _ ?_
  refine awp_seq fun K1 hK1 => ?_
  refine awp_region rfl ?_
  refine o_mv (nm .i64 (a)) rfl ?_
  refine o_ct (c_itoa (a) (by omega)) Gd.none Yb_tC23 rfl ?_
  refine o_mv (nm .i64 (b)) rfl ?_
  refine o_ct (c_itoa (b) (by omega)) Gd.none Yb_tC23 rfl ?_
  refine o_build [(AV.lit (.string (txt ((a : Nat) : Int)))), (AV.lit (.string (txt ((b : Nat) : Int))))] [(0, [(AV.lit (.string (txt ((a : Nat) : Int))))]), (1, [(AV.lit (.string (txt ((b : Nat) : Int))))])] Gd.none Yb_tP50 Yb_tO50 rfl rfl rfl ?_
  refine o_store [(2, (AO.var 50 [(AV.lit (.string (txt ((a : Nat) : Int)))), (AV.lit (.string (txt ((b : Nat) : Int))))]))] Gd.none Yb_tZ50 rfl rfl rfl rfl rfl rfl ?_
  refine aops_end ?_
  refine hK1 _ ?_
  refine awp_ret ?_
  refine post_ret ⟨[(AV.agg [(AV.lit (.string (txt ((a : Nat) : Int)))), (AV.lit (.string (txt ((b : Nat) : Int))))])], And.intro ⟨2, (AO.var 50 [(AV.lit (.string (txt ((a : Nat) : Int)))), (AV.lit (.string (txt ((b : Nat) : Int))))]), rfl, rfl, rfl, Or.inl ⟨Yb_tA50, AV.le_refl _⟩⟩ (trivial), rfl, ?_⟩
  rfl

end Go.Proofs.YtpamhblonmpniaaDoor

set_option linter.unusedVariables false
set_option linter.unusedSimpArgs false
namespace Go.Mth
open Go.Ab
variable {a b c : ByteArray}
theorem ok_zero : okS ⟨#[48]⟩ = true ∧ numS ⟨#[48]⟩ = 0 := ok_of_txt txt_nil (by decide)
noncomputable abbrev gG (a b : ByteArray) : ByteArray := if okS a && okS b then toldS ((Int.gcd (numS a) (numS b) : Nat) : Int) else { data := #[] }
theorem gcd_fit {x y : Int} (hx : Fit x) (hy : Fit y) : Fit ((Int.gcd x y : Nat) : Int) := by
  rcases Nat.eq_zero_or_pos x.natAbs with e | e
  · refine fit_le ?_ hy
    show Nat.gcd x.natAbs y.natAbs ≤ _
    rw [e, Nat.gcd_zero_left]
    exact Nat.le_refl _
  · exact fit_le (Nat.gcd_le_left y.natAbs e) hx
end Go.Mth

set_option linter.unusedVariables false
set_option linter.unusedSimpArgs false
namespace Go.Mth
open Go.Ab
theorem txt_sz2 {z : Int} (h : Fit z) : (txt z).size ≤ 9223372036854775807 := by have := told_sz z; rwa [(told_fit h).1] at this
end Go.Mth

set_option linter.unusedVariables false
set_option linter.unusedSimpArgs false
namespace Go.Mth
open Go.Ab
noncomputable def posE (a : ByteArray) : Nat := if okS a = true then (if 0 < numS a then 0 else 2) else 1
theorem posE_0 {a : ByteArray} : posE a = 0 ↔ okS a = true ∧ 0 < numS a := by
  unfold posE
  by_cases h : okS a = true <;> by_cases h2 : 0 < numS a <;> simp [h, h2]
theorem cmp_0 (a : ByteArray) (h : okS a = true) : (if okS a && okS ⟨#[48]⟩ then cmpZ (numS a) (numS ⟨#[48]⟩) else 0) = cmpZ (numS a) 0 := by
  rw [if_pos (by rw [h, ok_zero.1]; rfl), ok_zero.2]
theorem cmpZ_le {x y : Int} : cmpZ x y ≤ 0 ↔ x ≤ y := by unfold cmpZ; repeat' split <;> omega
def redP (f : Frc) : Prop := (okS f.num = true ∧ 0 < numS f.num) ∧ (okS f.den = true ∧ 0 < numS f.den) ∧ Int.gcd (numS f.num) (numS f.den) = 1
noncomputable instance (f : Frc) : Decidable (redP f) := by unfold redP; infer_instance
def lstP (l : List Frc) : Prop := l.length ≤ 100 ∧ ∀ f ∈ l, redP f
noncomputable instance (l : List Frc) : Decidable (lstP l) := by unfold lstP; infer_instance
noncomputable def askE (l : List Frc) (n : ByteArray) : Nat := if lstP l then posE n else 1
theorem askE_0 {l : List Frc} {n : ByteArray} : askE l n = 0 ↔ lstP l ∧ okS n = true ∧ 0 < numS n := by
  unfold askE
  by_cases h : lstP l
  · rw [if_pos h, posE_0]; exact ⟨fun e => ⟨h, e⟩, fun e => e.2⟩
  · rw [if_neg h]; exact ⟨fun e => absurd e (by decide), fun e => absurd e.1 h⟩
theorem gcd_str {a b : ByteArray} (h : okS a = true ∧ okS b = true) : (if okS a && okS b then toldS ((Int.gcd (numS a) (numS b) : Nat) : Int) else ({ data := #[] } : ByteArray)) = txt ((Int.gcd (numS a) (numS b) : Nat) : Int) := by
  rw [if_pos (by rw [h.1, h.2]; rfl)]
  exact (told_fit (gcd_fit (fit_numS (okS_iff.1 h.1)) (fit_numS (okS_iff.1 h.2)))).1
theorem gcd_one {a b : ByteArray} (h : okS a = true ∧ okS b = true) : (if okS a && okS b then toldS ((Int.gcd (numS a) (numS b) : Nat) : Int) else ({ data := #[] } : ByteArray)).toList = ByteArray.toList ⟨#[49]⟩ ↔ Int.gcd (numS a) (numS b) = 1 := by
  rw [gcd_str h, str_eq, ← txt_one]
  exact ⟨fun e => by have := txt_inj e; omega, fun e => by rw [e]; rfl⟩
theorem mul_str {a b : ByteArray} (h : okS a = true ∧ okS b = true) : (if okS a && okS b then toldS (numS a * numS b) else ({ data := #[] } : ByteArray)) = toldS (numS a * numS b) ∧ (if okS a && okS b then toldE (numS a * numS b) else 1) = toldE (numS a * numS b) :=
  ⟨if_pos (by rw [h.1, h.2]; rfl), if_pos (by rw [h.1, h.2]; rfl)⟩
def hitP (z : Int) (f : Frc) : Prop := z % numS f.den = 0
instance (z : Int) (f : Frc) : Decidable (hitP z f) := by unfold hitP; infer_instance
def fstI (l : List Frc) (z : Int) : Int := ixP (hitP z) l
def fstS (l : List Frc) (z : Int) : ByteArray := if ∃ f ∈ l, hitP z f then txt (z / numS (l.getD (fstI l z).toNat default).den) else { data := #[] }
theorem fst_hit {l : List Frc} {z : Int} {i : Nat} (hi : i < l.length) (h : hitP z (l.getD i default)) (hb : ∀ k, k < i → ¬ hitP z (l.getD k default)) : fstI l z = (i : Int) ∧ fstS l z = txt (z / numS (l.getD i default).den) := by
  have e : fstI l z = (i : Int) := ixP_hit hi h hb
  refine ⟨e, ?_⟩
  unfold fstS
  rw [if_pos (some_of hi h), e, Int.toNat_natCast]
theorem fst_none {l : List Frc} {z : Int} {i : Nat} (hi : l.length ≤ i) (hb : ∀ k, k < i → ¬ hitP z (l.getD k default)) : fstI l z = -1 ∧ fstS l z = { data := #[] } := by
  refine ⟨ixP_none hi hb, ?_⟩
  unfold fstS
  rw [if_neg (none_of hi fun k hk _ => hb k hk)]
theorem hit_str {l : List Frc} {i : Nat} {n : ByteArray} (hl : lstP l) (hn : okS n = true) (hi : i < l.length) : divQ n (l.getD i default).den = txt (numS n / numS (l.getD i default).den) ∧ ((divR n (l.getD i default).den).toList = ByteArray.toList ⟨#[48]⟩ ↔ hitP (numS n) (l.getD i default)) := by
  have h := (hl.2 _ (gdm (d := default) hi)).2.1
  obtain ⟨e1, e2, _⟩ := div_yes ⟨hn, h.1⟩ h.2
  refine ⟨e1, ?_⟩
  rw [e2, str_eq, ← txt_zero]
  exact ⟨fun e => txt_inj e, fun e => by rw [show numS n % numS (l.getD i default).den = 0 from e]⟩
theorem fstI_nn {l : List Frc} {z : Int} : (∃ f ∈ l, hitP z f) ↔ 0 ≤ fstI l z := ixP_nn
theorem fstI_bd {l : List Frc} {z : Int} (h : 0 ≤ fstI l z) : (fstI l z).toNat < l.length ∧ hitP z (l.getD (fstI l z).toNat default) := by
  have hx : ∃ x ∈ l, hitP z x := fstI_nn.2 h
  have e : fstI l z = (l.findIdx (fun x => decide (hitP z x)) : Int) := if_pos hx
  have hlt : l.findIdx (fun x => decide (hitP z x)) < l.length := by
    obtain ⟨x, hx, hp⟩ := hx
    exact List.findIdx_lt_length_of_exists ⟨x, hx, by simpa using hp⟩
  rw [e, Int.toNat_natCast]
  refine ⟨hlt, ?_⟩
  have := List.findIdx_getElem (w := hlt)
  rw [List.getD_eq_getElem?_getD, List.getElem?_eq_getElem hlt]
  simpa using this
noncomputable def firI (l : List Frc) (n : ByteArray) : Int := if askE l n = 0 ∧ 0 ≤ fstI l (numS n) then fstI l (numS n) else 0
noncomputable def firE (l : List Frc) (n : ByteArray) : Nat := if askE l n = 0 then (if 0 ≤ fstI l (numS n) then 0 else 4) else askE l n
def nxF (l : List Frc) (z : Int) : Int := z / numS (l.getD (fstI l z).toNat default).den * numS (l.getD (fstI l z).toNat default).num
noncomputable def ply (l : List Frc) : Nat → Int → Nat → ByteArray × Nat × Nat
  | 0, z, c => (txt z, c, 0)
  | k + 1, z, c => if 0 ≤ fstI l z then (if Fit (nxF l z) then ply l k (nxF l z) (c + 1) else ({ data := #[] }, 0, 3)) else (txt z, c, 0)
noncomputable def plyA (l : List Frc) (n : ByteArray) (k : Int) : ByteArray × Nat × Nat := if askE l n = 0 then (if 0 ≤ k ∧ k ≤ 20000 then ply l k.toNat (numS n) 0 else ({ data := #[] }, 0, 2)) else ({ data := #[] }, 0, askE l n)
theorem fst_str {l : List Frc} {z : Int} (hl : lstP l) (h : 0 ≤ fstI l z) (hz : 0 < z) (hf : Fit z) : fstS l z = txt (z / numS (l.getD (fstI l z).toNat default).den) ∧ Fit (z / numS (l.getD (fstI l z).toNat default).den) ∧ 0 < z / numS (l.getD (fstI l z).toNat default).den := by
  obtain ⟨h1, h2⟩ := fstI_bd h
  have h3 := (hl.2 _ (gdm (d := default) h1)).2.1.2
  refine ⟨if_pos (fstI_nn.2 h), fit_le ?_ hf, ?_⟩
  · rw [Int.natAbs_ediv_of_dvd (Int.dvd_of_emod_eq_zero h2)]; exact Nat.div_le_self _ _
  · exact Int.ediv_pos_of_pos_of_dvd hz (by omega) (Int.dvd_of_emod_eq_zero h2)
theorem ply_next {l : List Frc} {k i : Nat} {z : Int} (h : i < k) (hf : 0 ≤ fstI l z) (hF : Fit (nxF l z)) : ply l (k - i) z i = ply l (k - (i + 1)) (nxF l z) (i + 1) := by
  rw [show k - i = (k - (i + 1)) + 1 by omega]
  exact (if_pos hf).trans (if_pos hF)
theorem ply_big {l : List Frc} {k i : Nat} {z : Int} (h : i < k) (hf : 0 ≤ fstI l z) (hF : ¬ Fit (nxF l z)) : ply l (k - i) z i = ({ data := #[] }, 0, 3) := by
  rw [show k - i = (k - (i + 1)) + 1 by omega]
  exact (if_pos hf).trans (if_neg hF)
theorem ply_stop {l : List Frc} {k i : Nat} {z : Int} (h : i < k) (hf : ¬ 0 ≤ fstI l z) : ply l (k - i) z i = (txt z, i, 0) := by
  rw [show k - i = (k - (i + 1)) + 1 by omega]
  exact if_neg hf
theorem plyA_0 {l : List Frc} {n : ByteArray} {k : Int} (h : askE l n = 0) (h2 : 0 ≤ k ∧ k ≤ 20000) : plyA l n k = ply l k.toNat (numS n) 0 := (if_pos h).trans (if_pos h2)
theorem plyA_1 {l : List Frc} {n : ByteArray} {k : Int} (h : ¬ askE l n = 0) : plyA l n k = ({ data := #[] }, 0, askE l n) := if_neg h
theorem plyA_2 {l : List Frc} {n : ByteArray} {k : Int} (h : askE l n = 0) (h2 : ¬ (0 ≤ k ∧ k ≤ 20000)) : plyA l n k = ({ data := #[] }, 0, 2) := (if_pos h).trans (if_neg h2)
theorem tld_ok {z : Int} (h : ¬ toldE z ≠ 0) : Fit z := Decidable.not_not.1 fun e => h (by unfold toldE; rw [if_neg e]; decide)
theorem tld_big {z : Int} (h : toldE z ≠ 0) : ¬ Fit z := fun e => h (told_fit e).2
theorem tld_3 {z : Int} (h : ¬ Fit z) : toldE z = 3 := if_neg h
def cmX (o d : Int) : Int := o / ((Int.gcd o d : Nat) : Int) * d
noncomputable def com : List Frc → Int → ByteArray × Nat
  | [], o => (txt o, 0)
  | f :: r, o => if Fit (cmX o (numS f.den)) then com r (cmX o (numS f.den)) else ({ data := #[] }, 3)
noncomputable def comA (l : List Frc) : ByteArray × Nat := if lstP l then com l 1 else ({ data := #[] }, 1)
end Go.Mth

set_option linter.unusedVariables false
set_option linter.unusedSimpArgs false
namespace Go.Mth
open Go.Ab
theorem row_gs {α : Type} {e : TypeId} {n : Nat} {c : α → List AV} {xs ys : List α} (h : xs = ys) : (some (AO.row e n (gcells c xs)) : Option AO) = some (AO.row e n (gcells c ys)) := by rw [h]
theorem ownP_bd (m : Mac) (z : Int) : ownP m z ≤ 113 := p30_bd _
theorem twnP_bd (m : Mac) (z : Int) : twnP m z ≤ 113 := p30_bd _
def frc (a b : Nat) : Frc := ⟨txt ((a : Nat) : Int), txt ((b : Nat) : Int)⟩
def rgP (x : Ins) : Nat := P30.getD x.reg.toNat 0
def insF (m : Mac) (s : Nat) (x : Ins) : List Frc := if x.kind = 0 then [frc (twnP m x.next * rgP x) (ownP m s)] else [frc (twnP m x.next) (ownP m s * rgP x), frc (twnP m x.els) (ownP m s)]
def cmp1 (m : Mac) : Nat → List Frc
  | 0 => []
  | i + 1 => cmp1 m i ++ insF m i (m.code.getD i default)
def cmp2 (m : Mac) : Nat → List Frc
  | 0 => cmp1 m m.code.length
  | i + 1 => cmp2 m i ++ [frc (ownP m i) (twnP m i)]
def cmpR (m : Mac) : List Frc := if okMac m then cmp2 m (m.code.length + 1) else []
def cmpE (m : Mac) : Nat := if okMac m then 0 else 1
theorem cmp1_len (m : Mac) : ∀ i, (cmp1 m i).length ≤ 2 * i
  | 0 => Nat.le_refl _
  | i + 1 => by
    have := cmp1_len m i
    rw [cmp1, List.length_append]
    unfold insF
    split <;> simp <;> omega
theorem cmp2_len (m : Mac) : ∀ i, (cmp2 m i).length ≤ 2 * m.code.length + i
  | 0 => cmp1_len m _
  | i + 1 => by
    have := cmp2_len m i
    rw [cmp2, List.length_append, List.length_singleton]
    omega
theorem cmp1_a {m : Mac} {i : Nat} {x : Ins} (hx : m.code.getD i default = x) (h : x.kind = 0) : cmp1 m i ++ [frc (twnP m x.next * rgP x) (ownP m i)] = cmp1 m (i + 1) := by
  subst hx
  rw [cmp1, insF, if_pos h]
theorem cmp1_b {m : Mac} {i : Nat} {x : Ins} (hx : m.code.getD i default = x) (h : ¬ x.kind = 0) : cmp1 m i ++ [frc (twnP m x.next) (ownP m i * rgP x), frc (twnP m x.els) (ownP m i)] = cmp1 m (i + 1) := by
  subst hx
  rw [cmp1, insF, if_neg h]
def prdZ : Nat → List Int → Int
  | _, [] => 1
  | i, n :: r => ((P30.getD i 0 : Nat) : Int) ^ n.toNat * prdZ (i + 1) r
def numC (m : Mac) (c : Cfg) : Int := ((ownP m c.at' : Nat) : Int) * prdZ 0 c.regs
noncomputable def encS (m : Mac) (c : Cfg) : ByteArray := if okCfg m c then toldS (numC m c) else { data := #[] }
noncomputable def encE (m : Mac) (c : Cfg) : Nat := if okCfg m c then toldE (numC m c) else 1
theorem prd_pos : ∀ (l : List Int) (i : Nat), i + l.length ≤ 30 → 0 < prdZ i l
  | [], _, _ => by simp [prdZ]
  | n :: r, i, h => by
    have h' : i + 1 + r.length ≤ 30 := by simp at h; omega
    have h2 := p30_ge i (by simp at h; omega)
    exact Int.mul_pos (Int.pow_pos (by omega)) (prd_pos r (i + 1) h')
theorem prd_drop {l : List Int} {i j : Nat} (h : i < l.length) : prdZ j (l.drop i) = ((P30.getD j 0 : Nat) : Int) ^ (l.getD i 0).toNat * prdZ (j + 1) (l.drop (i + 1)) := by
  rw [List.drop_eq_getElem_cons h, show l.getD i 0 = l[i] by rw [List.getD_eq_getElem?_getD, List.getElem?_eq_getElem h]; rfl]
  rfl
theorem fit_113 {n : Nat} (h : n ≤ 113) : Fit ((n : Nat) : Int) := fit_of_pow (k := 3) (by rw [Int.natAbs_natCast]; omega) (by decide) (by decide)
theorem fit_mul_le {x y : Int} (hx : 0 < x) (hy : 0 < y) (h : Fit (x * y)) : Fit x ∧ Fit y := by
  have e : (x * y).natAbs = x.natAbs * y.natAbs := Int.natAbs_mul x y
  constructor
  · exact fit_le (by rw [e]; exact Nat.le_mul_of_pos_right _ (by omega)) h
  · exact fit_le (by rw [e]; exact Nat.le_mul_of_pos_left _ (by omega)) h
theorem pow_str {p : Nat} {n : Int} (hp : p ≤ 113) (h : 0 ≤ n ∧ n ≤ 1000) : powS (txt ((p : Nat) : Int)) n = toldS (((p : Nat) : Int) ^ n.toNat) ∧ powE (txt ((p : Nat) : Int)) n = toldE (((p : Nat) : Int) ^ n.toNat) := by
  have o := okS_iff.2 (okS_txt (fit_113 hp))
  have q : powIn n := by unfold powIn; omega
  unfold powS powE
  rw [if_pos ⟨o, q⟩, if_pos o, if_pos q, numS_txt]
  exact ⟨rfl, rfl⟩
end Go.Mth

set_option linter.unusedVariables false
set_option linter.unusedSimpArgs false
namespace Go.Mth
open Go Go.Ab
def digW (l : List Frc) : Nat → Int
  | 0 => 0
  | i + 1 => IntKind.wrap .i64 (IntKind.wrap .i64 (digW l i + (((l.getD i default).num.size : Nat) : Int)) + (((l.getD i default).den.size : Nat) : Int))
def lightP (l : List Frc) : Prop := l.length ≤ 2000 ∧ (100 < l.length ∨ digW l l.length ≤ 8000)
instance (l : List Frc) : Decidable (lightP l) := by unfold lightP; infer_instance
def adM : Mac := ⟨2, [⟨1, 0, 1, 2⟩, ⟨0, 1, 0, 0⟩]⟩
def exC : Cfg := ⟨0, [2, 1]⟩
def exP : List (Nat × Nat) := [(13, 10), (19, 5), (21, 11), (5, 7), (11, 13), (17, 19)]
def exF : List Frc := exP.map fun p => frc p.1 p.2
def exL : List Frc := [⟨⟨#[49, 51]⟩, ⟨#[49, 48]⟩⟩, ⟨⟨#[49, 57]⟩, ⟨#[53]⟩⟩, ⟨⟨#[50, 49]⟩, ⟨#[49, 49]⟩⟩, ⟨⟨#[53]⟩, ⟨#[55]⟩⟩, ⟨⟨#[49, 49]⟩, ⟨#[49, 51]⟩⟩, ⟨⟨#[49, 55]⟩, ⟨#[49, 57]⟩⟩]
theorem tx5 : txt 5 = ⟨#[53]⟩ := by simp [txt, txtL, decs, strN]; rfl
theorem tx7 : txt 7 = ⟨#[55]⟩ := by simp [txt, txtL, decs, strN]; rfl
theorem tx10 : txt 10 = ⟨#[49, 48]⟩ := by simp [txt, txtL, decs, strN]; rfl
theorem tx11 : txt 11 = ⟨#[49, 49]⟩ := by simp [txt, txtL, decs, strN]; rfl
theorem tx13 : txt 13 = ⟨#[49, 51]⟩ := by simp [txt, txtL, decs, strN]; rfl
theorem tx17 : txt 17 = ⟨#[49, 55]⟩ := by simp [txt, txtL, decs, strN]; rfl
theorem tx19 : txt 19 = ⟨#[49, 57]⟩ := by simp [txt, txtL, decs, strN]; rfl
theorem tx21 : txt 21 = ⟨#[50, 49]⟩ := by simp [txt, txtL, decs, strN]; rfl
theorem tx60 : txt 60 = ⟨#[54, 48]⟩ := by simp [txt, txtL, decs, strN]; rfl
theorem tx90 : txt 90 = ⟨#[57, 48]⟩ := by simp [txt, txtL, decs, strN]; rfl
theorem exF_L : exF = exL := by
  show [(⟨txt 13, txt 10⟩ : Frc), ⟨txt 19, txt 5⟩, ⟨txt 21, txt 11⟩, ⟨txt 5, txt 7⟩, ⟨txt 11, txt 13⟩, ⟨txt 17, txt 19⟩] = exL
  rw [tx13, tx10, tx19, tx5, tx21, tx11, tx7, tx17]
  rfl
theorem ad_ok : okMac adM := by decide
theorem ex_cmp : cmpR adM = exL ∧ cmpE adM = 0 := by
  refine ⟨?_, if_pos ad_ok⟩
  rw [← exF_L]
  exact (if_pos ad_ok).trans rfl
theorem ex_enc : encS adM exC = ⟨#[54, 48]⟩ ∧ encE adM exC = 0 := by
  have h : okCfg adM exC := by decide
  have e : numC adM exC = 60 := by decide
  have f : Fit 60 := fit_113 (n := 60) (by decide)
  refine ⟨?_, ?_⟩
  · rw [encS, if_pos h, e, (told_fit f).1, tx60]
  · rw [encE, if_pos h, e, (told_fit f).2]
theorem red_frc {a b : Nat} (ha : 0 < a ∧ a ≤ 113) (hb : 0 < b ∧ b ≤ 113) (hg : Nat.gcd a b = 1) : redP (frc a b) := by
  unfold redP frc
  simp only [numS_txt]
  exact ⟨⟨okS_iff.2 (okS_txt (fit_113 ha.2)), by omega⟩, ⟨okS_iff.2 (okS_txt (fit_113 hb.2)), by omega⟩, by rw [Int.gcd_natCast_natCast]; exact hg⟩
theorem ex_lst : lstP exL := by
  rw [← exF_L]
  refine ⟨by decide, fun f hf => ?_⟩
  obtain ⟨p, hp, rfl⟩ := List.mem_map.1 hf
  have : ∀ p ∈ exP, (0 < p.1 ∧ p.1 ≤ 113) ∧ (0 < p.2 ∧ p.2 ≤ 113) ∧ Nat.gcd p.1 p.2 = 1 := by decide
  exact red_frc (this p hp).1 (this p hp).2.1 (this p hp).2.2
theorem ex_sz : ∀ f ∈ exL, f.num.size ≤ 9223372036854775807 ∧ f.den.size ≤ 9223372036854775807 := by decide
theorem hit_frc (z : Int) (a b : Nat) : hitP z (frc a b) ↔ z % ((b : Nat) : Int) = 0 := by unfold hitP frc; simp only [numS_txt]
theorem ply_s {l : List Frc} {k c : Nat} {z w : Int} (h : 0 ≤ fstI l z) (e : nxF l z = w) (hF : Fit w) : ply l (k + 1) z c = ply l k w (c + 1) := by
  subst e
  exact (if_pos h).trans (if_pos hF)
theorem ex_hit {z w : Int} {i : Nat} (hi : i < 6) (h : z % (((exP.getD i (0, 0)).2 : Nat) : Int) = 0) (hb : ∀ k, k < i → ¬ z % (((exP.getD k (0, 0)).2 : Nat) : Int) = 0) (hw : z / (((exP.getD i (0, 0)).2 : Nat) : Int) * (((exP.getD i (0, 0)).1 : Nat) : Int) = w) : 0 ≤ fstI exF z ∧ nxF exF z = w := by
  have e : ∀ k, k < 6 → exF.getD k default = frc (exP.getD k (0, 0)).1 (exP.getD k (0, 0)).2 := by
    intro k hk
    match k, hk with
    | 0, _ => rfl
    | 1, _ => rfl
    | 2, _ => rfl
    | 3, _ => rfl
    | 4, _ => rfl
    | 5, _ => rfl
  obtain ⟨h1, h2⟩ := fst_hit (l := exF) (z := z) (i := i) (by rw [show exF.length = 6 from rfl]; exact hi) (by rw [e i hi, hit_frc]; exact h) (fun k hk => by rw [e k (by omega), hit_frc]; exact hb k hk)
  refine ⟨by rw [h1]; omega, ?_⟩
  unfold nxF
  rw [h1, Int.toNat_natCast, e i hi]
  show z / numS (txt _) * numS (txt _) = w
  rw [numS_txt, numS_txt]
  exact hw
theorem ex_ply : ply exF 4 60 0 = (txt 90, 4, 0) := by
  obtain ⟨a1, a2⟩ := ex_hit (z := 60) (w := 78) (i := 0) (by decide) (by decide) (by decide) (by decide)
  obtain ⟨b1, b2⟩ := ex_hit (z := 78) (w := 66) (i := 4) (by decide) (by decide) (by decide) (by decide)
  obtain ⟨c1, c2⟩ := ex_hit (z := 66) (w := 126) (i := 2) (by decide) (by decide) (by decide) (by decide)
  obtain ⟨d1, d2⟩ := ex_hit (z := 126) (w := 90) (i := 3) (by decide) (by decide) (by decide) (by decide)
  rw [ply_s a1 a2 (fit_113 (n := 78) (by decide)), ply_s b1 b2 (fit_113 (n := 66) (by decide)), ply_s c1 c2 (fit_of_pow (k := 3) (by decide) (by decide) (by decide)), ply_s d1 d2 (fit_113 (n := 90) (by decide))]
  rfl
theorem ex_play : plyA exL ⟨#[54, 48]⟩ 4 = (⟨#[57, 48]⟩, 4, 0) := by
  have h := ok_of_txt tx60 (by decide)
  rw [plyA_0 (askE_0.2 ⟨ex_lst, h.1, by rw [h.2]; decide⟩) (by decide), h.2, ← exF_L, ← tx90]
  exact ex_ply
end Go.Mth

set_option linter.unusedVariables false
set_option linter.unusedSimpArgs false
namespace Go.Mth
open Go Go.Ab
def redV (f : Frc) : Prop := (okS f.num = true ∧ okS f.den = true) ∧ 0 < numS f.den ∧ Int.gcd (numS f.num) (numS f.den) = 1
noncomputable instance (f : Frc) : Decidable (redV f) := by unfold redV; infer_instance
def nxV (l : List Frc) (z : Int) : Int := if 0 ≤ fstI l z then nxF l z else 0
theorem nxF_pos {l : List Frc} {z : Int} (hl : lstP l) (h : 0 ≤ fstI l z) (hz : 0 < z) (hf : Fit z) : 0 < nxF l z :=
  Int.mul_pos (fst_str hl h hz hf).2.2 (hl.2 _ (gdm (fstI_bd h).1)).1.2
def plyV (l : List Frc) : Nat → Int → Nat → Int → Int × Nat × Nat × Bool
  | 0, z, c, _ => (z, c, 0, true)
  | k + 1, z, c, w => if w - ((l.length : Int) + 1) * ((ndig z.natAbs : Int) + 20) < 0 then (0, 0, 0, false) else if 0 ≤ fstI l z then (if Fit (nxF l z) then plyV l k (nxF l z) (c + 1) (w - ((l.length : Int) + 1) * ((ndig z.natAbs : Int) + 20)) else (0, 0, 3, true)) else (z, c, 0, true)
def comR : List Frc → Int → Int
  | [], o => o
  | f :: r, o => if Fit o then comR r (cmX o (numS f.den)) else o
end Go.Mth

set_option linter.unusedVariables false
set_option linter.unusedSimpArgs false
namespace Go.Mth
open Go Go.Ab
def nodiv (p d : Nat) : Prop := ∀ e, e < d → 2 ≤ e → p % e ≠ 0
instance (p d : Nat) : Decidable (nodiv p d) := by unfold nodiv; infer_instance
theorem p30_cop : ∀ i < 30, ∀ j < 30, i ≠ j → Nat.gcd (P30.getD i 0) (P30.getD j 0) = 1 := by decide +kernel
theorem fit_k {n : Nat} (h : n ≤ 99999) : Fit ((n : Nat) : Int) := fit_of_pow (k := 5) (by rw [Int.natAbs_natCast]; omega) (by decide) (by decide)
theorem red_frc2 {a b : Nat} (ha : 0 < a ∧ a ≤ 99999) (hb : 0 < b ∧ b ≤ 99999) (hg : Nat.gcd a b = 1) : redP (frc a b) := by
  unfold redP frc
  simp only [numS_txt]
  exact ⟨⟨okS_iff.2 (okS_txt (fit_k ha.2)), by omega⟩, ⟨okS_iff.2 (okS_txt (fit_k hb.2)), by omega⟩, by rw [Int.gcd_natCast_natCast]; exact hg⟩
theorem frc_sz {a b : Nat} (ha : a ≤ 99999) (hb : b ≤ 99999) : (frc a b).num.size ≤ 9223372036854775807 ∧ (frc a b).den.size ≤ 9223372036854775807 := ⟨txt_sz2 (fit_k ha), txt_sz2 (fit_k hb)⟩
def fineF (f : Frc) : Prop := redP f ∧ f.num.size ≤ 9223372036854775807 ∧ f.den.size ≤ 9223372036854775807
theorem fine_frc {a b : Nat} (ha : 0 < a ∧ a ≤ 99999) (hb : 0 < b ∧ b ≤ 99999) (hg : Nat.gcd a b = 1) : fineF (frc a b) := ⟨red_frc2 ha hb hg, frc_sz ha.2 hb.2⟩
theorem own_spec {m : Mac} {z : Int} (h0 : 0 ≤ m.regs + 2 * z) (h1 : m.regs + 2 * z < 30) : 2 ≤ ownP m z ∧ ownP m z ≤ 113 := ⟨p30_ge _ (by omega), p30_bd _⟩
theorem twn_spec {m : Mac} {z : Int} (h0 : 0 ≤ m.regs + 2 * z) (h1 : m.regs + 2 * z < 29) : 2 ≤ twnP m z ∧ twnP m z ≤ 113 := ⟨p30_ge _ (by omega), p30_bd _⟩
theorem insF_fine {m : Mac} (hM : okMac m) {s : Nat} {x : Ins} (hs : s < m.code.length) (hx : insP m x) : ∀ f ∈ insF m s x, fineF f := by
  obtain ⟨o1, o2, o3, o4, _⟩ := hM
  obtain ⟨⟨x1, x2, x3⟩, x4⟩ := hx
  unfold plc at x3 x4
  have a1 := own_spec (m := m) (z := (s : Nat)) (by omega) (by omega)
  have a2 := twn_spec (m := m) (z := x.next) (by omega) (by omega)
  have a3 : 2 ≤ rgP x := p30_ge _ (by omega)
  have a4 : rgP x ≤ 113 := p30_bd _
  have m1 : twnP m x.next * rgP x ≤ 113 * 113 := Nat.mul_le_mul a2.2 a4
  have m2 : ownP m (s : Nat) * rgP x ≤ 113 * 113 := Nat.mul_le_mul a1.2 a4
  have m3 : 0 < twnP m x.next * rgP x := Nat.mul_pos (by omega) (by omega)
  have m4 : 0 < ownP m (s : Nat) * rgP x := Nat.mul_pos (by omega) (by omega)
  have c1 : Nat.gcd (twnP m x.next) (ownP m (s : Nat)) = 1 := p30_cop _ (by omega) _ (by omega) (by omega)
  have c2 : Nat.gcd (rgP x) (ownP m (s : Nat)) = 1 := p30_cop _ (by omega) _ (by omega) (by omega)
  have c3 : Nat.gcd (twnP m x.next) (rgP x) = 1 := p30_cop _ (by omega) _ (by omega) (by omega)
  intro f hf
  unfold insF at hf
  split at hf
  · rw [List.mem_singleton] at hf
    subst hf
    exact fine_frc ⟨m3, by omega⟩ ⟨by omega, by omega⟩ (Nat.Coprime.mul_left (show Nat.Coprime _ _ from c1) c2)
  · rename_i hk
    simp only [List.mem_cons, List.not_mem_nil, or_false] at hf
    have x5 : plc m x.els := by unfold plc; omega
    unfold plc at x5
    have a5 := twn_spec (m := m) (z := x.els) (by omega) (by omega)
    have c4 : Nat.gcd (twnP m x.els) (ownP m (s : Nat)) = 1 := p30_cop _ (by omega) _ (by omega) (by omega)
    rcases hf with rfl | rfl
    · exact fine_frc ⟨by omega, by omega⟩ ⟨m4, by omega⟩ (Nat.Coprime.mul_right (show Nat.Coprime _ _ from c1) c3)
    · exact fine_frc ⟨by omega, by omega⟩ ⟨by omega, by omega⟩ c4
theorem cmp1_fine {m : Mac} (hM : okMac m) : ∀ i, i ≤ m.code.length → ∀ f ∈ cmp1 m i, fineF f
  | 0, _, f, hf => by simp [cmp1] at hf
  | i + 1, h, f, hf => by
    rw [cmp1] at hf
    rcases List.mem_append.1 hf with hf | hf
    · exact cmp1_fine hM i (by omega) f hf
    · exact insF_fine hM (by omega) (hM.2.2.2.2 _ (gdm (by omega))) f hf
theorem cmp2_fine {m : Mac} (hM : okMac m) : ∀ i, i ≤ m.code.length + 1 → ∀ f ∈ cmp2 m i, fineF f
  | 0, _, f, hf => cmp1_fine hM _ (Nat.le_refl _) f hf
  | i + 1, h, f, hf => by
    obtain ⟨o1, o2, o3, o4, _⟩ := id hM
    rw [cmp2] at hf
    rcases List.mem_append.1 hf with hf | hf
    · exact cmp2_fine hM i (by omega) f hf
    · rw [List.mem_singleton] at hf
      subst hf
      have a1 := own_spec (m := m) (z := (i : Nat)) (by omega) (by omega)
      have a2 := twn_spec (m := m) (z := (i : Nat)) (by omega) (by omega)
      exact fine_frc ⟨by omega, by omega⟩ ⟨by omega, by omega⟩ (p30_cop _ (by omega) _ (by omega) (by omega))
theorem cmpR_fine (m : Mac) : ∀ f ∈ cmpR m, fineF f := by
  unfold cmpR
  split
  · rename_i h; exact cmp2_fine h _ (Nat.le_refl _)
  · intro f hf; simp at hf
theorem cmpR_sz (m : Mac) : ∀ f ∈ cmpR m, f.num.size ≤ 9223372036854775807 ∧ f.den.size ≤ 9223372036854775807 := fun f hf => (cmpR_fine m f hf).2
theorem cmpR_len (m : Mac) : (cmpR m).length ≤ 37 := by
  unfold cmpR
  split
  · rename_i h; have := cmp2_len m (m.code.length + 1); have := h.2.2.2.1; omega
  · simp
theorem cmpR_lst (m : Mac) : lstP (cmpR m) := ⟨by have := cmpR_len m; omega, fun f hf => (cmpR_fine m f hf).1⟩
end Go.Mth

set_option linter.unusedVariables false
set_option linter.unusedSimpArgs false
namespace Go.Ab
theorem Wk.cells {C : Ctx} {n : Nat} {σ : St} {i ty : Nat} {cs cs' : List AV} (hs : lookO σ.objs i = some (.var ty cs)) (hl : LeL cs cs') : Wk C n σ ⟨σ.slots, (i, .var ty cs') :: σ.objs⟩ := fun w0 H L a w hr => by
  have conv : ∀ j o, lookO ((i, .var ty cs') :: σ.objs) j = some o → (j = i ∧ o = .var ty cs') ∨ (j ≠ i ∧ σ.sem.μ j = some o) := fun j o ho => by
    simp only [lookO] at ho
    by_cases h2 : j = i
    · subst h2
      simp at ho
      exact .inl ⟨rfl, ho.symm⟩
    · rw [beq_ne (fun e => h2 e.symm)] at ho
      exact .inr ⟨h2, ho⟩
  have hi0 := hr.objs i (.var ty cs) hs
  refine ⟨H, L, Ext.refl _ _, ⟨hr.glob, hr.heap, hr.size, hr.slot, fun j o ho => ?_, fun j k o o' g x x' hjk hj hk => ?_, hr.below, hr.defers⟩⟩
  · rcases conv j o ho with ⟨rfl, rfl⟩ | ⟨h1, h2⟩
    · obtain ⟨g, vs, a1, a2, a3, a4, a5, a6⟩ := hi0
      exact ⟨g, vs, a1, a2, hl.rep a3, a4, a5, a6⟩
    · exact hr.objs j o h2
  · have conv' : ∀ j o, lookO ((i, .var ty cs') :: σ.objs) j = some o → ∃ o', σ.sem.μ j = some o' := fun j o ho => by
      rcases conv j o ho with ⟨rfl, rfl⟩ | ⟨h1, h2⟩
      · exact ⟨_, hs⟩
      · exact ⟨_, h2⟩
    obtain ⟨o1, h1⟩ := conv' j o hj
    obtain ⟨o2, h2⟩ := conv' k o' hk
    exact hr.apart j k o1 o2 g x x' hjk h1 h2
end Go.Ab
namespace Go.Mth
open Go.Ab
def gC (a b : Nat) : Prop := ((digs a).getD ((digs a).length - 1) 0) ≤ ((digs b).getD ((digs b).length - 1) 0) ∧ 0 < (digs a).length - (digs b).length
instance (a b : Nat) : Decidable (gC a b) := inferInstanceAs (Decidable ((digs a).getD ((digs a).length - 1) 0 ≤ ((digs b).getD ((digs b).length - 1) 0) ∧ 0 < (digs a).length - (digs b).length))
def gSh (a b : Nat) : Nat := if gC a b then (digs a).length - (digs b).length - 1 else (digs a).length - (digs b).length
def gTop (a b : Nat) : Nat := if gC a b then ((digs a).getD ((digs a).length - 1) 0) * 1000000000 + (digs a).getD ((digs a).length - 2) 0 else ((digs a).getD ((digs a).length - 1) 0)
def gQ (a b : Nat) : Nat := max (gTop a b / ((digs b).getD ((digs b).length - 1) 0 + 1)) 1
def guessN (a b : Nat) : Nat := 1000000000 ^ gSh a b * gQ a b
end Go.Mth

set_option linter.unusedVariables false
set_option linter.unusedSimpArgs false
namespace Go.Proofs.YtpamhblonmpniaaDoor
open Go Go.Ab Go.Mth
end Go.Proofs.YtpamhblonmpniaaDoor

set_option linter.unusedVariables false
set_option linter.unusedSimpArgs false
namespace Go.Proofs.YtpamhblonmpniaaDoor
open Go Go.Ab Go.Mth
theorem Ym_tF24_1 : tyField cx.P 24 1 = some (1, 22) := by kernel_rfl
theorem Ym_tS22 : tySc cx.P 22 = true := by kernel_rfl
theorem Ym_tU22 : cx.P.underlying 22 = some (.slice 52) := by kernel_rfl
theorem Ym_tF24_0 : tyField cx.P 24 0 = some (0, 3) := by kernel_rfl
theorem Ym_tS3 : tySc cx.P 3 = true := by kernel_rfl
theorem Ym_tE22 : tyElem cx.P 22 = some (52, 4, 32) := by kernel_rfl
theorem Ym_tA52 : tyAgg cx.P 52 = some 4 := by kernel_rfl
theorem Ym_tO52 : tyZero cx.P 52 = some [(Go.Value.int IntKind.i64 0), (Go.Value.int IntKind.i64 0), (Go.Value.int IntKind.i64 0), (Go.Value.int IntKind.i64 0)] := by kernel_rfl
theorem Ym_tZ52 : tySize cx.P 52 = some 4 := by kernel_rfl
theorem Ym_tF52_0 : tyField cx.P 52 0 = some (0, 3) := by kernel_rfl
theorem Ym_tF52_1 : tyField cx.P 52 1 = some (1, 3) := by kernel_rfl
theorem Ym_tF52_2 : tyField cx.P 52 2 = some (2, 3) := by kernel_rfl
theorem Ym_tF52_3 : tyField cx.P 52 3 = some (3, 3) := by kernel_rfl
theorem c_vValid (m : Mac) : ECalls cx 14 [(macV m)] (bp (okMac m)) := by
  refine ecalls_of_awp Tryd.func14 (c := _) rfl (Nat.le_of_ble_eq_true rfl) ?_
  show awp cx 87 _ (postF cx Tryd.f14 _) ⟨[(0, (macV m))], []⟩
  refine awp_seq fun K0 hK0 => ?_
  refine awp_region rfl ?_
  refine o_box 2 [(AV.lit (.int .i64 (m.regs))), (AV.sl 4 (gcells cI (m.code)))] Gd.none rfl rfl ?_
  refine o_as (AV.lit (.bool false)) rfl ?_
  refine aops_end ?_
  refine hK0 _ ?_
  refine awp_seq fun K1 hK1 => ?_
  refine awp_region rfl ?_
  refine o_fieldRef 1 Gd.none Ym_tF24_1 rfl rfl ?_
  refine o_loadS (AV.sl 4 (gcells cI (m.code))) Gd.none Ym_tS22 rfl rfl rfl ?_
  refine g_len cI (m.code) cI_len Gd.none Ym_tU22 rfl ?_
  refine o_as (nm .i64 ((m.code).length)) rfl ?_
  refine aops_end ?_
  refine hK1 _ ?_
  refine awp_seq fun K2 hK2 => ?_
  refine awp_seq fun K3 hK3 => ?_
  refine awp_region rfl ?_
  refine o_fieldRef 0 Gd.none Ym_tF24_0 rfl rfl ?_
  refine o_loadS (AV.lit (.int .i64 (m.regs))) Gd.none Ym_tS3 rfl rfl rfl ?_
  refine o_lss (a := (m.regs)) (c := (((1 : Nat) : Int))) Gd.none rfl rfl ?_
  refine o_mv (bp ((m.regs) < (((1 : Nat) : Int)))) rfl ?_
  refine o_splitP (q := (m.regs) < (((1 : Nat) : Int))) 12 rfl (fun h1 => ?_) (fun h1 => ?_)
  · refine o_skip rfl rfl (decide_eq_true h1) ?_
    refine o_skip rfl rfl (decide_eq_true h1) ?_
    refine o_skip rfl rfl (decide_eq_true h1) ?_
    refine o_pickT (AV.lit (.bool true)) Gd.none rfl (decide_eq_true h1) rfl ?_
    refine o_mv (AV.lit (.bool true)) rfl ?_
    refine o_skip rfl rfl rfl ?_
    refine o_skip rfl rfl rfl ?_
    refine o_pickT (AV.lit (.bool true)) Gd.none rfl rfl rfl ?_
    refine o_mv (AV.lit (.bool true)) rfl ?_
    refine o_skip rfl rfl rfl ?_
    refine o_skip rfl rfl rfl ?_
    refine o_pickT (AV.lit (.bool true)) Gd.none rfl rfl rfl ?_
    refine aops_end ?_
    refine hK3 _ ?_
    refine awp_condB (b := true) rfl (fun _ => ?_) (fun hh => absurd (hh.symm.trans rfl) (by decide))
    refine awp_seq fun K4 hK4 => ?_
    refine awp_region rfl ?_
    refine o_as (AV.lit (.bool false)) rfl ?_
    refine aops_end ?_
    refine hK4 _ ?_
    refine awp_ret ?_
    refine post_ret ⟨[(AV.lit (.bool false))], And.intro (AV.le_refl _) (trivial), rfl, ?_⟩
    first | exact bpy ⟨by omega, by omega, by omega, by omega, fun x hx => by obtain ⟨k, hk, rfl⟩ := List.getElem_of_mem hx; have := hb k (by omega); rwa [List.getD_eq_getElem?_getD, List.getElem?_eq_getElem hk] at this⟩ | exact bpn (fun o => by obtain ⟨o1, o2, o3, o4, o5⟩ := o; omega) | exact bpn (fun o => by have hx := o.2.2.2.2 _ (gdm (d := default) (show i < m.code.length by omega)); clear hb o; unfold insP plc at hx; omega)
  · refine o_fieldRef 0 (Gd.yes rfl rfl (decide_eq_false h1)) Ym_tF24_0 rfl rfl ?_
    refine o_loadS (AV.lit (.int .i64 (m.regs))) (Gd.yes rfl rfl (decide_eq_false h1)) Ym_tS3 rfl rfl rfl ?_
    refine o_gtr (a := (m.regs)) (c := (((4 : Nat) : Int))) (Gd.yes rfl rfl (decide_eq_false h1)) rfl rfl ?_
    refine o_pickF (bp ((((4 : Nat) : Int)) < (m.regs))) Gd.none rfl (decide_eq_false h1) rfl ?_
    refine o_mv (bp ((((4 : Nat) : Int)) < (m.regs))) rfl ?_
    refine o_splitP (q := (((4 : Nat) : Int)) < (m.regs)) 17 rfl (fun h2 => ?_) (fun h2 => ?_)
    · refine o_skip rfl rfl (decide_eq_true h2) ?_
      refine o_skip rfl rfl (decide_eq_true h2) ?_
      refine o_pickT (AV.lit (.bool true)) Gd.none rfl (decide_eq_true h2) rfl ?_
      refine o_mv (AV.lit (.bool true)) rfl ?_
      refine o_skip rfl rfl rfl ?_
      refine o_skip rfl rfl rfl ?_
      refine o_pickT (AV.lit (.bool true)) Gd.none rfl rfl rfl ?_
      refine aops_end ?_
      refine hK3 _ ?_
      refine awp_condB (b := true) rfl (fun _ => ?_) (fun hh => absurd (hh.symm.trans rfl) (by decide))
      refine awp_seq fun K5 hK5 => ?_
      refine awp_region rfl ?_
      refine o_as (AV.lit (.bool false)) rfl ?_
      refine aops_end ?_
      refine hK5 _ ?_
      refine awp_ret ?_
      refine post_ret ⟨[(AV.lit (.bool false))], And.intro (AV.le_refl _) (trivial), rfl, ?_⟩
      first | exact bpy ⟨by omega, by omega, by omega, by omega, fun x hx => by obtain ⟨k, hk, rfl⟩ := List.getElem_of_mem hx; have := hb k (by omega); rwa [List.getD_eq_getElem?_getD, List.getElem?_eq_getElem hk] at this⟩ | exact bpn (fun o => by obtain ⟨o1, o2, o3, o4, o5⟩ := o; omega) | exact bpn (fun o => by have hx := o.2.2.2.2 _ (gdm (d := default) (show i < m.code.length by omega)); clear hb o; unfold insP plc at hx; omega)
    · refine o_move (nm .i64 ((m.code).length)) (Gd.yes rfl rfl (decide_eq_false h2)) rfl ?_
      refine n_lss ((m.code).length) (1) (Gd.yes rfl rfl (decide_eq_false h2)) rfl rfl ?_
      refine o_pickF (bp (((m.code).length) < (1))) Gd.none rfl (decide_eq_false h2) rfl ?_
      refine o_mv (bp (((m.code).length) < (1))) rfl ?_
      refine o_splitP (q := ((m.code).length) < (1)) 21 rfl (fun h3 => ?_) (fun h3 => ?_)
      · refine o_skip rfl rfl (decide_eq_true h3) ?_
        refine o_skip rfl rfl (decide_eq_true h3) ?_
        refine o_pickT (AV.lit (.bool true)) Gd.none rfl (decide_eq_true h3) rfl ?_
        refine aops_end ?_
        refine hK3 _ ?_
        refine awp_condB (b := true) rfl (fun _ => ?_) (fun hh => absurd (hh.symm.trans rfl) (by decide))
        refine awp_seq fun K6 hK6 => ?_
        refine awp_region rfl ?_
        refine o_as (AV.lit (.bool false)) rfl ?_
        refine aops_end ?_
        refine hK6 _ ?_
        refine awp_ret ?_
        refine post_ret ⟨[(AV.lit (.bool false))], And.intro (AV.le_refl _) (trivial), rfl, ?_⟩
        first | exact bpy ⟨by omega, by omega, by omega, by omega, fun x hx => by obtain ⟨k, hk, rfl⟩ := List.getElem_of_mem hx; have := hb k (by omega); rwa [List.getD_eq_getElem?_getD, List.getElem?_eq_getElem hk] at this⟩ | exact bpn (fun o => by obtain ⟨o1, o2, o3, o4, o5⟩ := o; omega) | exact bpn (fun o => by have hx := o.2.2.2.2 _ (gdm (d := default) (show i < m.code.length by omega)); clear hb o; unfold insP plc at hx; omega)
      · refine o_move (nm .i64 ((m.code).length)) (Gd.yes rfl rfl (decide_eq_false h3)) rfl ?_
        refine n_gtr ((m.code).length) (12) (Gd.yes rfl rfl (decide_eq_false h3)) rfl rfl ?_
        refine o_pickF (bp ((12) < ((m.code).length))) Gd.none rfl (decide_eq_false h3) rfl ?_
        refine aops_end ?_
        refine hK3 _ ?_
        refine awp_condQ (q := (12) < ((m.code).length)) rfl (fun h4 => ?_) (fun h4 => ?_)
        · refine awp_seq fun K7 hK7 => ?_
          refine awp_region rfl ?_
          refine o_as (AV.lit (.bool false)) rfl ?_
          refine aops_end ?_
          refine hK7 _ ?_
          refine awp_ret ?_
          refine post_ret ⟨[(AV.lit (.bool false))], And.intro (AV.le_refl _) (trivial), rfl, ?_⟩
          first | exact bpy ⟨by omega, by omega, by omega, by omega, fun x hx => by obtain ⟨k, hk, rfl⟩ := List.getElem_of_mem hx; have := hb k (by omega); rwa [List.getD_eq_getElem?_getD, List.getElem?_eq_getElem hk] at this⟩ | exact bpn (fun o => by obtain ⟨o1, o2, o3, o4, o5⟩ := o; omega) | exact bpn (fun o => by have hx := o.2.2.2.2 _ (gdm (d := default) (show i < m.code.length by omega)); clear hb o; unfold insP plc at hx; omega)
        · refine awp_skip ?_
          refine hK2 _ ?_
          refine awp_seq fun K8 hK8 => ?_
          refine awp_seq fun K9 hK9 => ?_
          refine awp_region rfl ?_
          refine o_as (nm .i64 (0)) rfl ?_
          refine aops_end ?_
          refine hK9 _ ?_
          refine awp_block ?_
          refine awp_loopR (fun κ σ => ∃ (i : Nat), (i ≤ m.code.length) ∧ (∀ k, k < i → insP m (m.code.getD k default)) ∧ (m.code.length - i) = κ ∧ σ = ⟨[(1, (AV.ref 2 (0))), (3, (nm .i64 (m.code.length))), (4, (nm .i64 (i)))], [(2, (AO.var 24 [(AV.lit (.int .i64 (m.regs))), (AV.sl 4 (gcells cI (m.code)))]))]⟩) ⟨_, _, ⟨0, (by omega), (fun k hk => by omega), rfl, rfl⟩, ?wk0⟩ ?rd0
          case wk0 =>
            exact Wk.sub (And.intro rfl (And.intro (by first | rfl | exact congrArg (nm _) (by omega) | exact nm_int (by omega) | exact nm_int (by simp [IntKind.wrap, IntKind.bits, IntKind.signed]; omega)) (And.intro (by first | rfl | exact congrArg (nm _) (by omega) | exact nm_int (by omega) | exact nm_int (by simp [IntKind.wrap, IntKind.bits, IntKind.signed]; omega)) (trivial)))) (And.intro rfl (trivial))
          rintro κ _ ⟨i, hi, hb, rfl, rfl⟩
          refine awp_seq fun K10 hK10 => ?_
          refine awp_seq fun K11 hK11 => ?_
          refine awp_region rfl ?_
          refine o_mv (nm .i64 (i)) rfl ?_
          refine o_mv (nm .i64 (m.code.length)) rfl ?_
          refine n_lss (i) (m.code.length) Gd.none rfl rfl ?_
          refine aops_end ?_
          refine hK11 _ ?_
          refine awp_condQ (q := (i) < (m.code.length)) rfl (fun h5 => ?_) (fun h5 => ?_)
          · refine awp_skip ?_
            refine hK10 _ ?_
            refine awp_seq fun K12 hK12 => ?_
            refine awp_block ?_
            refine awp_seq fun K13 hK13 => ?_
            refine awp_region rfl ?_
            refine o_fieldRef 1 Gd.none Ym_tF24_1 rfl rfl ?_
            refine o_loadS (AV.sl 4 (gcells cI (m.code))) Gd.none Ym_tS22 rfl rfl rfl ?_
            refine o_mv (nm .i64 (i)) rfl ?_
            refine g_index cI (m.code) (i) cI_len rfl Gd.none Ym_tE22 rfl rfl (by omega) ?_
            refine g_loadA cI (m.code) (i) default cI_len Gd.none Ym_tA52 rfl (by omega) ?_
            refine o_alloc 101 [(nm .i64 (0)), (nm .i64 (0)), (nm .i64 (0)), (nm .i64 (0))] Gd.none Ym_tO52 rfl rfl rfl ?_
            refine o_store [(101, (AO.var 52 [(AV.lit (.int .i64 ((((m.code).getD (i) default)).kind))), (AV.lit (.int .i64 ((((m.code).getD (i) default)).reg))), (AV.lit (.int .i64 ((((m.code).getD (i) default)).next))), (AV.lit (.int .i64 ((((m.code).getD (i) default)).els)))])), (2, (AO.var 24 [(AV.lit (.int .i64 (m.regs))), (AV.sl 4 (gcells cI (m.code)))]))] Gd.none Ym_tZ52 rfl rfl rfl rfl rfl rfl ?_
            refine aops_end ?_
            refine hK13 _ ?_
            refine awp_seq fun K14 hK14 => ?_
            refine awp_region rfl ?_
            refine o_fieldRef 0 Gd.none Ym_tF52_0 rfl rfl ?_
            refine o_loadS (AV.lit (.int .i64 ((((m.code).getD (i) default)).kind))) Gd.none Ym_tS3 rfl rfl rfl ?_
            refine o_neq (a := ((((m.code).getD (i) default)).kind)) (c := (((0 : Nat) : Int))) Gd.none rfl rfl ?_
            refine o_mv (bp (((((m.code).getD (i) default)).kind) ≠ (((0 : Nat) : Int)))) rfl ?_
            refine o_splitP (q := ((((m.code).getD (i) default)).kind) ≠ (((0 : Nat) : Int))) 38 rfl (fun h6 => ?_) (fun h6 => ?_)
            · refine o_fieldRef 0 (Gd.yes rfl rfl (decide_eq_true h6)) Ym_tF52_0 rfl rfl ?_
              refine o_loadS (AV.lit (.int .i64 ((((m.code).getD (i) default)).kind))) (Gd.yes rfl rfl (decide_eq_true h6)) Ym_tS3 rfl rfl rfl ?_
              refine o_neq (a := ((((m.code).getD (i) default)).kind)) (c := (((1 : Nat) : Int))) (Gd.yes rfl rfl (decide_eq_true h6)) rfl rfl ?_
              refine o_pickT (bp (((((m.code).getD (i) default)).kind) ≠ (((1 : Nat) : Int)))) Gd.none rfl (decide_eq_true h6) rfl ?_
              refine o_mv (bp (((((m.code).getD (i) default)).kind) ≠ (((1 : Nat) : Int)))) rfl ?_
              refine o_splitP (q := ((((m.code).getD (i) default)).kind) ≠ (((1 : Nat) : Int))) 43 rfl (fun h7 => ?_) (fun h7 => ?_)
              · refine o_skip rfl rfl (decide_eq_true h7) ?_
                refine o_skip rfl rfl (decide_eq_true h7) ?_
                refine o_skip rfl rfl (decide_eq_true h7) ?_
                refine o_pickT (AV.lit (.bool true)) Gd.none rfl (decide_eq_true h7) rfl ?_
                refine o_mv (AV.lit (.bool true)) rfl ?_
                refine o_skip rfl rfl rfl ?_
                refine o_skip rfl rfl rfl ?_
                refine o_skip rfl rfl rfl ?_
                refine o_skip rfl rfl rfl ?_
                refine o_skip rfl rfl rfl ?_
                refine o_pickT (AV.lit (.bool true)) Gd.none rfl rfl rfl ?_
                refine o_mv (AV.lit (.bool true)) rfl ?_
                refine o_skip rfl rfl rfl ?_
                refine o_skip rfl rfl rfl ?_
                refine o_skip rfl rfl rfl ?_
                refine o_pickT (AV.lit (.bool true)) Gd.none rfl rfl rfl ?_
                refine o_mv (AV.lit (.bool true)) rfl ?_
                refine o_skip rfl rfl rfl ?_
                refine o_skip rfl rfl rfl ?_
                refine o_skip rfl rfl rfl ?_
                refine o_skip rfl rfl rfl ?_
                refine o_pickT (AV.lit (.bool true)) Gd.none rfl rfl rfl ?_
                refine o_mv (AV.lit (.bool true)) rfl ?_
                refine o_skip rfl rfl rfl ?_
                refine o_skip rfl rfl rfl ?_
                refine o_skip rfl rfl rfl ?_
                refine o_pickT (AV.lit (.bool true)) Gd.none rfl rfl rfl ?_
                refine o_mv (AV.lit (.bool true)) rfl ?_
                refine o_skip rfl rfl rfl ?_
                refine o_skip rfl rfl rfl ?_
                refine o_skip rfl rfl rfl ?_
                refine o_skip rfl rfl rfl ?_
                refine o_pickT (AV.lit (.bool true)) Gd.none rfl rfl rfl ?_
                refine o_mv (AV.lit (.bool true)) rfl ?_
                refine o_skip rfl rfl rfl ?_
                refine o_skip rfl rfl rfl ?_
                refine o_skip rfl rfl rfl ?_
                refine o_skip rfl rfl rfl ?_
                refine o_skipU rfl rfl ?_
                refine o_skipU rfl rfl ?_
                refine o_skipU rfl rfl ?_
                refine o_skip rfl rfl rfl ?_
                refine o_pickT (AV.lit (.bool true)) Gd.none rfl rfl rfl ?_
                refine aops_end ?_
                refine hK14 _ ?_
                refine awp_condB (b := true) rfl (fun _ => ?_) (fun hh => absurd (hh.symm.trans rfl) (by decide))
                refine awp_seq fun K15 hK15 => ?_
                refine awp_region rfl ?_
                refine o_as (AV.lit (.bool false)) rfl ?_
                refine aops_end ?_
                refine hK15 _ ?_
                refine awp_ret ?_
                refine post_ret ⟨[(AV.lit (.bool false))], And.intro (AV.le_refl _) (trivial), rfl, ?_⟩
                first | exact bpy ⟨by omega, by omega, by omega, by omega, fun x hx => by obtain ⟨k, hk, rfl⟩ := List.getElem_of_mem hx; have := hb k (by omega); rwa [List.getD_eq_getElem?_getD, List.getElem?_eq_getElem hk] at this⟩ | exact bpn (fun o => by obtain ⟨o1, o2, o3, o4, o5⟩ := o; omega) | exact bpn (fun o => by have hx := o.2.2.2.2 _ (gdm (d := default) (show i < m.code.length by omega)); clear hb o; unfold insP plc at hx; omega)
              · refine o_fieldRef 1 (Gd.yes rfl rfl (decide_eq_false h7)) Ym_tF52_1 rfl rfl ?_
                refine o_loadS (AV.lit (.int .i64 ((((m.code).getD (i) default)).reg))) (Gd.yes rfl rfl (decide_eq_false h7)) Ym_tS3 rfl rfl rfl ?_
                refine o_lss (a := ((((m.code).getD (i) default)).reg)) (c := (((0 : Nat) : Int))) (Gd.yes rfl rfl (decide_eq_false h7)) rfl rfl ?_
                refine o_pickF (bp (((((m.code).getD (i) default)).reg) < (((0 : Nat) : Int)))) Gd.none rfl (decide_eq_false h7) rfl ?_
                refine o_mv (bp (((((m.code).getD (i) default)).reg) < (((0 : Nat) : Int)))) rfl ?_
                refine o_splitP (q := ((((m.code).getD (i) default)).reg) < (((0 : Nat) : Int))) 48 rfl (fun h8 => ?_) (fun h8 => ?_)
                · refine o_skip rfl rfl (decide_eq_true h8) ?_
                  refine o_skip rfl rfl (decide_eq_true h8) ?_
                  refine o_skip rfl rfl (decide_eq_true h8) ?_
                  refine o_skip rfl rfl (decide_eq_true h8) ?_
                  refine o_skip rfl rfl (decide_eq_true h8) ?_
                  refine o_pickT (AV.lit (.bool true)) Gd.none rfl (decide_eq_true h8) rfl ?_
                  refine o_mv (AV.lit (.bool true)) rfl ?_
                  refine o_skip rfl rfl rfl ?_
                  refine o_skip rfl rfl rfl ?_
                  refine o_skip rfl rfl rfl ?_
                  refine o_pickT (AV.lit (.bool true)) Gd.none rfl rfl rfl ?_
                  refine o_mv (AV.lit (.bool true)) rfl ?_
                  refine o_skip rfl rfl rfl ?_
                  refine o_skip rfl rfl rfl ?_
                  refine o_skip rfl rfl rfl ?_
                  refine o_skip rfl rfl rfl ?_
                  refine o_pickT (AV.lit (.bool true)) Gd.none rfl rfl rfl ?_
                  refine o_mv (AV.lit (.bool true)) rfl ?_
                  refine o_skip rfl rfl rfl ?_
                  refine o_skip rfl rfl rfl ?_
                  refine o_skip rfl rfl rfl ?_
                  refine o_pickT (AV.lit (.bool true)) Gd.none rfl rfl rfl ?_
                  refine o_mv (AV.lit (.bool true)) rfl ?_
                  refine o_skip rfl rfl rfl ?_
                  refine o_skip rfl rfl rfl ?_
                  refine o_skip rfl rfl rfl ?_
                  refine o_skip rfl rfl rfl ?_
                  refine o_pickT (AV.lit (.bool true)) Gd.none rfl rfl rfl ?_
                  refine o_mv (AV.lit (.bool true)) rfl ?_
                  refine o_skip rfl rfl rfl ?_
                  refine o_skip rfl rfl rfl ?_
                  refine o_skip rfl rfl rfl ?_
                  refine o_skip rfl rfl rfl ?_
                  refine o_skipU rfl rfl ?_
                  refine o_skipU rfl rfl ?_
                  refine o_skipU rfl rfl ?_
                  refine o_skip rfl rfl rfl ?_
                  refine o_pickT (AV.lit (.bool true)) Gd.none rfl rfl rfl ?_
                  refine aops_end ?_
                  refine hK14 _ ?_
                  refine awp_condB (b := true) rfl (fun _ => ?_) (fun hh => absurd (hh.symm.trans rfl) (by decide))
                  refine awp_seq fun K16 hK16 => ?_
                  refine awp_region rfl ?_
                  refine o_as (AV.lit (.bool false)) rfl ?_
                  refine aops_end ?_
                  refine hK16 _ ?_
                  refine awp_ret ?_
                  refine post_ret ⟨[(AV.lit (.bool false))], And.intro (AV.le_refl _) (trivial), rfl, ?_⟩
                  first | exact bpy ⟨by omega, by omega, by omega, by omega, fun x hx => by obtain ⟨k, hk, rfl⟩ := List.getElem_of_mem hx; have := hb k (by omega); rwa [List.getD_eq_getElem?_getD, List.getElem?_eq_getElem hk] at this⟩ | exact bpn (fun o => by obtain ⟨o1, o2, o3, o4, o5⟩ := o; omega) | exact bpn (fun o => by have hx := o.2.2.2.2 _ (gdm (d := default) (show i < m.code.length by omega)); clear hb o; unfold insP plc at hx; omega)
                · refine o_fieldRef 1 (Gd.yes rfl rfl (decide_eq_false h8)) Ym_tF52_1 rfl rfl ?_
                  refine o_loadS (AV.lit (.int .i64 ((((m.code).getD (i) default)).reg))) (Gd.yes rfl rfl (decide_eq_false h8)) Ym_tS3 rfl rfl rfl ?_
                  refine o_fieldRef 0 (Gd.yes rfl rfl (decide_eq_false h8)) Ym_tF24_0 rfl rfl ?_
                  refine o_loadS (AV.lit (.int .i64 (m.regs))) (Gd.yes rfl rfl (decide_eq_false h8)) Ym_tS3 rfl rfl rfl ?_
                  refine o_geq (a := ((((m.code).getD (i) default)).reg)) (c := (m.regs)) (Gd.yes rfl rfl (decide_eq_false h8)) rfl rfl ?_
                  refine o_pickF (bp ((m.regs) ≤ ((((m.code).getD (i) default)).reg))) Gd.none rfl (decide_eq_false h8) rfl ?_
                  refine o_mv (bp ((m.regs) ≤ ((((m.code).getD (i) default)).reg))) rfl ?_
                  refine o_splitP (q := (m.regs) ≤ ((((m.code).getD (i) default)).reg)) 55 rfl (fun h9 => ?_) (fun h9 => ?_)
                  · refine o_skip rfl rfl (decide_eq_true h9) ?_
                    refine o_skip rfl rfl (decide_eq_true h9) ?_
                    refine o_skip rfl rfl (decide_eq_true h9) ?_
                    refine o_pickT (AV.lit (.bool true)) Gd.none rfl (decide_eq_true h9) rfl ?_
                    refine o_mv (AV.lit (.bool true)) rfl ?_
                    refine o_skip rfl rfl rfl ?_
                    refine o_skip rfl rfl rfl ?_
                    refine o_skip rfl rfl rfl ?_
                    refine o_skip rfl rfl rfl ?_
                    refine o_pickT (AV.lit (.bool true)) Gd.none rfl rfl rfl ?_
                    refine o_mv (AV.lit (.bool true)) rfl ?_
                    refine o_skip rfl rfl rfl ?_
                    refine o_skip rfl rfl rfl ?_
                    refine o_skip rfl rfl rfl ?_
                    refine o_pickT (AV.lit (.bool true)) Gd.none rfl rfl rfl ?_
                    refine o_mv (AV.lit (.bool true)) rfl ?_
                    refine o_skip rfl rfl rfl ?_
                    refine o_skip rfl rfl rfl ?_
                    refine o_skip rfl rfl rfl ?_
                    refine o_skip rfl rfl rfl ?_
                    refine o_pickT (AV.lit (.bool true)) Gd.none rfl rfl rfl ?_
                    refine o_mv (AV.lit (.bool true)) rfl ?_
                    refine o_skip rfl rfl rfl ?_
                    refine o_skip rfl rfl rfl ?_
                    refine o_skip rfl rfl rfl ?_
                    refine o_skip rfl rfl rfl ?_
                    refine o_skipU rfl rfl ?_
                    refine o_skipU rfl rfl ?_
                    refine o_skipU rfl rfl ?_
                    refine o_skip rfl rfl rfl ?_
                    refine o_pickT (AV.lit (.bool true)) Gd.none rfl rfl rfl ?_
                    refine aops_end ?_
                    refine hK14 _ ?_
                    refine awp_condB (b := true) rfl (fun _ => ?_) (fun hh => absurd (hh.symm.trans rfl) (by decide))
                    refine awp_seq fun K17 hK17 => ?_
                    refine awp_region rfl ?_
                    refine o_as (AV.lit (.bool false)) rfl ?_
                    refine aops_end ?_
                    refine hK17 _ ?_
                    refine awp_ret ?_
                    refine post_ret ⟨[(AV.lit (.bool false))], And.intro (AV.le_refl _) (trivial), rfl, ?_⟩
                    first | exact bpy ⟨by omega, by omega, by omega, by omega, fun x hx => by obtain ⟨k, hk, rfl⟩ := List.getElem_of_mem hx; have := hb k (by omega); rwa [List.getD_eq_getElem?_getD, List.getElem?_eq_getElem hk] at this⟩ | exact bpn (fun o => by obtain ⟨o1, o2, o3, o4, o5⟩ := o; omega) | exact bpn (fun o => by have hx := o.2.2.2.2 _ (gdm (d := default) (show i < m.code.length by omega)); clear hb o; unfold insP plc at hx; omega)
                  · refine o_fieldRef 2 (Gd.yes rfl rfl (decide_eq_false h9)) Ym_tF52_2 rfl rfl ?_
                    refine o_loadS (AV.lit (.int .i64 ((((m.code).getD (i) default)).next))) (Gd.yes rfl rfl (decide_eq_false h9)) Ym_tS3 rfl rfl rfl ?_
                    refine o_lss (a := ((((m.code).getD (i) default)).next)) (c := (((0 : Nat) : Int))) (Gd.yes rfl rfl (decide_eq_false h9)) rfl rfl ?_
                    refine o_pickF (bp (((((m.code).getD (i) default)).next) < (((0 : Nat) : Int)))) Gd.none rfl (decide_eq_false h9) rfl ?_
                    refine o_mv (bp (((((m.code).getD (i) default)).next) < (((0 : Nat) : Int)))) rfl ?_
                    refine o_splitP (q := ((((m.code).getD (i) default)).next) < (((0 : Nat) : Int))) 60 rfl (fun h10 => ?_) (fun h10 => ?_)
                    · refine o_skip rfl rfl (decide_eq_true h10) ?_
                      refine o_skip rfl rfl (decide_eq_true h10) ?_
                      refine o_skip rfl rfl (decide_eq_true h10) ?_
                      refine o_skip rfl rfl (decide_eq_true h10) ?_
                      refine o_pickT (AV.lit (.bool true)) Gd.none rfl (decide_eq_true h10) rfl ?_
                      refine o_mv (AV.lit (.bool true)) rfl ?_
                      refine o_skip rfl rfl rfl ?_
                      refine o_skip rfl rfl rfl ?_
                      refine o_skip rfl rfl rfl ?_
                      refine o_pickT (AV.lit (.bool true)) Gd.none rfl rfl rfl ?_
                      refine o_mv (AV.lit (.bool true)) rfl ?_
                      refine o_skip rfl rfl rfl ?_
                      refine o_skip rfl rfl rfl ?_
                      refine o_skip rfl rfl rfl ?_
                      refine o_skip rfl rfl rfl ?_
                      refine o_pickT (AV.lit (.bool true)) Gd.none rfl rfl rfl ?_
                      refine o_mv (AV.lit (.bool true)) rfl ?_
                      refine o_skip rfl rfl rfl ?_
                      refine o_skip rfl rfl rfl ?_
                      refine o_skip rfl rfl rfl ?_
                      refine o_skip rfl rfl rfl ?_
                      refine o_skipU rfl rfl ?_
                      refine o_skipU rfl rfl ?_
                      refine o_skipU rfl rfl ?_
                      refine o_skip rfl rfl rfl ?_
                      refine o_pickT (AV.lit (.bool true)) Gd.none rfl rfl rfl ?_
                      refine aops_end ?_
                      refine hK14 _ ?_
                      refine awp_condB (b := true) rfl (fun _ => ?_) (fun hh => absurd (hh.symm.trans rfl) (by decide))
                      refine awp_seq fun K18 hK18 => ?_
                      refine awp_region rfl ?_
                      refine o_as (AV.lit (.bool false)) rfl ?_
                      refine aops_end ?_
                      refine hK18 _ ?_
                      refine awp_ret ?_
                      refine post_ret ⟨[(AV.lit (.bool false))], And.intro (AV.le_refl _) (trivial), rfl, ?_⟩
                      first | exact bpy ⟨by omega, by omega, by omega, by omega, fun x hx => by obtain ⟨k, hk, rfl⟩ := List.getElem_of_mem hx; have := hb k (by omega); rwa [List.getD_eq_getElem?_getD, List.getElem?_eq_getElem hk] at this⟩ | exact bpn (fun o => by obtain ⟨o1, o2, o3, o4, o5⟩ := o; omega) | exact bpn (fun o => by have hx := o.2.2.2.2 _ (gdm (d := default) (show i < m.code.length by omega)); clear hb o; unfold insP plc at hx; omega)
                    · refine o_fieldRef 2 (Gd.yes rfl rfl (decide_eq_false h10)) Ym_tF52_2 rfl rfl ?_
                      refine o_loadS (AV.lit (.int .i64 ((((m.code).getD (i) default)).next))) (Gd.yes rfl rfl (decide_eq_false h10)) Ym_tS3 rfl rfl rfl ?_
                      refine o_move (nm .i64 (m.code.length)) (Gd.yes rfl rfl (decide_eq_false h10)) rfl ?_
                      refine o_gtr (a := ((((m.code).getD (i) default)).next)) (c := (((m.code.length : Nat) : Int))) (Gd.yes rfl rfl (decide_eq_false h10)) rfl rfl ?_
                      refine o_pickF (bp ((((m.code.length : Nat) : Int)) < ((((m.code).getD (i) default)).next))) Gd.none rfl (decide_eq_false h10) rfl ?_
                      refine o_mv (bp ((((m.code.length : Nat) : Int)) < ((((m.code).getD (i) default)).next))) rfl ?_
                      refine o_splitP (q := (((m.code.length : Nat) : Int)) < ((((m.code).getD (i) default)).next)) 66 rfl (fun h11 => ?_) (fun h11 => ?_)
                      · refine o_skip rfl rfl (decide_eq_true h11) ?_
                        refine o_skip rfl rfl (decide_eq_true h11) ?_
                        refine o_skip rfl rfl (decide_eq_true h11) ?_
                        refine o_pickT (AV.lit (.bool true)) Gd.none rfl (decide_eq_true h11) rfl ?_
                        refine o_mv (AV.lit (.bool true)) rfl ?_
                        refine o_skip rfl rfl rfl ?_
                        refine o_skip rfl rfl rfl ?_
                        refine o_skip rfl rfl rfl ?_
                        refine o_skip rfl rfl rfl ?_
                        refine o_pickT (AV.lit (.bool true)) Gd.none rfl rfl rfl ?_
                        refine o_mv (AV.lit (.bool true)) rfl ?_
                        refine o_skip rfl rfl rfl ?_
                        refine o_skip rfl rfl rfl ?_
                        refine o_skip rfl rfl rfl ?_
                        refine o_skip rfl rfl rfl ?_
                        refine o_skipU rfl rfl ?_
                        refine o_skipU rfl rfl ?_
                        refine o_skipU rfl rfl ?_
                        refine o_skip rfl rfl rfl ?_
                        refine o_pickT (AV.lit (.bool true)) Gd.none rfl rfl rfl ?_
                        refine aops_end ?_
                        refine hK14 _ ?_
                        refine awp_condB (b := true) rfl (fun _ => ?_) (fun hh => absurd (hh.symm.trans rfl) (by decide))
                        refine awp_seq fun K19 hK19 => ?_
                        refine awp_region rfl ?_
                        refine o_as (AV.lit (.bool false)) rfl ?_
                        refine aops_end ?_
                        refine hK19 _ ?_
                        refine awp_ret ?_
                        refine post_ret ⟨[(AV.lit (.bool false))], And.intro (AV.le_refl _) (trivial), rfl, ?_⟩
                        first | exact bpy ⟨by omega, by omega, by omega, by omega, fun x hx => by obtain ⟨k, hk, rfl⟩ := List.getElem_of_mem hx; have := hb k (by omega); rwa [List.getD_eq_getElem?_getD, List.getElem?_eq_getElem hk] at this⟩ | exact bpn (fun o => by obtain ⟨o1, o2, o3, o4, o5⟩ := o; omega) | exact bpn (fun o => by have hx := o.2.2.2.2 _ (gdm (d := default) (show i < m.code.length by omega)); clear hb o; unfold insP plc at hx; omega)
                      · refine o_fieldRef 3 (Gd.yes rfl rfl (decide_eq_false h11)) Ym_tF52_3 rfl rfl ?_
                        refine o_loadS (AV.lit (.int .i64 ((((m.code).getD (i) default)).els))) (Gd.yes rfl rfl (decide_eq_false h11)) Ym_tS3 rfl rfl rfl ?_
                        refine o_lss (a := ((((m.code).getD (i) default)).els)) (c := (((0 : Nat) : Int))) (Gd.yes rfl rfl (decide_eq_false h11)) rfl rfl ?_
                        refine o_pickF (bp (((((m.code).getD (i) default)).els) < (((0 : Nat) : Int)))) Gd.none rfl (decide_eq_false h11) rfl ?_
                        refine o_mv (bp (((((m.code).getD (i) default)).els) < (((0 : Nat) : Int)))) rfl ?_
                        refine o_splitP (q := ((((m.code).getD (i) default)).els) < (((0 : Nat) : Int))) 71 rfl (fun h12 => ?_) (fun h12 => ?_)
                        · refine o_skip rfl rfl (decide_eq_true h12) ?_
                          refine o_skip rfl rfl (decide_eq_true h12) ?_
                          refine o_skip rfl rfl (decide_eq_true h12) ?_
                          refine o_skip rfl rfl (decide_eq_true h12) ?_
                          refine o_pickT (AV.lit (.bool true)) Gd.none rfl (decide_eq_true h12) rfl ?_
                          refine o_mv (AV.lit (.bool true)) rfl ?_
                          refine o_skip rfl rfl rfl ?_
                          refine o_skip rfl rfl rfl ?_
                          refine o_skip rfl rfl rfl ?_
                          refine o_skip rfl rfl rfl ?_
                          refine o_skipU rfl rfl ?_
                          refine o_skipU rfl rfl ?_
                          refine o_skipU rfl rfl ?_
                          refine o_skip rfl rfl rfl ?_
                          refine o_pickT (AV.lit (.bool true)) Gd.none rfl rfl rfl ?_
                          refine aops_end ?_
                          refine hK14 _ ?_
                          refine awp_condB (b := true) rfl (fun _ => ?_) (fun hh => absurd (hh.symm.trans rfl) (by decide))
                          refine awp_seq fun K20 hK20 => ?_
                          refine awp_region rfl ?_
                          refine o_as (AV.lit (.bool false)) rfl ?_
                          refine aops_end ?_
                          refine hK20 _ ?_
                          refine awp_ret ?_
                          refine post_ret ⟨[(AV.lit (.bool false))], And.intro (AV.le_refl _) (trivial), rfl, ?_⟩
                          first | exact bpy ⟨by omega, by omega, by omega, by omega, fun x hx => by obtain ⟨k, hk, rfl⟩ := List.getElem_of_mem hx; have := hb k (by omega); rwa [List.getD_eq_getElem?_getD, List.getElem?_eq_getElem hk] at this⟩ | exact bpn (fun o => by obtain ⟨o1, o2, o3, o4, o5⟩ := o; omega) | exact bpn (fun o => by have hx := o.2.2.2.2 _ (gdm (d := default) (show i < m.code.length by omega)); clear hb o; unfold insP plc at hx; omega)
                        · refine o_fieldRef 3 (Gd.yes rfl rfl (decide_eq_false h12)) Ym_tF52_3 rfl rfl ?_
                          refine o_loadS (AV.lit (.int .i64 ((((m.code).getD (i) default)).els))) (Gd.yes rfl rfl (decide_eq_false h12)) Ym_tS3 rfl rfl rfl ?_
                          refine o_move (nm .i64 (m.code.length)) (Gd.yes rfl rfl (decide_eq_false h12)) rfl ?_
                          refine o_gtr (a := ((((m.code).getD (i) default)).els)) (c := (((m.code.length : Nat) : Int))) (Gd.yes rfl rfl (decide_eq_false h12)) rfl rfl ?_
                          refine o_pickF (bp ((((m.code.length : Nat) : Int)) < ((((m.code).getD (i) default)).els))) Gd.none rfl (decide_eq_false h12) rfl ?_
                          refine o_mv (bp ((((m.code.length : Nat) : Int)) < ((((m.code).getD (i) default)).els))) rfl ?_
                          refine o_splitP (q := (((m.code.length : Nat) : Int)) < ((((m.code).getD (i) default)).els)) 77 rfl (fun h13 => ?_) (fun h13 => ?_)
                          · refine o_skip rfl rfl (decide_eq_true h13) ?_
                            refine o_skip rfl rfl (decide_eq_true h13) ?_
                            refine o_skip rfl rfl (decide_eq_true h13) ?_
                            refine o_skip rfl rfl (decide_eq_true h13) ?_
                            refine o_skipU rfl rfl ?_
                            refine o_skipU rfl rfl ?_
                            refine o_skipU rfl rfl ?_
                            refine o_skip rfl rfl (decide_eq_true h13) ?_
                            refine o_pickT (AV.lit (.bool true)) Gd.none rfl (decide_eq_true h13) rfl ?_
                            refine aops_end ?_
                            refine hK14 _ ?_
                            refine awp_condB (b := true) rfl (fun _ => ?_) (fun hh => absurd (hh.symm.trans rfl) (by decide))
                            refine awp_seq fun K21 hK21 => ?_
                            refine awp_region rfl ?_
                            refine o_as (AV.lit (.bool false)) rfl ?_
                            refine aops_end ?_
                            refine hK21 _ ?_
                            refine awp_ret ?_
                            refine post_ret ⟨[(AV.lit (.bool false))], And.intro (AV.le_refl _) (trivial), rfl, ?_⟩
                            first | exact bpy ⟨by omega, by omega, by omega, by omega, fun x hx => by obtain ⟨k, hk, rfl⟩ := List.getElem_of_mem hx; have := hb k (by omega); rwa [List.getD_eq_getElem?_getD, List.getElem?_eq_getElem hk] at this⟩ | exact bpn (fun o => by obtain ⟨o1, o2, o3, o4, o5⟩ := o; omega) | exact bpn (fun o => by have hx := o.2.2.2.2 _ (gdm (d := default) (show i < m.code.length by omega)); clear hb o; unfold insP plc at hx; omega)
                          · refine o_fieldRef 0 (Gd.yes rfl rfl (decide_eq_false h13)) Ym_tF52_0 rfl rfl ?_
                            refine o_loadS (AV.lit (.int .i64 ((((m.code).getD (i) default)).kind))) (Gd.yes rfl rfl (decide_eq_false h13)) Ym_tS3 rfl rfl rfl ?_
                            refine o_eql (a := ((((m.code).getD (i) default)).kind)) (c := (((0 : Nat) : Int))) (Gd.yes rfl rfl (decide_eq_false h13)) rfl rfl ?_
                            refine o_move (bp (((((m.code).getD (i) default)).kind) = (((0 : Nat) : Int)))) (Gd.yes rfl rfl (decide_eq_false h13)) rfl ?_
                            refine o_skip rfl rfl (decide_eq_false h6) ?_
                            refine o_skip rfl rfl (decide_eq_false h6) ?_
                            refine o_skip rfl rfl (decide_eq_false h6) ?_
                            refine o_pickF (AV.lit (.bool false)) (Gd.yes rfl rfl (decide_eq_false h13)) rfl (decide_eq_false h6) rfl ?_
                            refine o_pickF (AV.lit (.bool false)) Gd.none rfl (decide_eq_false h13) rfl ?_
                            refine aops_end ?_
                            refine hK14 _ ?_
                            refine awp_condB (b := false) rfl (fun hh => absurd (hh.symm.trans rfl) (by decide)) (fun _ => ?_)
                            refine awp_skip ?_
                            refine hK12 _ ?_
                            refine awp_region rfl ?_
                            refine o_mv (nm .i64 (i)) rfl ?_
                            refine n_add (i) (1) Gd.none rfl rfl (by simp only [topOf]; omega) ?_
                            refine o_as (nm .i64 ((i) + (1))) rfl ?_
                            refine aops_end ?_
                            refine ⟨_, _, ?lt, ⟨i + 1, (by omega), (fun k hk => by rcases Nat.lt_or_ge k i with e | e; exact hb k e; rw [show k = i by omega]; clear hb; unfold insP plc; omega), rfl, rfl⟩, ?wk⟩
                            case lt => omega
                            case wk => exact Wk.sub (And.intro rfl (And.intro rfl (And.intro (by first | rfl | exact congrArg (nm _) (by omega) | exact nm_int (by omega) | exact nm_int (by simp [IntKind.wrap, IntKind.bits, IntKind.signed]; omega)) (trivial)))) (And.intro rfl (trivial))
            · refine o_skip rfl rfl (decide_eq_false h6) ?_
              refine o_skip rfl rfl (decide_eq_false h6) ?_
              refine o_skip rfl rfl (decide_eq_false h6) ?_
              refine o_pickF (AV.lit (.bool false)) Gd.none rfl (decide_eq_false h6) rfl ?_
              refine o_mv (AV.lit (.bool false)) rfl ?_
              refine o_fieldRef 1 (Gd.yes rfl rfl rfl) Ym_tF52_1 rfl rfl ?_
              refine o_loadS (AV.lit (.int .i64 ((((m.code).getD (i) default)).reg))) (Gd.yes rfl rfl rfl) Ym_tS3 rfl rfl rfl ?_
              refine o_lss (a := ((((m.code).getD (i) default)).reg)) (c := (((0 : Nat) : Int))) (Gd.yes rfl rfl rfl) rfl rfl ?_
              refine o_pickF (bp (((((m.code).getD (i) default)).reg) < (((0 : Nat) : Int)))) Gd.none rfl rfl rfl ?_
              refine o_mv (bp (((((m.code).getD (i) default)).reg) < (((0 : Nat) : Int)))) rfl ?_
              refine o_splitP (q := ((((m.code).getD (i) default)).reg) < (((0 : Nat) : Int))) 48 rfl (fun h14 => ?_) (fun h14 => ?_)
              · refine o_skip rfl rfl (decide_eq_true h14) ?_
                refine o_skip rfl rfl (decide_eq_true h14) ?_
                refine o_skip rfl rfl (decide_eq_true h14) ?_
                refine o_skip rfl rfl (decide_eq_true h14) ?_
                refine o_skip rfl rfl (decide_eq_true h14) ?_
                refine o_pickT (AV.lit (.bool true)) Gd.none rfl (decide_eq_true h14) rfl ?_
                refine o_mv (AV.lit (.bool true)) rfl ?_
                refine o_skip rfl rfl rfl ?_
                refine o_skip rfl rfl rfl ?_
                refine o_skip rfl rfl rfl ?_
                refine o_pickT (AV.lit (.bool true)) Gd.none rfl rfl rfl ?_
                refine o_mv (AV.lit (.bool true)) rfl ?_
                refine o_skip rfl rfl rfl ?_
                refine o_skip rfl rfl rfl ?_
                refine o_skip rfl rfl rfl ?_
                refine o_skip rfl rfl rfl ?_
                refine o_pickT (AV.lit (.bool true)) Gd.none rfl rfl rfl ?_
                refine o_mv (AV.lit (.bool true)) rfl ?_
                refine o_skip rfl rfl rfl ?_
                refine o_skip rfl rfl rfl ?_
                refine o_skip rfl rfl rfl ?_
                refine o_pickT (AV.lit (.bool true)) Gd.none rfl rfl rfl ?_
                refine o_mv (AV.lit (.bool true)) rfl ?_
                refine o_skip rfl rfl rfl ?_
                refine o_skip rfl rfl rfl ?_
                refine o_skip rfl rfl rfl ?_
                refine o_skip rfl rfl rfl ?_
                refine o_pickT (AV.lit (.bool true)) Gd.none rfl rfl rfl ?_
                refine o_mv (AV.lit (.bool true)) rfl ?_
                refine o_skip rfl rfl rfl ?_
                refine o_skip rfl rfl rfl ?_
                refine o_skip rfl rfl rfl ?_
                refine o_skip rfl rfl rfl ?_
                refine o_skipU rfl rfl ?_
                refine o_skipU rfl rfl ?_
                refine o_skipU rfl rfl ?_
                refine o_skip rfl rfl rfl ?_
                refine o_pickT (AV.lit (.bool true)) Gd.none rfl rfl rfl ?_
                refine aops_end ?_
                refine hK14 _ ?_
                refine awp_condB (b := true) rfl (fun _ => ?_) (fun hh => absurd (hh.symm.trans rfl) (by decide))
                refine awp_seq fun K22 hK22 => ?_
                refine awp_region rfl ?_
                refine o_as (AV.lit (.bool false)) rfl ?_
                refine aops_end ?_
                refine hK22 _ ?_
                refine awp_ret ?_
                refine post_ret ⟨[(AV.lit (.bool false))], And.intro (AV.le_refl _) (trivial), rfl, ?_⟩
                first | exact bpy ⟨by omega, by omega, by omega, by omega, fun x hx => by obtain ⟨k, hk, rfl⟩ := List.getElem_of_mem hx; have := hb k (by omega); rwa [List.getD_eq_getElem?_getD, List.getElem?_eq_getElem hk] at this⟩ | exact bpn (fun o => by obtain ⟨o1, o2, o3, o4, o5⟩ := o; omega) | exact bpn (fun o => by have hx := o.2.2.2.2 _ (gdm (d := default) (show i < m.code.length by omega)); clear hb o; unfold insP plc at hx; omega)
              · refine o_fieldRef 1 (Gd.yes rfl rfl (decide_eq_false h14)) Ym_tF52_1 rfl rfl ?_
                refine o_loadS (AV.lit (.int .i64 ((((m.code).getD (i) default)).reg))) (Gd.yes rfl rfl (decide_eq_false h14)) Ym_tS3 rfl rfl rfl ?_
                refine o_fieldRef 0 (Gd.yes rfl rfl (decide_eq_false h14)) Ym_tF24_0 rfl rfl ?_
                refine o_loadS (AV.lit (.int .i64 (m.regs))) (Gd.yes rfl rfl (decide_eq_false h14)) Ym_tS3 rfl rfl rfl ?_
                refine o_geq (a := ((((m.code).getD (i) default)).reg)) (c := (m.regs)) (Gd.yes rfl rfl (decide_eq_false h14)) rfl rfl ?_
                refine o_pickF (bp ((m.regs) ≤ ((((m.code).getD (i) default)).reg))) Gd.none rfl (decide_eq_false h14) rfl ?_
                refine o_mv (bp ((m.regs) ≤ ((((m.code).getD (i) default)).reg))) rfl ?_
                refine o_splitP (q := (m.regs) ≤ ((((m.code).getD (i) default)).reg)) 55 rfl (fun h15 => ?_) (fun h15 => ?_)
                · refine o_skip rfl rfl (decide_eq_true h15) ?_
                  refine o_skip rfl rfl (decide_eq_true h15) ?_
                  refine o_skip rfl rfl (decide_eq_true h15) ?_
                  refine o_pickT (AV.lit (.bool true)) Gd.none rfl (decide_eq_true h15) rfl ?_
                  refine o_mv (AV.lit (.bool true)) rfl ?_
                  refine o_skip rfl rfl rfl ?_
                  refine o_skip rfl rfl rfl ?_
                  refine o_skip rfl rfl rfl ?_
                  refine o_skip rfl rfl rfl ?_
                  refine o_pickT (AV.lit (.bool true)) Gd.none rfl rfl rfl ?_
                  refine o_mv (AV.lit (.bool true)) rfl ?_
                  refine o_skip rfl rfl rfl ?_
                  refine o_skip rfl rfl rfl ?_
                  refine o_skip rfl rfl rfl ?_
                  refine o_pickT (AV.lit (.bool true)) Gd.none rfl rfl rfl ?_
                  refine o_mv (AV.lit (.bool true)) rfl ?_
                  refine o_skip rfl rfl rfl ?_
                  refine o_skip rfl rfl rfl ?_
                  refine o_skip rfl rfl rfl ?_
                  refine o_skip rfl rfl rfl ?_
                  refine o_pickT (AV.lit (.bool true)) Gd.none rfl rfl rfl ?_
                  refine o_mv (AV.lit (.bool true)) rfl ?_
                  refine o_skip rfl rfl rfl ?_
                  refine o_skip rfl rfl rfl ?_
                  refine o_skip rfl rfl rfl ?_
                  refine o_skip rfl rfl rfl ?_
                  refine o_skipU rfl rfl ?_
                  refine o_skipU rfl rfl ?_
                  refine o_skipU rfl rfl ?_
                  refine o_skip rfl rfl rfl ?_
                  refine o_pickT (AV.lit (.bool true)) Gd.none rfl rfl rfl ?_
                  refine aops_end ?_
                  refine hK14 _ ?_
                  refine awp_condB (b := true) rfl (fun _ => ?_) (fun hh => absurd (hh.symm.trans rfl) (by decide))
                  refine awp_seq fun K23 hK23 => ?_
                  refine awp_region rfl ?_
                  refine o_as (AV.lit (.bool false)) rfl ?_
                  refine aops_end ?_
                  refine hK23 _ ?_
                  refine awp_ret ?_
                  refine post_ret ⟨[(AV.lit (.bool false))], And.intro (AV.le_refl _) (trivial), rfl, ?_⟩
                  first | exact bpy ⟨by omega, by omega, by omega, by omega, fun x hx => by obtain ⟨k, hk, rfl⟩ := List.getElem_of_mem hx; have := hb k (by omega); rwa [List.getD_eq_getElem?_getD, List.getElem?_eq_getElem hk] at this⟩ | exact bpn (fun o => by obtain ⟨o1, o2, o3, o4, o5⟩ := o; omega) | exact bpn (fun o => by have hx := o.2.2.2.2 _ (gdm (d := default) (show i < m.code.length by omega)); clear hb o; unfold insP plc at hx; omega)
                · refine o_fieldRef 2 (Gd.yes rfl rfl (decide_eq_false h15)) Ym_tF52_2 rfl rfl ?_
                  refine o_loadS (AV.lit (.int .i64 ((((m.code).getD (i) default)).next))) (Gd.yes rfl rfl (decide_eq_false h15)) Ym_tS3 rfl rfl rfl ?_
                  refine o_lss (a := ((((m.code).getD (i) default)).next)) (c := (((0 : Nat) : Int))) (Gd.yes rfl rfl (decide_eq_false h15)) rfl rfl ?_
                  refine o_pickF (bp (((((m.code).getD (i) default)).next) < (((0 : Nat) : Int)))) Gd.none rfl (decide_eq_false h15) rfl ?_
                  refine o_mv (bp (((((m.code).getD (i) default)).next) < (((0 : Nat) : Int)))) rfl ?_
                  refine o_splitP (q := ((((m.code).getD (i) default)).next) < (((0 : Nat) : Int))) 60 rfl (fun h16 => ?_) (fun h16 => ?_)
                  · refine o_skip rfl rfl (decide_eq_true h16) ?_
                    refine o_skip rfl rfl (decide_eq_true h16) ?_
                    refine o_skip rfl rfl (decide_eq_true h16) ?_
                    refine o_skip rfl rfl (decide_eq_true h16) ?_
                    refine o_pickT (AV.lit (.bool true)) Gd.none rfl (decide_eq_true h16) rfl ?_
                    refine o_mv (AV.lit (.bool true)) rfl ?_
                    refine o_skip rfl rfl rfl ?_
                    refine o_skip rfl rfl rfl ?_
                    refine o_skip rfl rfl rfl ?_
                    refine o_pickT (AV.lit (.bool true)) Gd.none rfl rfl rfl ?_
                    refine o_mv (AV.lit (.bool true)) rfl ?_
                    refine o_skip rfl rfl rfl ?_
                    refine o_skip rfl rfl rfl ?_
                    refine o_skip rfl rfl rfl ?_
                    refine o_skip rfl rfl rfl ?_
                    refine o_pickT (AV.lit (.bool true)) Gd.none rfl rfl rfl ?_
                    refine o_mv (AV.lit (.bool true)) rfl ?_
                    refine o_skip rfl rfl rfl ?_
                    refine o_skip rfl rfl rfl ?_
                    refine o_skip rfl rfl rfl ?_
                    refine o_skip rfl rfl rfl ?_
                    refine o_skipU rfl rfl ?_
                    refine o_skipU rfl rfl ?_
                    refine o_skipU rfl rfl ?_
                    refine o_skip rfl rfl rfl ?_
                    refine o_pickT (AV.lit (.bool true)) Gd.none rfl rfl rfl ?_
                    refine aops_end ?_
                    refine hK14 _ ?_
                    refine awp_condB (b := true) rfl (fun _ => ?_) (fun hh => absurd (hh.symm.trans rfl) (by decide))
                    refine awp_seq fun K24 hK24 => ?_
                    refine awp_region rfl ?_
                    refine o_as (AV.lit (.bool false)) rfl ?_
                    refine aops_end ?_
                    refine hK24 _ ?_
                    refine awp_ret ?_
                    refine post_ret ⟨[(AV.lit (.bool false))], And.intro (AV.le_refl _) (trivial), rfl, ?_⟩
                    first | exact bpy ⟨by omega, by omega, by omega, by omega, fun x hx => by obtain ⟨k, hk, rfl⟩ := List.getElem_of_mem hx; have := hb k (by omega); rwa [List.getD_eq_getElem?_getD, List.getElem?_eq_getElem hk] at this⟩ | exact bpn (fun o => by obtain ⟨o1, o2, o3, o4, o5⟩ := o; omega) | exact bpn (fun o => by have hx := o.2.2.2.2 _ (gdm (d := default) (show i < m.code.length by omega)); clear hb o; unfold insP plc at hx; omega)
                  · refine o_fieldRef 2 (Gd.yes rfl rfl (decide_eq_false h16)) Ym_tF52_2 rfl rfl ?_
                    refine o_loadS (AV.lit (.int .i64 ((((m.code).getD (i) default)).next))) (Gd.yes rfl rfl (decide_eq_false h16)) Ym_tS3 rfl rfl rfl ?_
                    refine o_move (nm .i64 (m.code.length)) (Gd.yes rfl rfl (decide_eq_false h16)) rfl ?_
                    refine o_gtr (a := ((((m.code).getD (i) default)).next)) (c := (((m.code.length : Nat) : Int))) (Gd.yes rfl rfl (decide_eq_false h16)) rfl rfl ?_
                    refine o_pickF (bp ((((m.code.length : Nat) : Int)) < ((((m.code).getD (i) default)).next))) Gd.none rfl (decide_eq_false h16) rfl ?_
                    refine o_mv (bp ((((m.code.length : Nat) : Int)) < ((((m.code).getD (i) default)).next))) rfl ?_
                    refine o_splitP (q := (((m.code.length : Nat) : Int)) < ((((m.code).getD (i) default)).next)) 66 rfl (fun h17 => ?_) (fun h17 => ?_)
                    · refine o_skip rfl rfl (decide_eq_true h17) ?_
                      refine o_skip rfl rfl (decide_eq_true h17) ?_
                      refine o_skip rfl rfl (decide_eq_true h17) ?_
                      refine o_pickT (AV.lit (.bool true)) Gd.none rfl (decide_eq_true h17) rfl ?_
                      refine o_mv (AV.lit (.bool true)) rfl ?_
                      refine o_skip rfl rfl rfl ?_
                      refine o_skip rfl rfl rfl ?_
                      refine o_skip rfl rfl rfl ?_
                      refine o_skip rfl rfl rfl ?_
                      refine o_pickT (AV.lit (.bool true)) Gd.none rfl rfl rfl ?_
                      refine o_mv (AV.lit (.bool true)) rfl ?_
                      refine o_skip rfl rfl rfl ?_
                      refine o_skip rfl rfl rfl ?_
                      refine o_skip rfl rfl rfl ?_
                      refine o_skip rfl rfl rfl ?_
                      refine o_skipU rfl rfl ?_
                      refine o_skipU rfl rfl ?_
                      refine o_skipU rfl rfl ?_
                      refine o_skip rfl rfl rfl ?_
                      refine o_pickT (AV.lit (.bool true)) Gd.none rfl rfl rfl ?_
                      refine aops_end ?_
                      refine hK14 _ ?_
                      refine awp_condB (b := true) rfl (fun _ => ?_) (fun hh => absurd (hh.symm.trans rfl) (by decide))
                      refine awp_seq fun K25 hK25 => ?_
                      refine awp_region rfl ?_
                      refine o_as (AV.lit (.bool false)) rfl ?_
                      refine aops_end ?_
                      refine hK25 _ ?_
                      refine awp_ret ?_
                      refine post_ret ⟨[(AV.lit (.bool false))], And.intro (AV.le_refl _) (trivial), rfl, ?_⟩
                      first | exact bpy ⟨by omega, by omega, by omega, by omega, fun x hx => by obtain ⟨k, hk, rfl⟩ := List.getElem_of_mem hx; have := hb k (by omega); rwa [List.getD_eq_getElem?_getD, List.getElem?_eq_getElem hk] at this⟩ | exact bpn (fun o => by obtain ⟨o1, o2, o3, o4, o5⟩ := o; omega) | exact bpn (fun o => by have hx := o.2.2.2.2 _ (gdm (d := default) (show i < m.code.length by omega)); clear hb o; unfold insP plc at hx; omega)
                    · refine o_fieldRef 3 (Gd.yes rfl rfl (decide_eq_false h17)) Ym_tF52_3 rfl rfl ?_
                      refine o_loadS (AV.lit (.int .i64 ((((m.code).getD (i) default)).els))) (Gd.yes rfl rfl (decide_eq_false h17)) Ym_tS3 rfl rfl rfl ?_
                      refine o_lss (a := ((((m.code).getD (i) default)).els)) (c := (((0 : Nat) : Int))) (Gd.yes rfl rfl (decide_eq_false h17)) rfl rfl ?_
                      refine o_pickF (bp (((((m.code).getD (i) default)).els) < (((0 : Nat) : Int)))) Gd.none rfl (decide_eq_false h17) rfl ?_
                      refine o_mv (bp (((((m.code).getD (i) default)).els) < (((0 : Nat) : Int)))) rfl ?_
                      refine o_splitP (q := ((((m.code).getD (i) default)).els) < (((0 : Nat) : Int))) 71 rfl (fun h18 => ?_) (fun h18 => ?_)
                      · refine o_skip rfl rfl (decide_eq_true h18) ?_
                        refine o_skip rfl rfl (decide_eq_true h18) ?_
                        refine o_skip rfl rfl (decide_eq_true h18) ?_
                        refine o_skip rfl rfl (decide_eq_true h18) ?_
                        refine o_pickT (AV.lit (.bool true)) Gd.none rfl (decide_eq_true h18) rfl ?_
                        refine o_mv (AV.lit (.bool true)) rfl ?_
                        refine o_skip rfl rfl rfl ?_
                        refine o_skip rfl rfl rfl ?_
                        refine o_skip rfl rfl rfl ?_
                        refine o_skip rfl rfl rfl ?_
                        refine o_skipU rfl rfl ?_
                        refine o_skipU rfl rfl ?_
                        refine o_skipU rfl rfl ?_
                        refine o_skip rfl rfl rfl ?_
                        refine o_pickT (AV.lit (.bool true)) Gd.none rfl rfl rfl ?_
                        refine aops_end ?_
                        refine hK14 _ ?_
                        refine awp_condB (b := true) rfl (fun _ => ?_) (fun hh => absurd (hh.symm.trans rfl) (by decide))
                        refine awp_seq fun K26 hK26 => ?_
                        refine awp_region rfl ?_
                        refine o_as (AV.lit (.bool false)) rfl ?_
                        refine aops_end ?_
                        refine hK26 _ ?_
                        refine awp_ret ?_
                        refine post_ret ⟨[(AV.lit (.bool false))], And.intro (AV.le_refl _) (trivial), rfl, ?_⟩
                        first | exact bpy ⟨by omega, by omega, by omega, by omega, fun x hx => by obtain ⟨k, hk, rfl⟩ := List.getElem_of_mem hx; have := hb k (by omega); rwa [List.getD_eq_getElem?_getD, List.getElem?_eq_getElem hk] at this⟩ | exact bpn (fun o => by obtain ⟨o1, o2, o3, o4, o5⟩ := o; omega) | exact bpn (fun o => by have hx := o.2.2.2.2 _ (gdm (d := default) (show i < m.code.length by omega)); clear hb o; unfold insP plc at hx; omega)
                      · refine o_fieldRef 3 (Gd.yes rfl rfl (decide_eq_false h18)) Ym_tF52_3 rfl rfl ?_
                        refine o_loadS (AV.lit (.int .i64 ((((m.code).getD (i) default)).els))) (Gd.yes rfl rfl (decide_eq_false h18)) Ym_tS3 rfl rfl rfl ?_
                        refine o_move (nm .i64 (m.code.length)) (Gd.yes rfl rfl (decide_eq_false h18)) rfl ?_
                        refine o_gtr (a := ((((m.code).getD (i) default)).els)) (c := (((m.code.length : Nat) : Int))) (Gd.yes rfl rfl (decide_eq_false h18)) rfl rfl ?_
                        refine o_pickF (bp ((((m.code.length : Nat) : Int)) < ((((m.code).getD (i) default)).els))) Gd.none rfl (decide_eq_false h18) rfl ?_
                        refine o_mv (bp ((((m.code.length : Nat) : Int)) < ((((m.code).getD (i) default)).els))) rfl ?_
                        refine o_splitP (q := (((m.code.length : Nat) : Int)) < ((((m.code).getD (i) default)).els)) 77 rfl (fun h19 => ?_) (fun h19 => ?_)
                        · refine o_skip rfl rfl (decide_eq_true h19) ?_
                          refine o_skip rfl rfl (decide_eq_true h19) ?_
                          refine o_skip rfl rfl (decide_eq_true h19) ?_
                          refine o_skip rfl rfl (decide_eq_true h19) ?_
                          refine o_skipU rfl rfl ?_
                          refine o_skipU rfl rfl ?_
                          refine o_skipU rfl rfl ?_
                          refine o_skip rfl rfl (decide_eq_true h19) ?_
                          refine o_pickT (AV.lit (.bool true)) Gd.none rfl (decide_eq_true h19) rfl ?_
                          refine aops_end ?_
                          refine hK14 _ ?_
                          refine awp_condB (b := true) rfl (fun _ => ?_) (fun hh => absurd (hh.symm.trans rfl) (by decide))
                          refine awp_seq fun K27 hK27 => ?_
                          refine awp_region rfl ?_
                          refine o_as (AV.lit (.bool false)) rfl ?_
                          refine aops_end ?_
                          refine hK27 _ ?_
                          refine awp_ret ?_
                          refine post_ret ⟨[(AV.lit (.bool false))], And.intro (AV.le_refl _) (trivial), rfl, ?_⟩
                          first | exact bpy ⟨by omega, by omega, by omega, by omega, fun x hx => by obtain ⟨k, hk, rfl⟩ := List.getElem_of_mem hx; have := hb k (by omega); rwa [List.getD_eq_getElem?_getD, List.getElem?_eq_getElem hk] at this⟩ | exact bpn (fun o => by obtain ⟨o1, o2, o3, o4, o5⟩ := o; omega) | exact bpn (fun o => by have hx := o.2.2.2.2 _ (gdm (d := default) (show i < m.code.length by omega)); clear hb o; unfold insP plc at hx; omega)
                        · refine o_fieldRef 0 (Gd.yes rfl rfl (decide_eq_false h19)) Ym_tF52_0 rfl rfl ?_
                          refine o_loadS (AV.lit (.int .i64 ((((m.code).getD (i) default)).kind))) (Gd.yes rfl rfl (decide_eq_false h19)) Ym_tS3 rfl rfl rfl ?_
                          refine o_eql (a := ((((m.code).getD (i) default)).kind)) (c := (((0 : Nat) : Int))) (Gd.yes rfl rfl (decide_eq_false h19)) rfl rfl ?_
                          refine o_move (bp (((((m.code).getD (i) default)).kind) = (((0 : Nat) : Int)))) (Gd.yes rfl rfl (decide_eq_false h19)) rfl ?_
                          refine o_fieldRef 3 (Gd.yes rfl rfl (decide_eq_true (Decidable.not_not.1 h6))) Ym_tF52_3 rfl rfl ?_
                          refine o_loadS (AV.lit (.int .i64 ((((m.code).getD (i) default)).els))) (Gd.yes rfl rfl (decide_eq_true (Decidable.not_not.1 h6))) Ym_tS3 rfl rfl rfl ?_
                          refine o_neq (a := ((((m.code).getD (i) default)).els)) (c := (((0 : Nat) : Int))) (Gd.yes rfl rfl (decide_eq_true (Decidable.not_not.1 h6))) rfl rfl ?_
                          refine o_pickT (bp (((((m.code).getD (i) default)).els) ≠ (((0 : Nat) : Int)))) (Gd.yes rfl rfl (decide_eq_false h19)) rfl (decide_eq_true (Decidable.not_not.1 h6)) rfl ?_
                          refine o_pickF (bp (((((m.code).getD (i) default)).els) ≠ (((0 : Nat) : Int)))) Gd.none rfl (decide_eq_false h19) rfl ?_
                          refine aops_end ?_
                          refine hK14 _ ?_
                          refine awp_condQ (q := ((((m.code).getD (i) default)).els) ≠ (((0 : Nat) : Int))) rfl (fun h20 => ?_) (fun h20 => ?_)
                          · refine awp_seq fun K28 hK28 => ?_
                            refine awp_region rfl ?_
                            refine o_as (AV.lit (.bool false)) rfl ?_
                            refine aops_end ?_
                            refine hK28 _ ?_
                            refine awp_ret ?_
                            refine post_ret ⟨[(AV.lit (.bool false))], And.intro (AV.le_refl _) (trivial), rfl, ?_⟩
                            first | exact bpy ⟨by omega, by omega, by omega, by omega, fun x hx => by obtain ⟨k, hk, rfl⟩ := List.getElem_of_mem hx; have := hb k (by omega); rwa [List.getD_eq_getElem?_getD, List.getElem?_eq_getElem hk] at this⟩ | exact bpn (fun o => by obtain ⟨o1, o2, o3, o4, o5⟩ := o; omega) | exact bpn (fun o => by have hx := o.2.2.2.2 _ (gdm (d := default) (show i < m.code.length by omega)); clear hb o; unfold insP plc at hx; omega)
                          · refine awp_skip ?_
                            refine hK12 _ ?_
                            refine awp_region rfl ?_
                            refine o_mv (nm .i64 (i)) rfl ?_
                            refine n_add (i) (1) Gd.none rfl rfl (by simp only [topOf]; omega) ?_
                            refine o_as (nm .i64 ((i) + (1))) rfl ?_
                            refine aops_end ?_
                            refine ⟨_, _, ?lt, ⟨i + 1, (by omega), (fun k hk => by rcases Nat.lt_or_ge k i with e | e; exact hb k e; rw [show k = i by omega]; clear hb; unfold insP plc; omega), rfl, rfl⟩, ?wk⟩
                            case lt => omega
                            case wk => exact Wk.sub (And.intro rfl (And.intro rfl (And.intro (by first | rfl | exact congrArg (nm _) (by omega) | exact nm_int (by omega) | exact nm_int (by simp [IntKind.wrap, IntKind.bits, IntKind.signed]; omega)) (trivial)))) (And.intro rfl (trivial))
          · refine awp_exit ?_
            refine hK8 _ ?_
            refine awp_seq fun K29 hK29 => ?_
            refine awp_region rfl ?_
            refine o_as (AV.lit (.bool true)) rfl ?_
            refine aops_end ?_
            refine hK29 _ ?_
            refine awp_ret ?_
            refine post_ret ⟨[(AV.lit (.bool true))], And.intro (AV.le_refl _) (trivial), rfl, ?_⟩
            first | exact bpy ⟨by omega, by omega, by omega, by omega, fun x hx => by obtain ⟨k, hk, rfl⟩ := List.getElem_of_mem hx; have := hb k (by omega); rwa [List.getD_eq_getElem?_getD, List.getElem?_eq_getElem hk] at this⟩ | exact bpn (fun o => by obtain ⟨o1, o2, o3, o4, o5⟩ := o; omega) | exact bpn (fun o => by have hx := o.2.2.2.2 _ (gdm (d := default) (show i < m.code.length by omega)); clear hb o; unfold insP plc at hx; omega)

end Go.Proofs.YtpamhblonmpniaaDoor

set_option linter.unusedVariables false
set_option linter.unusedSimpArgs false
namespace Go.Mth
open Go Go.Ab
def insAt (m : Mac) (c : Cfg) : Ins := m.code.getD c.at'.toNat default
def regAt (m : Mac) (c : Cfg) : Int := c.regs.getD (insAt m c).reg.toNat 0
def stpE (m : Mac) (c : Cfg) : Nat := if c.at' = (m.code.length : Int) then 6 else if (insAt m c).kind = 0 ∧ regAt m c = 1000 then 3 else 0
def stpC (m : Mac) (c : Cfg) : Cfg := if (insAt m c).kind = 0 then ⟨(insAt m c).next, c.regs.set (insAt m c).reg.toNat (regAt m c + 1)⟩ else if 0 < regAt m c then ⟨(insAt m c).next, c.regs.set (insAt m c).reg.toNat (regAt m c - 1)⟩ else ⟨(insAt m c).els, c.regs⟩
def resC (m : Mac) (c : Cfg) : Cfg := if stpE m c = 0 then stpC m c else ⟨0, []⟩
def nxC (m : Mac) (c : Cfg) : Cfg := if stpE m c = 0 then stpC m c else c
theorem okC_at {m : Mac} {c : Cfg} (h : okCfg m c) (hn : ¬ c.at' = (m.code.length : Int)) : c.at'.toNat < m.code.length ∧ insP m (insAt m c) ∧ (insAt m c).reg.toNat < c.regs.length ∧ 0 ≤ regAt m c ∧ regAt m c ≤ 1000 := by
  obtain ⟨hM, h1, h2, h3⟩ := h
  unfold plc at h1
  have hi : c.at'.toNat < m.code.length := by omega
  have hx : insP m (insAt m c) := hM.2.2.2.2 _ (gdm hi)
  have hr : (insAt m c).reg.toNat < c.regs.length := by obtain ⟨⟨a, b, _⟩, _⟩ := hx; omega
  have hg := h3 _ (gdm (d := 0) hr)
  exact ⟨hi, hx, hr, hg.1, hg.2⟩
theorem mem_set {l : List Int} {i : Nat} {v : Int} {p : Int → Prop} (h : ∀ x ∈ l, p x) (hv : p v) : ∀ x ∈ l.set i v, p x := fun x hx => by
  rcases List.mem_or_eq_of_mem_set hx with h1 | h1
  · exact h x h1
  · rw [h1]; exact hv
theorem stp_ok {m : Mac} {c : Cfg} (h : okCfg m c) (he : stpE m c = 0) : okCfg m (stpC m c) := by
  have hn : ¬ c.at' = (m.code.length : Int) := fun e => by unfold stpE at he; rw [if_pos e] at he; cases he
  obtain ⟨a1, a2, a3, a4, a5⟩ := okC_at h hn
  have hk : ¬ ((insAt m c).kind = 0 ∧ regAt m c = 1000) := fun e => by unfold stpE at he; rw [if_neg hn, if_pos e] at he; cases he
  obtain ⟨hM, h1, h2, h3⟩ := h
  obtain ⟨⟨b1, b2, b3⟩, b4⟩ := a2
  unfold stpC
  split
  · rename_i k0
    exact ⟨hM, b3, by simp only [List.length_set]; exact h2, mem_set h3 ⟨by omega, by omega⟩⟩
  · rename_i k0
    split
    · exact ⟨hM, b3, by simp only [List.length_set]; exact h2, mem_set h3 ⟨by omega, by omega⟩⟩
    · exact ⟨hM, b4.elim (fun e => absurd e.1 k0) (fun e => e.2), h2, h3⟩
theorem getD_set {l : List Int} {i : Nat} {v : Int} (h : i < l.length) : (l.set i v).getD i 0 = v := by
  rw [List.getD_eq_getElem?_getD, List.getElem?_set_self h]; rfl
section
variable {m : Mac} {c : Cfg}
theorem stp_e (h : c.at' = (m.code.length : Int)) : stpE m c = 6 := if_pos h
theorem stp_d (h : ¬ c.at' = (m.code.length : Int)) (k : (insAt m c).kind = 0) (g : regAt m c = 1000) : stpE m c = 3 := (if_neg h).trans (if_pos ⟨k, g⟩)
theorem stp_a (h : ¬ c.at' = (m.code.length : Int)) (k : (insAt m c).kind = 0) (g : ¬ regAt m c = 1000) : stpE m c = 0 ∧ stpC m c = ⟨(insAt m c).next, c.regs.set (insAt m c).reg.toNat (regAt m c + 1)⟩ := ⟨(if_neg h).trans (if_neg fun e => g e.2), if_pos k⟩
theorem stp_b (h : ¬ c.at' = (m.code.length : Int)) (k : ¬ (insAt m c).kind = 0) (g : 0 < regAt m c) : stpE m c = 0 ∧ stpC m c = ⟨(insAt m c).next, c.regs.set (insAt m c).reg.toNat (regAt m c - 1)⟩ := ⟨(if_neg h).trans (if_neg fun e => k e.1), (if_neg k).trans (if_pos g)⟩
theorem stp_c (h : ¬ c.at' = (m.code.length : Int)) (k : ¬ (insAt m c).kind = 0) (g : ¬ 0 < regAt m c) : stpE m c = 0 ∧ stpC m c = ⟨(insAt m c).els, c.regs⟩ := ⟨(if_neg h).trans (if_neg fun e => k e.1), (if_neg k).trans (if_neg g)⟩
theorem resC_0 (h : stpE m c = 0) : resC m c = stpC m c := if_pos h
theorem resC_1 (h : stpE m c ≠ 0) : resC m c = ⟨0, []⟩ := if_neg h
theorem nxC_0 (h : stpE m c = 0) : nxC m c = stpC m c := if_pos h
theorem nxC_1 (h : stpE m c ≠ 0) : nxC m c = c := if_neg h
end
noncomputable def stA (m : Mac) (c : Cfg) : Cfg := if okCfg m c then resC m c else ⟨0, []⟩
noncomputable def stAE (m : Mac) (c : Cfg) : Nat := if okCfg m c then stpE m c else 1
def rnm (m : Mac) : Nat → Cfg → Nat → Cfg × Nat × Nat
  | 0, c, i => (c, i, 0)
  | k + 1, c, i => if stpE m c = 6 then (c, i, 0) else if stpE m c = 0 then rnm m k (stpC m c) (i + 1) else (⟨0, []⟩, 0, stpE m c)
noncomputable def rnA (m : Mac) (c : Cfg) (k : Int) : Cfg × Nat × Nat := if okCfg m c then (if 0 ≤ k ∧ k ≤ 20000 then rnm m k.toNat c 0 else (⟨0, []⟩, 0, 2)) else (⟨0, []⟩, 0, 1)
def zC : Cfg := ⟨0, []⟩
theorem stpE_0 {m : Mac} {c : Cfg} (h : ¬ stpE m c = 3) (h6 : ¬ stpE m c = 6) : stpE m c = 0 := Decidable.byContradiction fun e => h (by
  unfold stpE at e h6 ⊢
  by_cases a : c.at' = (m.code.length : Int)
  · rw [if_pos a] at h6; exact absurd rfl h6
  · rw [if_neg a] at e ⊢
    by_cases b : (insAt m c).kind = 0 ∧ regAt m c = 1000
    · rw [if_pos b]
    · rw [if_neg b] at e; exact absurd rfl e)
end Go.Mth

set_option linter.unusedVariables false
set_option linter.unusedSimpArgs false
namespace Go.Proofs.YtpamhblonmpniaaDoor
open Go Go.Ab Go.Mth
theorem Yo_tA24 : tyAgg cx.P 24 = some 2 := by kernel_rfl
theorem Yo_tC14 : callable cx.P 14 = true := by kernel_rfl
theorem Yo_tF27_0 : tyField cx.P 27 0 = some (0, 3) := by kernel_rfl
theorem Yo_tS3 : tySc cx.P 3 = true := by kernel_rfl
theorem Yo_tF24_1 : tyField cx.P 24 1 = some (1, 22) := by kernel_rfl
theorem Yo_tS22 : tySc cx.P 22 = true := by kernel_rfl
theorem Yo_tU22 : cx.P.underlying 22 = some (.slice 52) := by kernel_rfl
theorem Yo_tF27_1 : tyField cx.P 27 1 = some (1, 25) := by kernel_rfl
theorem Yo_tS25 : tySc cx.P 25 = true := by kernel_rfl
theorem Yo_tU25 : cx.P.underlying 25 = some (.slice 3) := by kernel_rfl
theorem Yo_tF24_0 : tyField cx.P 24 0 = some (0, 3) := by kernel_rfl
theorem Yo_tE25 : tyElem cx.P 25 = some (3, 1, 8) := by kernel_rfl
theorem c_vFits (m : Mac) (c : Cfg) : ECalls cx 5 [(macV m), (cfgV c)] (bp (okCfg m c)) := by
  refine ecalls_of_awp Tryd.func5 (c := _) rfl (Nat.le_of_ble_eq_true rfl) ?_
  show awp cx 51 _ (postF cx Tryd.f5 _) ⟨[(0, (macV m)), (1, (cfgV c))], []⟩
  refine awp_seq fun K0 hK0 => ?_
  refine awp_region rfl ?_
  refine o_box 2 [(AV.lit (.int .i64 (m.regs))), (AV.sl 4 (gcells cI (m.code)))] Gd.none rfl rfl ?_
  refine o_box 3 [(AV.lit (.int .i64 (c.at'))), (AV.sl 1 (is .i64 (c.regs)))] Gd.none rfl rfl ?_
  refine o_as (AV.lit (.bool false)) rfl ?_
  refine aops_end ?_
  refine hK0 _ ?_
  refine awp_seq fun K1 hK1 => ?_
  refine awp_seq fun K2 hK2 => ?_
  refine awp_region rfl ?_
  refine o_loadA [(AV.lit (.int .i64 (m.regs))), (AV.sl 4 (gcells cI (m.code)))] Gd.none Yo_tA24 rfl rfl rfl rfl rfl ?_
  refine o_ct (c_vValid m) Gd.none Yo_tC14 rfl ?_
  refine o_notP (q := okMac m) Gd.none rfl ?_
  refine o_mv (bp (¬ (okMac m))) rfl ?_
  refine o_splitP (q := ¬ (okMac m)) 9 rfl (fun h1 => ?_) (fun h1 => ?_)
  · refine o_skip rfl rfl (decide_eq_true h1) ?_
    refine o_skip rfl rfl (decide_eq_true h1) ?_
    refine o_skip rfl rfl (decide_eq_true h1) ?_
    refine o_pickT (AV.lit (.bool true)) Gd.none rfl (decide_eq_true h1) rfl ?_
    refine o_mv (AV.lit (.bool true)) rfl ?_
    refine o_skip rfl rfl rfl ?_
    refine o_skip rfl rfl rfl ?_
    refine o_skip rfl rfl rfl ?_
    refine o_skip rfl rfl rfl ?_
    refine o_skip rfl rfl rfl ?_
    refine o_skip rfl rfl rfl ?_
    refine o_pickT (AV.lit (.bool true)) Gd.none rfl rfl rfl ?_
    refine o_mv (AV.lit (.bool true)) rfl ?_
    refine o_skip rfl rfl rfl ?_
    refine o_skip rfl rfl rfl ?_
    refine o_skip rfl rfl rfl ?_
    refine o_skip rfl rfl rfl ?_
    refine o_skip rfl rfl rfl ?_
    refine o_skip rfl rfl rfl ?_
    refine o_pickT (AV.lit (.bool true)) Gd.none rfl rfl rfl ?_
    refine aops_end ?_
    refine hK2 _ ?_
    refine awp_condB (b := true) rfl (fun _ => ?_) (fun hh => absurd (hh.symm.trans rfl) (by decide))
    refine awp_seq fun K3 hK3 => ?_
    refine awp_region rfl ?_
    refine o_as (AV.lit (.bool false)) rfl ?_
    refine aops_end ?_
    refine hK3 _ ?_
    refine awp_ret ?_
    refine post_ret ⟨[(AV.lit (.bool false))], And.intro (AV.le_refl _) (trivial), rfl, ?_⟩
    first | exact bpn (fun o => absurd o.1 (by assumption)) | exact bpn (fun o => by have q := o.2.1; unfold plc at q; omega) | exact bpn (fun o => by have q := o.2.2.1; omega) | exact bpn (fun o => by have q := o.2.2.2 _ (gdm (d := 0) (show i < c.regs.length by omega)); unfold regP at q; omega) | exact bpy ⟨hM, ⟨by omega, by omega⟩, by omega, fun x hx => by obtain ⟨k, hk, rfl⟩ := List.getElem_of_mem hx; have := hb k (by omega); rwa [List.getD_eq_getElem?_getD, List.getElem?_eq_getElem hk] at this⟩
  · refine o_fieldRef 0 (Gd.yes rfl rfl (decide_eq_false h1)) Yo_tF27_0 rfl rfl ?_
    refine o_loadS (AV.lit (.int .i64 (c.at'))) (Gd.yes rfl rfl (decide_eq_false h1)) Yo_tS3 rfl rfl rfl ?_
    refine o_lss (a := (c.at')) (c := (((0 : Nat) : Int))) (Gd.yes rfl rfl (decide_eq_false h1)) rfl rfl ?_
    refine o_pickF (bp ((c.at') < (((0 : Nat) : Int)))) Gd.none rfl (decide_eq_false h1) rfl ?_
    refine o_mv (bp ((c.at') < (((0 : Nat) : Int)))) rfl ?_
    refine o_splitP (q := (c.at') < (((0 : Nat) : Int))) 14 rfl (fun h2 => ?_) (fun h2 => ?_)
    · refine o_skip rfl rfl (decide_eq_true h2) ?_
      refine o_skip rfl rfl (decide_eq_true h2) ?_
      refine o_skip rfl rfl (decide_eq_true h2) ?_
      refine o_skip rfl rfl (decide_eq_true h2) ?_
      refine o_skip rfl rfl (decide_eq_true h2) ?_
      refine o_skip rfl rfl (decide_eq_true h2) ?_
      refine o_pickT (AV.lit (.bool true)) Gd.none rfl (decide_eq_true h2) rfl ?_
      refine o_mv (AV.lit (.bool true)) rfl ?_
      refine o_skip rfl rfl rfl ?_
      refine o_skip rfl rfl rfl ?_
      refine o_skip rfl rfl rfl ?_
      refine o_skip rfl rfl rfl ?_
      refine o_skip rfl rfl rfl ?_
      refine o_skip rfl rfl rfl ?_
      refine o_pickT (AV.lit (.bool true)) Gd.none rfl rfl rfl ?_
      refine aops_end ?_
      refine hK2 _ ?_
      refine awp_condB (b := true) rfl (fun _ => ?_) (fun hh => absurd (hh.symm.trans rfl) (by decide))
      refine awp_seq fun K4 hK4 => ?_
      refine awp_region rfl ?_
      refine o_as (AV.lit (.bool false)) rfl ?_
      refine aops_end ?_
      refine hK4 _ ?_
      refine awp_ret ?_
      refine post_ret ⟨[(AV.lit (.bool false))], And.intro (AV.le_refl _) (trivial), rfl, ?_⟩
      first | exact bpn (fun o => absurd o.1 (by assumption)) | exact bpn (fun o => by have q := o.2.1; unfold plc at q; omega) | exact bpn (fun o => by have q := o.2.2.1; omega) | exact bpn (fun o => by have q := o.2.2.2 _ (gdm (d := 0) (show i < c.regs.length by omega)); unfold regP at q; omega) | exact bpy ⟨hM, ⟨by omega, by omega⟩, by omega, fun x hx => by obtain ⟨k, hk, rfl⟩ := List.getElem_of_mem hx; have := hb k (by omega); rwa [List.getD_eq_getElem?_getD, List.getElem?_eq_getElem hk] at this⟩
    · refine o_fieldRef 0 (Gd.yes rfl rfl (decide_eq_false h2)) Yo_tF27_0 rfl rfl ?_
      refine o_loadS (AV.lit (.int .i64 (c.at'))) (Gd.yes rfl rfl (decide_eq_false h2)) Yo_tS3 rfl rfl rfl ?_
      refine o_fieldRef 1 (Gd.yes rfl rfl (decide_eq_false h2)) Yo_tF24_1 rfl rfl ?_
      refine o_loadS (AV.sl 4 (gcells cI (m.code))) (Gd.yes rfl rfl (decide_eq_false h2)) Yo_tS22 rfl rfl rfl ?_
      refine g_len cI (m.code) cI_len (Gd.yes rfl rfl (decide_eq_false h2)) Yo_tU22 rfl ?_
      refine o_gtr (a := (c.at')) (c := ((((m.code).length : Nat) : Int))) (Gd.yes rfl rfl (decide_eq_false h2)) rfl rfl ?_
      refine o_pickF (bp (((((m.code).length : Nat) : Int)) < (c.at'))) Gd.none rfl (decide_eq_false h2) rfl ?_
      refine o_mv (bp (((((m.code).length : Nat) : Int)) < (c.at'))) rfl ?_
      refine o_splitP (q := ((((m.code).length : Nat) : Int)) < (c.at')) 22 rfl (fun h3 => ?_) (fun h3 => ?_)
      · refine o_skip rfl rfl (decide_eq_true h3) ?_
        refine o_skip rfl rfl (decide_eq_true h3) ?_
        refine o_skip rfl rfl (decide_eq_true h3) ?_
        refine o_skip rfl rfl (decide_eq_true h3) ?_
        refine o_skip rfl rfl (decide_eq_true h3) ?_
        refine o_skip rfl rfl (decide_eq_true h3) ?_
        refine o_pickT (AV.lit (.bool true)) Gd.none rfl (decide_eq_true h3) rfl ?_
        refine aops_end ?_
        refine hK2 _ ?_
        refine awp_condB (b := true) rfl (fun _ => ?_) (fun hh => absurd (hh.symm.trans rfl) (by decide))
        refine awp_seq fun K5 hK5 => ?_
        refine awp_region rfl ?_
        refine o_as (AV.lit (.bool false)) rfl ?_
        refine aops_end ?_
        refine hK5 _ ?_
        refine awp_ret ?_
        refine post_ret ⟨[(AV.lit (.bool false))], And.intro (AV.le_refl _) (trivial), rfl, ?_⟩
        first | exact bpn (fun o => absurd o.1 (by assumption)) | exact bpn (fun o => by have q := o.2.1; unfold plc at q; omega) | exact bpn (fun o => by have q := o.2.2.1; omega) | exact bpn (fun o => by have q := o.2.2.2 _ (gdm (d := 0) (show i < c.regs.length by omega)); unfold regP at q; omega) | exact bpy ⟨hM, ⟨by omega, by omega⟩, by omega, fun x hx => by obtain ⟨k, hk, rfl⟩ := List.getElem_of_mem hx; have := hb k (by omega); rwa [List.getD_eq_getElem?_getD, List.getElem?_eq_getElem hk] at this⟩
      · refine o_fieldRef 1 (Gd.yes rfl rfl (decide_eq_false h3)) Yo_tF27_1 rfl rfl ?_
        refine o_loadS (AV.sl 1 (is .i64 (c.regs))) (Gd.yes rfl rfl (decide_eq_false h3)) Yo_tS25 rfl rfl rfl ?_
        refine i_len (c.regs) (Gd.yes rfl rfl (decide_eq_false h3)) Yo_tU25 rfl ?_
        refine o_fieldRef 0 (Gd.yes rfl rfl (decide_eq_false h3)) Yo_tF24_0 rfl rfl ?_
        refine o_loadS (AV.lit (.int .i64 (m.regs))) (Gd.yes rfl rfl (decide_eq_false h3)) Yo_tS3 rfl rfl rfl ?_
        refine o_neq (a := ((((c.regs).length : Nat) : Int))) (c := (m.regs)) (Gd.yes rfl rfl (decide_eq_false h3)) rfl rfl ?_
        refine o_pickF (bp (((((c.regs).length : Nat) : Int)) ≠ (m.regs))) Gd.none rfl (decide_eq_false h3) rfl ?_
        refine aops_end ?_
        refine hK2 _ ?_
        refine awp_condQ (q := ((((c.regs).length : Nat) : Int)) ≠ (m.regs)) rfl (fun h4 => ?_) (fun h4 => ?_)
        · refine awp_seq fun K6 hK6 => ?_
          refine awp_region rfl ?_
          refine o_as (AV.lit (.bool false)) rfl ?_
          refine aops_end ?_
          refine hK6 _ ?_
          refine awp_ret ?_
          refine post_ret ⟨[(AV.lit (.bool false))], And.intro (AV.le_refl _) (trivial), rfl, ?_⟩
          first | exact bpn (fun o => absurd o.1 (by assumption)) | exact bpn (fun o => by have q := o.2.1; unfold plc at q; omega) | exact bpn (fun o => by have q := o.2.2.1; omega) | exact bpn (fun o => by have q := o.2.2.2 _ (gdm (d := 0) (show i < c.regs.length by omega)); unfold regP at q; omega) | exact bpy ⟨hM, ⟨by omega, by omega⟩, by omega, fun x hx => by obtain ⟨k, hk, rfl⟩ := List.getElem_of_mem hx; have := hb k (by omega); rwa [List.getD_eq_getElem?_getD, List.getElem?_eq_getElem hk] at this⟩
        · refine awp_skip ?_
          refine hK1 _ ?_
          refine awp_seq fun K7 hK7 => ?_
          refine awp_seq fun K8 hK8 => ?_
          refine awp_region rfl ?_
          refine o_as (nm .i64 (0)) rfl ?_
          refine aops_end ?_
          refine hK8 _ ?_
          refine awp_block ?_
          refine awp_loopR (fun κ σ => ∃ (i : Nat), (i ≤ c.regs.length) ∧ (∀ k, k < i → regP (c.regs.getD k 0)) ∧ (c.regs.length - i) = κ ∧ σ = ⟨[(2, (AV.ref 2 (0))), (3, (AV.ref 3 (0))), (5, (nm .i64 (i)))], [(2, (AO.var 24 [(AV.lit (.int .i64 (m.regs))), (AV.sl 4 (gcells cI (m.code)))])), (3, (AO.var 27 [(AV.lit (.int .i64 (c.at'))), (AV.sl 1 (is .i64 (c.regs)))]))]⟩) ⟨_, _, ⟨0, (by omega), (fun k hk => by omega), rfl, rfl⟩, ?wk0⟩ ?rd0
          case wk0 =>
            exact Wk.sub (And.intro rfl (And.intro rfl (And.intro (by first | rfl | exact congrArg (nm _) (by omega) | exact nm_int (by omega) | exact nm_int (by simp [IntKind.wrap, IntKind.bits, IntKind.signed]; omega)) (trivial)))) (And.intro rfl (And.intro rfl (trivial)))
          rintro κ _ ⟨i, hi, hb, rfl, rfl⟩
          have hM : okMac m := Decidable.not_not.1 h1
          have hM2 := hM
          obtain ⟨o1, o2, o3, o4, o5⟩ := hM2
          refine awp_seq fun K9 hK9 => ?_
          refine awp_seq fun K10 hK10 => ?_
          refine awp_region rfl ?_
          refine o_mv (nm .i64 (i)) rfl ?_
          refine o_fieldRef 1 Gd.none Yo_tF27_1 rfl rfl ?_
          refine o_loadS (AV.sl 1 (is .i64 (c.regs))) Gd.none Yo_tS25 rfl rfl rfl ?_
          refine i_len (c.regs) Gd.none Yo_tU25 rfl ?_
          refine n_lss (i) ((c.regs).length) Gd.none rfl rfl ?_
          refine aops_end ?_
          refine hK10 _ ?_
          refine awp_condQ (q := (i) < ((c.regs).length)) rfl (fun h5 => ?_) (fun h5 => ?_)
          · refine awp_skip ?_
            refine hK9 _ ?_
            refine awp_seq fun K11 hK11 => ?_
            refine awp_block ?_
            refine awp_seq fun K12 hK12 => ?_
            refine awp_region rfl ?_
            refine o_fieldRef 1 Gd.none Yo_tF27_1 rfl rfl ?_
            refine o_loadS (AV.sl 1 (is .i64 (c.regs))) Gd.none Yo_tS25 rfl rfl rfl ?_
            refine o_mv (nm .i64 (i)) rfl ?_
            refine i_index (c.regs) (i) Gd.none Yo_tE25 rfl rfl (by omega) ?_
            refine i_loadI (c.regs) (i) Gd.none Yo_tS3 rfl (by omega) ?_
            refine o_lss (a := ((c.regs).getD (i) 0)) (c := (((0 : Nat) : Int))) Gd.none rfl rfl ?_
            refine o_mv (bp (((c.regs).getD (i) 0) < (((0 : Nat) : Int)))) rfl ?_
            refine o_splitP (q := ((c.regs).getD (i) 0) < (((0 : Nat) : Int))) 43 rfl (fun h6 => ?_) (fun h6 => ?_)
            · refine o_skip rfl rfl (decide_eq_true h6) ?_
              refine o_skip rfl rfl (decide_eq_true h6) ?_
              refine o_skip rfl rfl (decide_eq_true h6) ?_
              refine o_skip rfl rfl (decide_eq_true h6) ?_
              refine o_skip rfl rfl (decide_eq_true h6) ?_
              refine o_skip rfl rfl (decide_eq_true h6) ?_
              refine o_pickT (AV.lit (.bool true)) Gd.none rfl (decide_eq_true h6) rfl ?_
              refine aops_end ?_
              refine hK12 _ ?_
              refine awp_condB (b := true) rfl (fun _ => ?_) (fun hh => absurd (hh.symm.trans rfl) (by decide))
              refine awp_seq fun K13 hK13 => ?_
              refine awp_region rfl ?_
              refine o_as (AV.lit (.bool false)) rfl ?_
              refine aops_end ?_
              refine hK13 _ ?_
              refine awp_ret ?_
              refine post_ret ⟨[(AV.lit (.bool false))], And.intro (AV.le_refl _) (trivial), rfl, ?_⟩
              first | exact bpn (fun o => absurd o.1 (by assumption)) | exact bpn (fun o => by have q := o.2.1; unfold plc at q; omega) | exact bpn (fun o => by have q := o.2.2.1; omega) | exact bpn (fun o => by have q := o.2.2.2 _ (gdm (d := 0) (show i < c.regs.length by omega)); unfold regP at q; omega) | exact bpy ⟨hM, ⟨by omega, by omega⟩, by omega, fun x hx => by obtain ⟨k, hk, rfl⟩ := List.getElem_of_mem hx; have := hb k (by omega); rwa [List.getD_eq_getElem?_getD, List.getElem?_eq_getElem hk] at this⟩
            · refine o_fieldRef 1 (Gd.yes rfl rfl (decide_eq_false h6)) Yo_tF27_1 rfl rfl ?_
              refine o_loadS (AV.sl 1 (is .i64 (c.regs))) (Gd.yes rfl rfl (decide_eq_false h6)) Yo_tS25 rfl rfl rfl ?_
              refine o_move (nm .i64 (i)) (Gd.yes rfl rfl (decide_eq_false h6)) rfl ?_
              refine i_index (c.regs) (i) (Gd.yes rfl rfl (decide_eq_false h6)) Yo_tE25 rfl rfl (by omega) ?_
              refine i_loadI (c.regs) (i) (Gd.yes rfl rfl (decide_eq_false h6)) Yo_tS3 rfl (by omega) ?_
              refine o_gtr (a := ((c.regs).getD (i) 0)) (c := (((1000 : Nat) : Int))) (Gd.yes rfl rfl (decide_eq_false h6)) rfl rfl ?_
              refine o_pickF (bp ((((1000 : Nat) : Int)) < ((c.regs).getD (i) 0))) Gd.none rfl (decide_eq_false h6) rfl ?_
              refine aops_end ?_
              refine hK12 _ ?_
              refine awp_condQ (q := (((1000 : Nat) : Int)) < ((c.regs).getD (i) 0)) rfl (fun h7 => ?_) (fun h7 => ?_)
              · refine awp_seq fun K14 hK14 => ?_
                refine awp_region rfl ?_
                refine o_as (AV.lit (.bool false)) rfl ?_
                refine aops_end ?_
                refine hK14 _ ?_
                refine awp_ret ?_
                refine post_ret ⟨[(AV.lit (.bool false))], And.intro (AV.le_refl _) (trivial), rfl, ?_⟩
                first | exact bpn (fun o => absurd o.1 (by assumption)) | exact bpn (fun o => by have q := o.2.1; unfold plc at q; omega) | exact bpn (fun o => by have q := o.2.2.1; omega) | exact bpn (fun o => by have q := o.2.2.2 _ (gdm (d := 0) (show i < c.regs.length by omega)); unfold regP at q; omega) | exact bpy ⟨hM, ⟨by omega, by omega⟩, by omega, fun x hx => by obtain ⟨k, hk, rfl⟩ := List.getElem_of_mem hx; have := hb k (by omega); rwa [List.getD_eq_getElem?_getD, List.getElem?_eq_getElem hk] at this⟩
              · refine awp_skip ?_
                refine hK11 _ ?_
                refine awp_region rfl ?_
                refine o_mv (nm .i64 (i)) rfl ?_
                refine n_add (i) (1) Gd.none rfl rfl (by simp only [topOf]; omega) ?_
                refine o_as (nm .i64 ((i) + (1))) rfl ?_
                refine aops_end ?_
                refine ⟨_, _, ?lt, ⟨i + 1, (by omega), (fun k hk => by rcases Nat.lt_or_ge k i with e | e; exact hb k e; rw [show k = i by omega]; exact ⟨by omega, by omega⟩), rfl, rfl⟩, ?wk⟩
                case lt => omega
                case wk => exact Wk.sub (And.intro rfl (And.intro rfl (And.intro (by first | rfl | exact congrArg (nm _) (by omega) | exact nm_int (by omega) | exact nm_int (by simp [IntKind.wrap, IntKind.bits, IntKind.signed]; omega)) (trivial)))) (And.intro rfl (And.intro rfl (trivial)))
          · refine awp_exit ?_
            refine hK7 _ ?_
            refine awp_seq fun K15 hK15 => ?_
            refine awp_region rfl ?_
            refine o_as (AV.lit (.bool true)) rfl ?_
            refine aops_end ?_
            refine hK15 _ ?_
            refine awp_ret ?_
            refine post_ret ⟨[(AV.lit (.bool true))], And.intro (AV.le_refl _) (trivial), rfl, ?_⟩
            first | exact bpn (fun o => absurd o.1 (by assumption)) | exact bpn (fun o => by have q := o.2.1; unfold plc at q; omega) | exact bpn (fun o => by have q := o.2.2.1; omega) | exact bpn (fun o => by have q := o.2.2.2 _ (gdm (d := 0) (show i < c.regs.length by omega)); unfold regP at q; omega) | exact bpy ⟨hM, ⟨by omega, by omega⟩, by omega, fun x hx => by obtain ⟨k, hk, rfl⟩ := List.getElem_of_mem hx; have := hb k (by omega); rwa [List.getD_eq_getElem?_getD, List.getElem?_eq_getElem hk] at this⟩

end Go.Proofs.YtpamhblonmpniaaDoor

set_option linter.unusedVariables false
set_option linter.unusedSimpArgs false
namespace Go.Proofs.YtpamhblonmpniaaDoor
open Go Go.Ab Go.Mth
theorem Yq_tU25 : cx.P.underlying 25 = some (.slice 3) := by kernel_rfl
theorem Yq_tE25 : tyElem cx.P 25 = some (3, 1, 8) := by kernel_rfl
theorem Yq_tO3 : tyZero cx.P 3 = some [(Go.Value.int IntKind.i64 0)] := by kernel_rfl
theorem Yq_tO27 : tyZero cx.P 27 = some [(Go.Value.int IntKind.i64 0), (Go.Value.slice none 0 0)] := by kernel_rfl
theorem Yq_tA24 : tyAgg cx.P 24 = some 2 := by kernel_rfl
theorem Yq_tA27 : tyAgg cx.P 27 = some 2 := by kernel_rfl
theorem Yq_tC22 : callable cx.P 22 = true := by kernel_rfl
theorem Yq_tP27 : tyPlaces cx.P 27 = some (fun i => (#[(0, 1), (1, 1)] : Array (Nat × Nat))[i]?) := by kernel_rfl
theorem Yq_tZ27 : tySize cx.P 27 = some 2 := by kernel_rfl
theorem Yq_tC26 : callable cx.P 26 = true := by kernel_rfl
theorem Yq_tF27_1 : tyField cx.P 27 1 = some (1, 25) := by kernel_rfl
theorem Yq_tS25 : tySc cx.P 25 = true := by kernel_rfl
theorem Yq_tC47 : callable cx.P 47 = true := by kernel_rfl
theorem Yq_tZ25 : tySize cx.P 25 = some 1 := by kernel_rfl
theorem Yq_tF24_1 : tyField cx.P 24 1 = some (1, 22) := by kernel_rfl
theorem Yq_tS22 : tySc cx.P 22 = true := by kernel_rfl
theorem Yq_tP64 : tyPlaces cx.P 64 = some (fun i => (#[(0, 1), (1, 2)] : Array (Nat × Nat))[i]?) := by kernel_rfl
theorem Yq_tO64 : tyZero cx.P 64 = some [(Go.Value.slice none 0 0), (Go.Value.int IntKind.i64 0), (Go.Value.slice none 0 0)] := by kernel_rfl
theorem Yq_tC27 : callable cx.P 27 = true := by kernel_rfl
theorem Yq_tF64_1 : tyField cx.P 64 1 = some (1, 27) := by kernel_rfl
theorem Yq_tF27_0 : tyField cx.P 27 0 = some (0, 3) := by kernel_rfl
theorem Yq_tS3 : tySc cx.P 3 = true := by kernel_rfl
theorem Yq_tF64_0 : tyField cx.P 64 0 = some (0, 22) := by kernel_rfl
theorem Yq_tU22 : cx.P.underlying 22 = some (.slice 52) := by kernel_rfl
theorem Yq_tE22 : tyElem cx.P 22 = some (52, 4, 32) := by kernel_rfl
theorem Yq_tA52 : tyAgg cx.P 52 = some 4 := by kernel_rfl
theorem Yq_tO52 : tyZero cx.P 52 = some [(Go.Value.int IntKind.i64 0), (Go.Value.int IntKind.i64 0), (Go.Value.int IntKind.i64 0), (Go.Value.int IntKind.i64 0)] := by kernel_rfl
theorem Yq_tZ52 : tySize cx.P 52 = some 4 := by kernel_rfl
theorem Yq_tF52_2 : tyField cx.P 52 2 = some (2, 3) := by kernel_rfl
theorem Yq_tF52_1 : tyField cx.P 52 1 = some (1, 3) := by kernel_rfl
theorem Yq_tF52_0 : tyField cx.P 52 0 = some (0, 3) := by kernel_rfl
theorem Yq_tZ3 : tySize cx.P 3 = some 1 := by kernel_rfl
theorem Yq_tF52_3 : tyField cx.P 52 3 = some (3, 3) := by kernel_rfl
theorem c_clone (l : List Int) (hl : 0 < l.length) (hb : l.length ≤ 1000) : ECallsM cx 47 [(AV.sl 1 (is .i64 (l)))] (.row 701) 701 3 1 (is .i64 (l)) := by
  refine ecallsM_of_awp Tryd.func47 (c := _) rfl (Nat.le_of_ble_eq_true rfl) ?_
  show awp cx 8 _ (postM cx Tryd.f47 _ 701 3 1 (is .i64 (l))) ⟨[(0, (AV.sl 1 (is .i64 (l))))], []⟩
  refine awp_seq fun K0 hK0 => ?_
  refine awp_region rfl ?_
  refine o_as (AV.lit (.slice none 0 0)) rfl ?_
  refine aops_end ?_
  refine hK0 _ ?_
  refine awp_seq fun K1 hK1 => ?_
  refine awp_seq fun K2 hK2 => ?_
  refine awp_region rfl ?_
  refine o_mv (AV.sl 1 (is .i64 (l))) rfl ?_
  refine o_eqlNilSl Gd.none Yq_tU25 rfl rfl (by simp [is, ns]; omega) ?_
  refine aops_end ?_
  refine hK2 _ ?_
  refine awp_condB (b := false) rfl (fun hh => absurd (hh.symm.trans rfl) (by decide)) (fun _ => ?_)
  refine awp_skip ?_
  refine hK1 _ ?_
  refine awp_seq fun K3 hK3 => ?_
  refine awp_region rfl ?_
  refine o_buildSlice 2 (is .i64 ([])) [] Gd.none Yq_tE25 rfl Yq_tO3 rfl rfl rfl rfl rfl rfl rfl ?_
  refine o_mv (AV.sl 1 (is .i64 (l))) rfl ?_
  refine i_appendSl 3 ([]) (l) [] Gd.none Yq_tE25 Yq_tO3 rfl rfl rfl rfl (by simp only [List.length_append, List.length_cons, List.length_nil]; omega) (by decide) rfl rfl ?_
  refine o_as (AV.row 3) rfl ?_
  refine aops_end ?_
  refine hK3 _ ?_
  refine awp_wk (σ' := ⟨[(2, (AV.row 3))], [(3, (AO.row 3 1 (is .i64 (l))))]⟩) (Wk.sub (And.intro rfl (trivial)) (And.intro rfl (trivial))) ?_
  refine awp_wk (σ' := ⟨[(2, (AV.row 701))], [(701, (AO.row 3 1 (is .i64 (l))))]⟩) (Wk.ren (id := 3) (id' := 701) rfl) ?_
  refine awp_ret ?_
  refine postM_ret ⟨[(AV.row 701)], And.intro (AV.le_refl _) (trivial), rfl, rfl, ?_⟩
  rfl

theorem c_fStep (m : Mac) (c : Cfg) : ECalls cx 11 [(macV m), (cfgV c)] (.tup [cfgV (stA m c), nm .i64 (stAE m c)]) := by
  refine ecalls_of_awp Tryd.func11 (c := _) rfl (Nat.le_of_ble_eq_true rfl) ?_
  show awp cx 26 _ (postF cx Tryd.f11 _) ⟨[(0, (macV m)), (1, (cfgV c))], []⟩
  refine awp_seq fun K0 hK0 => ?_
  refine awp_region rfl ?_
  refine o_box 2 [(AV.lit (.int .i64 (m.regs))), (AV.sl 4 (gcells cI (m.code)))] Gd.none rfl rfl ?_
  refine o_box 3 [(AV.lit (.int .i64 (c.at'))), (AV.sl 1 (is .i64 (c.regs)))] Gd.none rfl rfl ?_
  refine o_alloc 4 [(nm .i64 (0)), (AV.lit (.slice none 0 0))] Gd.none Yq_tO27 rfl rfl rfl ?_
  refine o_as (nm .i64 (0)) rfl ?_
  refine aops_end ?_
  refine hK0 _ ?_
  refine awp_seq fun K1 hK1 => ?_
  refine awp_seq fun K2 hK2 => ?_
  refine awp_region rfl ?_
  refine o_loadA [(AV.lit (.int .i64 (m.regs))), (AV.sl 4 (gcells cI (m.code)))] Gd.none Yq_tA24 rfl rfl rfl rfl rfl ?_
  refine o_loadA [(AV.lit (.int .i64 (c.at'))), (AV.sl 1 (is .i64 (c.regs)))] Gd.none Yq_tA27 rfl rfl rfl rfl rfl ?_
  refine o_ct (c_fFits m c) Gd.none Yq_tC22 rfl ?_
  refine o_notP (q := okCfg m c) Gd.none rfl ?_
  refine aops_end ?_
  refine hK2 _ ?_
  refine awp_condQ (q := ¬ (okCfg m c)) rfl (fun h1 => ?_) (fun h1 => ?_)
  · refine awp_seq fun K3 hK3 => ?_
    refine awp_region rfl ?_
    refine o_build [(nm .i64 (0)), (AV.lit (.slice none 0 0))] [] Gd.none Yq_tP27 Yq_tO27 rfl rfl rfl ?_
    refine o_store [(4, (AO.var 27 [(nm .i64 (0)), (AV.lit (.slice none 0 0))])), (3, (AO.var 27 [(AV.lit (.int .i64 (c.at'))), (AV.sl 1 (is .i64 (c.regs)))])), (2, (AO.var 24 [(AV.lit (.int .i64 (m.regs))), (AV.sl 4 (gcells cI (m.code)))]))] Gd.none Yq_tZ27 rfl rfl rfl rfl rfl rfl ?_
    refine o_as (nm .i64 (1)) rfl ?_
    refine aops_end ?_
    refine hK3 _ ?_
    refine awp_ret ?_
    refine post_ret ⟨[(AV.agg [(AV.lit (.int .i64 (0))), (AV.sl 1 (is .i64 ([])))]), (nm .i64 (1))], And.intro ⟨4, (AO.var 27 [(nm .i64 (0)), (AV.lit (.slice none 0 0))]), rfl, rfl, rfl, Or.inl ⟨Yq_tA27, AV.le_agg (LeL.cons (AV.le_refl _) (LeL.cons (AV.le_nil' (by decide) (by first | rfl | simp [digs_zero, ns, is])) (LeL.nil)))⟩⟩ (And.intro (AV.le_refl _) (trivial)), rfl, ?_⟩
    rw [stA, stAE, if_neg h1, if_neg h1]; rfl
  · have hOK : okCfg m c := Decidable.not_not.1 h1
    have hC2 := hOK
    obtain ⟨⟨o1, o2, o3, o4, o5⟩, q1, q2, q3⟩ := hC2
    refine awp_skip ?_
    refine hK1 _ ?_
    refine awp_seq fun K4 hK4 => ?_
    refine awp_wk (σ' := ⟨[(0, (macV m)), (1, (cfgV c)), (2, (AV.ref 2 (0))), (3, (AV.ref 3 (0))), (4, (AV.ref 4 (0))), (5, (nm .i64 (0))), (8, (AV.agg [(AV.lit (.int .i64 (m.regs))), (AV.sl 4 (gcells cI (m.code)))])), (9, (AV.agg [(AV.lit (.int .i64 (c.at'))), (AV.sl 1 (is .i64 (c.regs)))])), (10, (bp (okCfg m c))), (11, (bp (¬ (okCfg m c))))], [(4, (AO.var 27 [(nm .i64 (0)), (AV.lit (.slice none 0 0))])), (3, (AO.var 27 [(AV.lit (.int .i64 (c.at'))), (AV.sl 1 (is .i64 (c.regs)))])), (2, (AO.var 24 [(AV.lit (.int .i64 (m.regs))), (AV.sl 4 (gcells cI (m.code)))]))]⟩) (Wk.sub (And.intro rfl (And.intro rfl (And.intro rfl (And.intro rfl (And.intro rfl (And.intro rfl (And.intro rfl (And.intro rfl (And.intro rfl (And.intro rfl (trivial))))))))))) (And.intro rfl (And.intro rfl (And.intro rfl (trivial))))) ?_
    refine awp_regionSK 2 15 _ 26 [] _ _ _ _ _ [(AV.agg [(AV.lit (.int .i64 (m.regs))), (AV.sl 4 (gcells cI (m.code)))]), (AV.agg [(AV.lit (.int .i64 (c.at'))), (AV.sl 1 (is .i64 (c.regs)))])] (AV.ref 7 (0)) [(4, (AO.var 27 [(nm .i64 (0)), (AV.lit (.slice none 0 0))])), (3, (AO.var 27 [(AV.lit (.int .i64 (c.at'))), (AV.sl 1 (is .i64 (c.regs)))])), (2, (AO.var 24 [(AV.lit (.int .i64 (m.regs))), (AV.sl 4 (gcells cI (m.code)))])), (7, (AO.var 64 [(AV.sl 4 (gcells cI (m.code))), (AV.lit (.int .i64 (c.at'))), (AV.row 701)])), (701, (AO.row 3 1 (is .i64 (c.regs))))] rfl rfl Yq_tC26 ?_
    refine o_loadA [(AV.lit (.int .i64 (m.regs))), (AV.sl 4 (gcells cI (m.code)))] Gd.none Yq_tA24 rfl rfl rfl rfl rfl ?_
    refine o_loadA [(AV.lit (.int .i64 (c.at'))), (AV.sl 1 (is .i64 (c.regs)))] Gd.none Yq_tA27 rfl rfl rfl rfl rfl ?_
    refine aops_end ⟨rfl, rfl, ?sc0, ?_⟩
    case sc0 =>
      refine scalls_of_awpB 9009 Tryd.func26 (c := _) rfl (Nat.le_of_ble_eq_true rfl) rfl rfl rfl (fun us0 => ?_)
      show awp cx 14 _ (postS cx Tryd.f26 (AV.ref 7 (0)) [(4, (AO.var 27 [(nm .i64 (0)), (AV.lit (.slice none 0 0))])), (3, (AO.var 27 [(AV.lit (.int .i64 (c.at'))), (AV.sl 1 (is .i64 (c.regs)))])), (2, (AO.var 24 [(AV.lit (.int .i64 (m.regs))), (AV.sl 4 (gcells cI (m.code)))])), (7, (AO.var 64 [(AV.sl 4 (gcells cI (m.code))), (AV.lit (.int .i64 (c.at'))), (AV.row 701)])), (701, (AO.row 3 1 (is .i64 (c.regs))))] 9009 [(AV.agg [(AV.lit (.int .i64 (c.at'))), (AV.sl 1 (is .i64 (c.regs)))]), (AV.agg [(AV.lit (.int .i64 (m.regs))), (AV.sl 4 (gcells cI (m.code)))]), (macV m), (cfgV c), (AV.ref 2 (0)), (AV.ref 3 (0)), (AV.ref 4 (0)), (nm .i64 (0)), (AV.agg [(AV.lit (.int .i64 (m.regs))), (AV.sl 4 (gcells cI (m.code)))]), (AV.agg [(AV.lit (.int .i64 (c.at'))), (AV.sl 1 (is .i64 (c.regs)))]), (bp (okCfg m c)), (bp (¬ (okCfg m c)))] us0) ⟨[(0, (AV.agg [(AV.lit (.int .i64 (m.regs))), (AV.sl 4 (gcells cI (m.code)))])), (1, (AV.agg [(AV.lit (.int .i64 (c.at'))), (AV.sl 1 (is .i64 (c.regs)))]))], [(9009, (AO.pin [(AV.agg [(AV.lit (.int .i64 (c.at'))), (AV.sl 1 (is .i64 (c.regs)))]), (AV.agg [(AV.lit (.int .i64 (m.regs))), (AV.sl 4 (gcells cI (m.code)))]), (macV m), (cfgV c), (AV.ref 2 (0)), (AV.ref 3 (0)), (AV.ref 4 (0)), (nm .i64 (0)), (AV.agg [(AV.lit (.int .i64 (m.regs))), (AV.sl 4 (gcells cI (m.code)))]), (AV.agg [(AV.lit (.int .i64 (c.at'))), (AV.sl 1 (is .i64 (c.regs)))]), (bp (okCfg m c)), (bp (¬ (okCfg m c)))] us0)), (4, (AO.var 27 [(nm .i64 (0)), (AV.lit (.slice none 0 0))])), (3, (AO.var 27 [(AV.lit (.int .i64 (c.at'))), (AV.sl 1 (is .i64 (c.regs)))])), (2, (AO.var 24 [(AV.lit (.int .i64 (m.regs))), (AV.sl 4 (gcells cI (m.code)))]))]⟩
      refine awp_seq fun K5 hK5 => ?_
      refine awp_region rfl ?_
      refine o_box 5 [(AV.lit (.int .i64 (m.regs))), (AV.sl 4 (gcells cI (m.code)))] Gd.none rfl rfl ?_
      refine o_box 6 [(AV.lit (.int .i64 (c.at'))), (AV.sl 1 (is .i64 (c.regs)))] Gd.none rfl rfl ?_
      refine o_as (AV.lit (Go.Value.pointer none)) rfl ?_
      refine aops_end ?_
      refine hK5 _ ?_
      refine awp_seq fun K6 hK6 => ?_
      refine awp_region rfl ?_
      refine o_fieldRef 1 Gd.none Yq_tF27_1 rfl rfl ?_
      refine o_loadS (AV.sl 1 (is .i64 (c.regs))) Gd.none Yq_tS25 rfl rfl rfl ?_
      refine o_callM 701 [(AV.sl 1 (is .i64 (c.regs)))] Gd.none Yq_tC47 rfl (c_clone (c.regs) (by omega) (by omega)) rfl ?_
      refine o_fieldRef 1 Gd.none Yq_tF27_1 rfl rfl ?_
      refine o_store [(701, (AO.row 3 1 (is .i64 (c.regs)))), (6, (AO.var 27 [(AV.lit (.int .i64 (c.at'))), (AV.row 701)])), (5, (AO.var 24 [(AV.lit (.int .i64 (m.regs))), (AV.sl 4 (gcells cI (m.code)))])), (9009, (AO.pin [(AV.agg [(AV.lit (.int .i64 (c.at'))), (AV.sl 1 (is .i64 (c.regs)))]), (AV.agg [(AV.lit (.int .i64 (m.regs))), (AV.sl 4 (gcells cI (m.code)))]), (macV m), (cfgV c), (AV.ref 2 (0)), (AV.ref 3 (0)), (AV.ref 4 (0)), (nm .i64 (0)), (AV.agg [(AV.lit (.int .i64 (m.regs))), (AV.sl 4 (gcells cI (m.code)))]), (AV.agg [(AV.lit (.int .i64 (c.at'))), (AV.sl 1 (is .i64 (c.regs)))]), (bp (okCfg m c)), (bp (¬ (okCfg m c)))] us0)), (4, (AO.var 27 [(nm .i64 (0)), (AV.lit (.slice none 0 0))])), (3, (AO.var 27 [(AV.lit (.int .i64 (c.at'))), (AV.sl 1 (is .i64 (c.regs)))])), (2, (AO.var 24 [(AV.lit (.int .i64 (m.regs))), (AV.sl 4 (gcells cI (m.code)))]))] Gd.none Yq_tZ25 rfl rfl rfl rfl rfl rfl ?_
      refine aops_end ?_
      refine hK6 _ ?_
      refine awp_seq fun K7 hK7 => ?_
      refine awp_region rfl ?_
      refine o_fieldRef 1 Gd.none Yq_tF24_1 rfl rfl ?_
      refine o_loadS (AV.sl 4 (gcells cI (m.code))) Gd.none Yq_tS22 rfl rfl rfl ?_
      refine o_loadA [(AV.lit (.int .i64 (c.at'))), (AV.row 701)] Gd.none Yq_tA27 rfl rfl rfl rfl rfl ?_
      refine o_build [(AV.sl 4 (gcells cI (m.code))), (AV.lit (.int .i64 (c.at'))), (AV.row 701)] [(0, [(AV.sl 4 (gcells cI (m.code)))]), (1, [(AV.lit (.int .i64 (c.at'))), (AV.row 701)])] Gd.none Yq_tP64 Yq_tO64 rfl rfl rfl ?_
      refine o_box 7 [(AV.sl 4 (gcells cI (m.code))), (AV.lit (.int .i64 (c.at'))), (AV.row 701)] Gd.none rfl rfl ?_
      refine o_as (AV.ref 7 (0)) rfl ?_
      refine aops_end ?_
      refine hK7 _ ?_
      refine awp_wk (σ' := ⟨[(4, (AV.ref 7 (0)))], [(9009, (AO.pin [(AV.agg [(AV.lit (.int .i64 (c.at'))), (AV.sl 1 (is .i64 (c.regs)))]), (AV.agg [(AV.lit (.int .i64 (m.regs))), (AV.sl 4 (gcells cI (m.code)))]), (macV m), (cfgV c), (AV.ref 2 (0)), (AV.ref 3 (0)), (AV.ref 4 (0)), (nm .i64 (0)), (AV.agg [(AV.lit (.int .i64 (m.regs))), (AV.sl 4 (gcells cI (m.code)))]), (AV.agg [(AV.lit (.int .i64 (c.at'))), (AV.sl 1 (is .i64 (c.regs)))]), (bp (okCfg m c)), (bp (¬ (okCfg m c)))] us0)), (4, (AO.var 27 [(nm .i64 (0)), (AV.lit (.slice none 0 0))])), (3, (AO.var 27 [(AV.lit (.int .i64 (c.at'))), (AV.sl 1 (is .i64 (c.regs)))])), (2, (AO.var 24 [(AV.lit (.int .i64 (m.regs))), (AV.sl 4 (gcells cI (m.code)))])), (7, (AO.var 64 [(AV.sl 4 (gcells cI (m.code))), (AV.lit (.int .i64 (c.at'))), (AV.row 701)])), (701, (AO.row 3 1 (is .i64 (c.regs))))]⟩) (Wk.sub (And.intro rfl (trivial)) (And.intro rfl (And.intro rfl (And.intro rfl (And.intro rfl (And.intro (by first | rfl | (rfl)) (And.intro rfl (trivial)))))))) ?_
      refine awp_ret ?_
      try dsimp only [thenK, inBlk]
      refine postS_ret (extra := []) ?_ rfl
      refine ⟨[(AV.ref 7 (0))], And.intro (AV.le_refl _) (trivial), ?_⟩
      rfl
    refine o_as (AV.ref 7 (0)) rfl ?_
    refine aops_end ?_
    refine hK4 _ ?_
    refine awp_seq fun K8 hK8 => ?_
    refine awp_seq fun K9 hK9 => ?_
    refine awp_wk (σ' := ⟨[(0, (macV m)), (1, (cfgV c)), (2, (AV.ref 2 (0))), (3, (AV.ref 3 (0))), (4, (AV.ref 4 (0))), (5, (nm .i64 (0))), (8, (AV.agg [(AV.lit (.int .i64 (m.regs))), (AV.sl 4 (gcells cI (m.code)))])), (9, (AV.agg [(AV.lit (.int .i64 (c.at'))), (AV.sl 1 (is .i64 (c.regs)))])), (10, (bp (okCfg m c))), (11, (bp (¬ (okCfg m c)))), (13, (AV.agg [(AV.lit (.int .i64 (m.regs))), (AV.sl 4 (gcells cI (m.code)))])), (14, (AV.agg [(AV.lit (.int .i64 (c.at'))), (AV.sl 1 (is .i64 (c.regs)))])), (15, (AV.ref 7 (0))), (6, (AV.ref 7 (0)))], [(4, (AO.var 27 [(nm .i64 (0)), (AV.lit (.slice none 0 0))])), (3, (AO.var 27 [(AV.lit (.int .i64 (c.at'))), (AV.sl 1 (is .i64 (c.regs)))])), (2, (AO.var 24 [(AV.lit (.int .i64 (m.regs))), (AV.sl 4 (gcells cI (m.code)))])), (7, (AO.var 64 [(AV.sl 4 (gcells cI (m.code))), (AV.lit (.int .i64 (c.at'))), (AV.row 701)])), (701, (AO.row 3 1 (is .i64 (c.regs))))]⟩) (Wk.sub (And.intro rfl (And.intro rfl (And.intro rfl (And.intro rfl (And.intro rfl (And.intro rfl (And.intro rfl (And.intro rfl (And.intro rfl (And.intro rfl (And.intro rfl (And.intro rfl (And.intro rfl (And.intro rfl (trivial))))))))))))))) (And.intro rfl (And.intro rfl (And.intro rfl (And.intro rfl (And.intro rfl (trivial))))))) ?_
    refine awp_regionSK 1 17 _ 27 [] _ _ _ _ _ [(AV.ref 7 (0))] (nm .i64 (stpE m c)) [(4, (AO.var 27 [(nm .i64 (0)), (AV.lit (.slice none 0 0))])), (3, (AO.var 27 [(AV.lit (.int .i64 (c.at'))), (AV.sl 1 (is .i64 (c.regs)))])), (2, (AO.var 24 [(AV.lit (.int .i64 (m.regs))), (AV.sl 4 (gcells cI (m.code)))])), (7, (AO.var 64 [(AV.sl 4 (gcells cI (m.code))), (AV.lit (.int .i64 ((nxC m c).at'))), (AV.row 701)])), (701, (AO.row 3 1 (is .i64 ((nxC m c).regs))))] rfl rfl Yq_tC27 ?_
    refine o_mv (AV.ref 7 (0)) rfl ?_
    refine aops_end ⟨rfl, rfl, ?sc1, ?_⟩
    case sc1 =>
      refine scalls_of_awpB 9010 Tryd.func27 (c := _) rfl (Nat.le_of_ble_eq_true rfl) rfl rfl rfl (fun us1 => ?_)
      show awp cx 83 _ (postS cx Tryd.f27 (nm .i64 (stpE m c)) [(4, (AO.var 27 [(nm .i64 (0)), (AV.lit (.slice none 0 0))])), (3, (AO.var 27 [(AV.lit (.int .i64 (c.at'))), (AV.sl 1 (is .i64 (c.regs)))])), (2, (AO.var 24 [(AV.lit (.int .i64 (m.regs))), (AV.sl 4 (gcells cI (m.code)))])), (7, (AO.var 64 [(AV.sl 4 (gcells cI (m.code))), (AV.lit (.int .i64 ((nxC m c).at'))), (AV.row 701)])), (701, (AO.row 3 1 (is .i64 ((nxC m c).regs))))] 9010 [(AV.ref 7 (0)), (macV m), (cfgV c), (AV.ref 2 (0)), (AV.ref 3 (0)), (AV.ref 4 (0)), (nm .i64 (0)), (AV.agg [(AV.lit (.int .i64 (m.regs))), (AV.sl 4 (gcells cI (m.code)))]), (AV.agg [(AV.lit (.int .i64 (c.at'))), (AV.sl 1 (is .i64 (c.regs)))]), (bp (okCfg m c)), (bp (¬ (okCfg m c))), (AV.agg [(AV.lit (.int .i64 (m.regs))), (AV.sl 4 (gcells cI (m.code)))]), (AV.agg [(AV.lit (.int .i64 (c.at'))), (AV.sl 1 (is .i64 (c.regs)))]), (AV.ref 7 (0)), (AV.ref 7 (0))] us1) ⟨[(0, (AV.ref 7 (0)))], [(9010, (AO.pin [(AV.ref 7 (0)), (macV m), (cfgV c), (AV.ref 2 (0)), (AV.ref 3 (0)), (AV.ref 4 (0)), (nm .i64 (0)), (AV.agg [(AV.lit (.int .i64 (m.regs))), (AV.sl 4 (gcells cI (m.code)))]), (AV.agg [(AV.lit (.int .i64 (c.at'))), (AV.sl 1 (is .i64 (c.regs)))]), (bp (okCfg m c)), (bp (¬ (okCfg m c))), (AV.agg [(AV.lit (.int .i64 (m.regs))), (AV.sl 4 (gcells cI (m.code)))]), (AV.agg [(AV.lit (.int .i64 (c.at'))), (AV.sl 1 (is .i64 (c.regs)))]), (AV.ref 7 (0)), (AV.ref 7 (0))] us1)), (4, (AO.var 27 [(nm .i64 (0)), (AV.lit (.slice none 0 0))])), (3, (AO.var 27 [(AV.lit (.int .i64 (c.at'))), (AV.sl 1 (is .i64 (c.regs)))])), (2, (AO.var 24 [(AV.lit (.int .i64 (m.regs))), (AV.sl 4 (gcells cI (m.code)))])), (7, (AO.var 64 [(AV.sl 4 (gcells cI (m.code))), (AV.lit (.int .i64 (c.at'))), (AV.row 701)])), (701, (AO.row 3 1 (is .i64 (c.regs))))]⟩
      refine awp_seq fun K10 hK10 => ?_
      refine awp_region rfl ?_
      refine o_as (nm .i64 (0)) rfl ?_
      refine aops_end ?_
      refine hK10 _ ?_
      refine awp_seq fun K11 hK11 => ?_
      refine awp_seq fun K12 hK12 => ?_
      refine awp_regionD rfl ?_
      refine o_mv (AV.ref 7 (0)) rfl ?_
      refine o_nilRef Gd.none rfl ?_
      refine o_fieldRef 1 Gd.none Yq_tF64_1 rfl rfl ?_
      refine o_fieldRef 1 Gd.none Yq_tF27_0 rfl rfl ?_
      refine o_loadS (AV.lit (.int .i64 (c.at'))) Gd.none Yq_tS3 rfl rfl rfl ?_
      refine o_mv (AV.ref 7 (0)) rfl ?_
      refine o_nilRef Gd.none rfl ?_
      refine o_fieldRef 0 Gd.none Yq_tF64_0 rfl rfl ?_
      refine o_loadS (AV.sl 4 (gcells cI (m.code))) Gd.none Yq_tS22 rfl rfl rfl ?_
      refine g_len cI (m.code) cI_len Gd.none Yq_tU22 rfl ?_
      refine o_eql (a := (c.at')) (c := ((((m.code).length : Nat) : Int))) Gd.none rfl rfl ?_
      refine aops_end ⟨by kernel_rfl, ?_⟩
      refine hK12 _ ?_
      refine awp_condQ (q := (c.at') = ((((m.code).length : Nat) : Int))) rfl (fun h2 => ?_) (fun h2 => ?_)
      · refine awp_seq fun K13 hK13 => ?_
        have he := stp_e (m := m) (c := c) h2
        have hnx : nxC m c = c := nxC_1 (by rw [he]; decide)
        refine awp_region rfl ?_
        refine o_as (nm .i64 (6)) rfl ?_
        refine aops_end ?_
        refine hK13 _ ?_
        refine awp_wk (σ' := ⟨[(2, (nm .i64 (6)))], [(9010, (AO.pin [(AV.ref 7 (0)), (macV m), (cfgV c), (AV.ref 2 (0)), (AV.ref 3 (0)), (AV.ref 4 (0)), (nm .i64 (0)), (AV.agg [(AV.lit (.int .i64 (m.regs))), (AV.sl 4 (gcells cI (m.code)))]), (AV.agg [(AV.lit (.int .i64 (c.at'))), (AV.sl 1 (is .i64 (c.regs)))]), (bp (okCfg m c)), (bp (¬ (okCfg m c))), (AV.agg [(AV.lit (.int .i64 (m.regs))), (AV.sl 4 (gcells cI (m.code)))]), (AV.agg [(AV.lit (.int .i64 (c.at'))), (AV.sl 1 (is .i64 (c.regs)))]), (AV.ref 7 (0)), (AV.ref 7 (0))] us1)), (4, (AO.var 27 [(nm .i64 (0)), (AV.lit (.slice none 0 0))])), (3, (AO.var 27 [(AV.lit (.int .i64 (c.at'))), (AV.sl 1 (is .i64 (c.regs)))])), (2, (AO.var 24 [(AV.lit (.int .i64 (m.regs))), (AV.sl 4 (gcells cI (m.code)))])), (7, (AO.var 64 [(AV.sl 4 (gcells cI (m.code))), (AV.lit (.int .i64 ((nxC m c).at'))), (AV.row 701)])), (701, (AO.row 3 1 (is .i64 ((nxC m c).regs))))]⟩) (Wk.sub (And.intro rfl (trivial)) (And.intro rfl (And.intro rfl (And.intro rfl (And.intro rfl (And.intro (by first | rfl | (rw [hnx]; rfl)) (And.intro (by first | rfl | (rw [hnx]; rfl)) (trivial)))))))) ?_
        refine awp_ret ?_
        try dsimp only [thenK, inBlk]
        refine postS_ret (extra := []) ?_ rfl
        refine ⟨[(nm .i64 (6))], And.intro (AV.le_refl _) (trivial), ?_⟩
        exact congrArg (nm .i64) he
      · refine awp_skip ?_
        refine hK11 _ ?_
        refine awp_seq fun K14 hK14 => ?_
        have hat : ¬ c.at' = (m.code.length : Int) := h2
        have ha := okC_at hOK hat
        obtain ⟨a1, a2, a3, a4, a5⟩ := ha
        have z0 : 0 ≤ c.at' := hOK.2.1.1
        have z3 : ((m.code).getD (c.at'.toNat) default).reg.toNat < c.regs.length := a3
        have z4 : 0 ≤ ((c.regs).getD (((m.code).getD (c.at'.toNat) default).reg.toNat) 0) := a4
        have z5 : ((c.regs).getD (((m.code).getD (c.at'.toNat) default).reg.toNat) 0) ≤ 1000 := a5
        have z6 : 0 ≤ ((m.code).getD (c.at'.toNat) default).reg := a2.1.1
        refine awp_regionD rfl ?_
        refine o_mv (AV.ref 7 (0)) rfl ?_
        refine o_nilRef Gd.none rfl ?_
        refine o_fieldRef 0 Gd.none Yq_tF64_0 rfl rfl ?_
        refine o_loadS (AV.sl 4 (gcells cI (m.code))) Gd.none Yq_tS22 rfl rfl rfl ?_
        refine o_mv (AV.ref 7 (0)) rfl ?_
        refine o_nilRef Gd.none rfl ?_
        refine o_fieldRef 1 Gd.none Yq_tF64_1 rfl rfl ?_
        refine o_fieldRef 1 Gd.none Yq_tF27_0 rfl rfl ?_
        refine o_loadS (AV.lit (.int .i64 (c.at'))) Gd.none Yq_tS3 rfl rfl rfl ?_
        refine n_as (v' := (nm .i64 (c.at'.toNat))) (nm_int (by omega)) ?_
        refine g_index cI (m.code) (c.at'.toNat) cI_len rfl Gd.none Yq_tE22 rfl rfl (by omega) ?_
        refine g_loadA cI (m.code) (c.at'.toNat) default cI_len Gd.none Yq_tA52 rfl (by omega) ?_
        refine o_alloc 8 [(nm .i64 (0)), (nm .i64 (0)), (nm .i64 (0)), (nm .i64 (0))] Gd.none Yq_tO52 rfl rfl rfl ?_
        refine o_store [(8, (AO.var 52 [(AV.lit (.int .i64 ((((m.code).getD (c.at'.toNat) default)).kind))), (AV.lit (.int .i64 ((((m.code).getD (c.at'.toNat) default)).reg))), (AV.lit (.int .i64 ((((m.code).getD (c.at'.toNat) default)).next))), (AV.lit (.int .i64 ((((m.code).getD (c.at'.toNat) default)).els)))])), (9010, (AO.pin [(AV.ref 7 (0)), (macV m), (cfgV c), (AV.ref 2 (0)), (AV.ref 3 (0)), (AV.ref 4 (0)), (nm .i64 (0)), (AV.agg [(AV.lit (.int .i64 (m.regs))), (AV.sl 4 (gcells cI (m.code)))]), (AV.agg [(AV.lit (.int .i64 (c.at'))), (AV.sl 1 (is .i64 (c.regs)))]), (bp (okCfg m c)), (bp (¬ (okCfg m c))), (AV.agg [(AV.lit (.int .i64 (m.regs))), (AV.sl 4 (gcells cI (m.code)))]), (AV.agg [(AV.lit (.int .i64 (c.at'))), (AV.sl 1 (is .i64 (c.regs)))]), (AV.ref 7 (0)), (AV.ref 7 (0))] us1)), (4, (AO.var 27 [(nm .i64 (0)), (AV.lit (.slice none 0 0))])), (3, (AO.var 27 [(AV.lit (.int .i64 (c.at'))), (AV.sl 1 (is .i64 (c.regs)))])), (2, (AO.var 24 [(AV.lit (.int .i64 (m.regs))), (AV.sl 4 (gcells cI (m.code)))])), (7, (AO.var 64 [(AV.sl 4 (gcells cI (m.code))), (AV.lit (.int .i64 (c.at'))), (AV.row 701)])), (701, (AO.row 3 1 (is .i64 (c.regs))))] Gd.none Yq_tZ52 rfl rfl rfl rfl rfl rfl ?_
        refine aops_end ⟨by kernel_rfl, ?_⟩
        refine hK14 _ ?_
        refine awp_seq fun K15 hK15 => ?_
        refine awp_region rfl ?_
        refine o_fieldRef 2 Gd.none Yq_tF52_2 rfl rfl ?_
        refine o_loadS (AV.lit (.int .i64 ((((m.code).getD (c.at'.toNat) default)).next))) Gd.none Yq_tS3 rfl rfl rfl ?_
        refine o_as (AV.lit (.int .i64 ((((m.code).getD (c.at'.toNat) default)).next))) rfl ?_
        refine aops_end ?_
        refine hK15 _ ?_
        refine awp_seq fun K16 hK16 => ?_
        refine awp_seq fun K17 hK17 => ?_
        refine awp_regionD rfl ?_
        refine o_mv (AV.ref 7 (0)) rfl ?_
        refine o_nilRef Gd.none rfl ?_
        refine o_fieldRef 1 Gd.none Yq_tF64_1 rfl rfl ?_
        refine o_fieldRef 2 Gd.none Yq_tF27_1 rfl rfl ?_
        refine o_loadS (AV.row 701) Gd.none Yq_tS25 rfl rfl rfl ?_
        refine o_fieldRef 1 Gd.none Yq_tF52_1 rfl rfl ?_
        refine o_loadS (AV.lit (.int .i64 ((((m.code).getD (c.at'.toNat) default)).reg))) Gd.none Yq_tS3 rfl rfl rfl ?_
        refine n_as (v' := (nm .i64 (((m.code).getD (c.at'.toNat) default).reg.toNat))) (nm_int (by omega)) ?_
        refine i_indexRow (c.regs) (((m.code).getD (c.at'.toNat) default).reg.toNat) Gd.none Yq_tE25 rfl rfl rfl (by omega) ?_
        refine i_loadRow (c.regs) (((m.code).getD (c.at'.toNat) default).reg.toNat) Gd.none Yq_tS3 rfl rfl (by omega) ?_
        refine o_as (AV.lit (.int .i64 ((c.regs).getD (((m.code).getD (c.at'.toNat) default).reg.toNat) 0))) rfl ?_
        refine aops_end ⟨by kernel_rfl, ?_⟩
        refine hK17 _ ?_
        refine awp_block ?_
        refine awp_seq fun K18 hK18 => ?_
        refine awp_region rfl ?_
        refine o_fieldRef 0 Gd.none Yq_tF52_0 rfl rfl ?_
        refine o_loadS (AV.lit (.int .i64 ((((m.code).getD (c.at'.toNat) default)).kind))) Gd.none Yq_tS3 rfl rfl rfl ?_
        refine o_eql (a := ((((m.code).getD (c.at'.toNat) default)).kind)) (c := (((0 : Nat) : Int))) Gd.none rfl rfl ?_
        refine o_mv (bp (((((m.code).getD (c.at'.toNat) default)).kind) = (((0 : Nat) : Int)))) rfl ?_
        refine o_splitP (q := ((((m.code).getD (c.at'.toNat) default)).kind) = (((0 : Nat) : Int))) 45 rfl (fun h3 => ?_) (fun h3 => ?_)
        · refine o_move (AV.lit (.int .i64 ((c.regs).getD (((m.code).getD (c.at'.toNat) default).reg.toNat) 0))) (Gd.yes rfl rfl (decide_eq_true h3)) rfl ?_
          refine o_eql (a := ((c.regs).getD (((m.code).getD (c.at'.toNat) default).reg.toNat) 0)) (c := (((1000 : Nat) : Int))) (Gd.yes rfl rfl (decide_eq_true h3)) rfl rfl ?_
          refine o_pickT (bp (((c.regs).getD (((m.code).getD (c.at'.toNat) default).reg.toNat) 0) = (((1000 : Nat) : Int)))) Gd.none rfl (decide_eq_true h3) rfl ?_
          refine o_as (bp (((c.regs).getD (((m.code).getD (c.at'.toNat) default).reg.toNat) 0) = (((1000 : Nat) : Int)))) rfl ?_
          refine aops_end ?_
          refine hK18 _ ?_
          refine awp_condQ (q := ((c.regs).getD (((m.code).getD (c.at'.toNat) default).reg.toNat) 0) = (((1000 : Nat) : Int))) rfl (fun h4 => ?_) (fun h4 => ?_)
          · refine awp_seq fun K19 hK19 => ?_
            have he := stp_d (m := m) (c := c) hat h3 (show ((c.regs).getD (((m.code).getD (c.at'.toNat) default).reg.toNat) 0) = 1000 by omega)
            have hnx : nxC m c = c := nxC_1 (by rw [he]; decide)
            refine awp_region rfl ?_
            refine o_as (nm .i64 (3)) rfl ?_
            refine aops_end ?_
            refine hK19 _ ?_
            refine awp_wk (σ' := ⟨[(2, (nm .i64 (3)))], [(9010, (AO.pin [(AV.ref 7 (0)), (macV m), (cfgV c), (AV.ref 2 (0)), (AV.ref 3 (0)), (AV.ref 4 (0)), (nm .i64 (0)), (AV.agg [(AV.lit (.int .i64 (m.regs))), (AV.sl 4 (gcells cI (m.code)))]), (AV.agg [(AV.lit (.int .i64 (c.at'))), (AV.sl 1 (is .i64 (c.regs)))]), (bp (okCfg m c)), (bp (¬ (okCfg m c))), (AV.agg [(AV.lit (.int .i64 (m.regs))), (AV.sl 4 (gcells cI (m.code)))]), (AV.agg [(AV.lit (.int .i64 (c.at'))), (AV.sl 1 (is .i64 (c.regs)))]), (AV.ref 7 (0)), (AV.ref 7 (0))] us1)), (4, (AO.var 27 [(nm .i64 (0)), (AV.lit (.slice none 0 0))])), (3, (AO.var 27 [(AV.lit (.int .i64 (c.at'))), (AV.sl 1 (is .i64 (c.regs)))])), (2, (AO.var 24 [(AV.lit (.int .i64 (m.regs))), (AV.sl 4 (gcells cI (m.code)))])), (7, (AO.var 64 [(AV.sl 4 (gcells cI (m.code))), (AV.lit (.int .i64 ((nxC m c).at'))), (AV.row 701)])), (701, (AO.row 3 1 (is .i64 ((nxC m c).regs))))]⟩) (Wk.sub (And.intro rfl (trivial)) (And.intro rfl (And.intro rfl (And.intro rfl (And.intro rfl (And.intro (by first | rfl | (rw [hnx]; rfl)) (And.intro (by first | rfl | (rw [hnx]; rfl)) (trivial)))))))) ?_
            refine awp_ret ?_
            try dsimp only [thenK, inBlk]
            refine postS_ret (extra := []) ?_ rfl
            refine ⟨[(nm .i64 (3))], And.intro (AV.le_refl _) (trivial), ?_⟩
            exact congrArg (nm .i64) he
          · refine awp_seq fun K20 hK20 => ?_
            refine awp_region rfl ?_
            refine o_fieldRef 0 Gd.none Yq_tF52_0 rfl rfl ?_
            refine o_loadS (AV.lit (.int .i64 ((((m.code).getD (c.at'.toNat) default)).kind))) Gd.none Yq_tS3 rfl rfl rfl ?_
            refine o_eql (a := ((((m.code).getD (c.at'.toNat) default)).kind)) (c := (((0 : Nat) : Int))) Gd.none rfl rfl ?_
            refine o_as (bp (((((m.code).getD (c.at'.toNat) default)).kind) = (((0 : Nat) : Int)))) rfl ?_
            refine aops_end ?_
            refine hK20 _ ?_
            refine awp_condB (b := decide (((((m.code).getD (c.at'.toNat) default)).kind) = (((0 : Nat) : Int)))) rfl (fun _ => ?_) (fun hh => absurd (hh.symm.trans (decide_eq_true h3)) (by decide))
            refine awp_regionD rfl ?_
            refine o_mv (AV.ref 7 (0)) rfl ?_
            refine o_nilRef Gd.none rfl ?_
            refine o_fieldRef 1 Gd.none Yq_tF64_1 rfl rfl ?_
            refine o_fieldRef 2 Gd.none Yq_tF27_1 rfl rfl ?_
            refine o_loadS (AV.row 701) Gd.none Yq_tS25 rfl rfl rfl ?_
            refine o_fieldRef 1 Gd.none Yq_tF52_1 rfl rfl ?_
            refine o_loadS (AV.lit (.int .i64 ((((m.code).getD (c.at'.toNat) default)).reg))) Gd.none Yq_tS3 rfl rfl rfl ?_
            refine n_as (v' := (nm .i64 (((m.code).getD (c.at'.toNat) default).reg.toNat))) (nm_int (by omega)) ?_
            refine i_indexRow (c.regs) (((m.code).getD (c.at'.toNat) default).reg.toNat) Gd.none Yq_tE25 rfl rfl rfl (by omega) ?_
            refine i_loadRow (c.regs) (((m.code).getD (c.at'.toNat) default).reg.toNat) Gd.none Yq_tS3 rfl rfl (by omega) ?_
            refine o_add (a := ((c.regs).getD (((m.code).getD (c.at'.toNat) default).reg.toNat) 0)) (c := (((1 : Nat) : Int))) Gd.none rfl rfl (by exact wrap64 (by omega) (by omega)) ?_
            refine i_indexRow (c.regs) (((m.code).getD (c.at'.toNat) default).reg.toNat) Gd.none Yq_tE25 rfl rfl rfl (by omega) ?_
            refine i_storeRow (c.regs) (((m.code).getD (c.at'.toNat) default).reg.toNat) (((c.regs).getD (((m.code).getD (c.at'.toNat) default).reg.toNat) 0) + (((1 : Nat) : Int))) [(8, (AO.var 52 [(AV.lit (.int .i64 ((((m.code).getD (c.at'.toNat) default)).kind))), (AV.lit (.int .i64 ((((m.code).getD (c.at'.toNat) default)).reg))), (AV.lit (.int .i64 ((((m.code).getD (c.at'.toNat) default)).next))), (AV.lit (.int .i64 ((((m.code).getD (c.at'.toNat) default)).els)))])), (9010, (AO.pin [(AV.ref 7 (0)), (macV m), (cfgV c), (AV.ref 2 (0)), (AV.ref 3 (0)), (AV.ref 4 (0)), (nm .i64 (0)), (AV.agg [(AV.lit (.int .i64 (m.regs))), (AV.sl 4 (gcells cI (m.code)))]), (AV.agg [(AV.lit (.int .i64 (c.at'))), (AV.sl 1 (is .i64 (c.regs)))]), (bp (okCfg m c)), (bp (¬ (okCfg m c))), (AV.agg [(AV.lit (.int .i64 (m.regs))), (AV.sl 4 (gcells cI (m.code)))]), (AV.agg [(AV.lit (.int .i64 (c.at'))), (AV.sl 1 (is .i64 (c.regs)))]), (AV.ref 7 (0)), (AV.ref 7 (0))] us1)), (4, (AO.var 27 [(nm .i64 (0)), (AV.lit (.slice none 0 0))])), (3, (AO.var 27 [(AV.lit (.int .i64 (c.at'))), (AV.sl 1 (is .i64 (c.regs)))])), (2, (AO.var 24 [(AV.lit (.int .i64 (m.regs))), (AV.sl 4 (gcells cI (m.code)))])), (7, (AO.var 64 [(AV.sl 4 (gcells cI (m.code))), (AV.lit (.int .i64 (c.at'))), (AV.row 701)])), (701, (AO.row 3 1 (is .i64 ((c.regs).set (((m.code).getD (c.at'.toNat) default).reg.toNat) (((c.regs).getD (((m.code).getD (c.at'.toNat) default).reg.toNat) 0) + (((1 : Nat) : Int)))))))] Gd.none Yq_tZ3 rfl rfl rfl (by omega) rfl ?_
            refine aops_end ⟨by kernel_rfl, ?_⟩
            refine hK16 _ ?_
            refine awp_seq fun K21 hK21 => ?_
            refine awp_region rfl ?_
            refine o_mv (AV.ref 7 (0)) rfl ?_
            refine o_mv (AV.lit (.int .i64 ((((m.code).getD (c.at'.toNat) default)).next))) rfl ?_
            refine o_nilRef Gd.none rfl ?_
            refine o_fieldRef 1 Gd.none Yq_tF64_1 rfl rfl ?_
            refine o_fieldRef 1 Gd.none Yq_tF27_0 rfl rfl ?_
            refine o_store [(8, (AO.var 52 [(AV.lit (.int .i64 ((((m.code).getD (c.at'.toNat) default)).kind))), (AV.lit (.int .i64 ((((m.code).getD (c.at'.toNat) default)).reg))), (AV.lit (.int .i64 ((((m.code).getD (c.at'.toNat) default)).next))), (AV.lit (.int .i64 ((((m.code).getD (c.at'.toNat) default)).els)))])), (9010, (AO.pin [(AV.ref 7 (0)), (macV m), (cfgV c), (AV.ref 2 (0)), (AV.ref 3 (0)), (AV.ref 4 (0)), (nm .i64 (0)), (AV.agg [(AV.lit (.int .i64 (m.regs))), (AV.sl 4 (gcells cI (m.code)))]), (AV.agg [(AV.lit (.int .i64 (c.at'))), (AV.sl 1 (is .i64 (c.regs)))]), (bp (okCfg m c)), (bp (¬ (okCfg m c))), (AV.agg [(AV.lit (.int .i64 (m.regs))), (AV.sl 4 (gcells cI (m.code)))]), (AV.agg [(AV.lit (.int .i64 (c.at'))), (AV.sl 1 (is .i64 (c.regs)))]), (AV.ref 7 (0)), (AV.ref 7 (0))] us1)), (4, (AO.var 27 [(nm .i64 (0)), (AV.lit (.slice none 0 0))])), (3, (AO.var 27 [(AV.lit (.int .i64 (c.at'))), (AV.sl 1 (is .i64 (c.regs)))])), (2, (AO.var 24 [(AV.lit (.int .i64 (m.regs))), (AV.sl 4 (gcells cI (m.code)))])), (7, (AO.var 64 [(AV.sl 4 (gcells cI (m.code))), (AV.lit (.int .i64 ((((m.code).getD (c.at'.toNat) default)).next))), (AV.row 701)])), (701, (AO.row 3 1 (is .i64 ((c.regs).set (((m.code).getD (c.at'.toNat) default).reg.toNat) (((c.regs).getD (((m.code).getD (c.at'.toNat) default).reg.toNat) 0) + (((1 : Nat) : Int)))))))] Gd.none Yq_tZ3 rfl rfl rfl rfl rfl rfl ?_
            refine aops_end ?_
            refine hK21 _ ?_
            refine awp_seq fun K22 hK22 => ?_
            have hE := stp_a (m := m) (c := c) hat h3 (show ¬ ((c.regs).getD (((m.code).getD (c.at'.toNat) default).reg.toNat) 0) = 1000 by omega)
            have he := hE.1
            have hnx := (nxC_0 he).trans hE.2
            refine awp_region rfl ?_
            refine o_as (nm .i64 (0)) rfl ?_
            refine aops_end ?_
            refine hK22 _ ?_
            refine awp_wk (σ' := ⟨[(2, (nm .i64 (0)))], [(9010, (AO.pin [(AV.ref 7 (0)), (macV m), (cfgV c), (AV.ref 2 (0)), (AV.ref 3 (0)), (AV.ref 4 (0)), (nm .i64 (0)), (AV.agg [(AV.lit (.int .i64 (m.regs))), (AV.sl 4 (gcells cI (m.code)))]), (AV.agg [(AV.lit (.int .i64 (c.at'))), (AV.sl 1 (is .i64 (c.regs)))]), (bp (okCfg m c)), (bp (¬ (okCfg m c))), (AV.agg [(AV.lit (.int .i64 (m.regs))), (AV.sl 4 (gcells cI (m.code)))]), (AV.agg [(AV.lit (.int .i64 (c.at'))), (AV.sl 1 (is .i64 (c.regs)))]), (AV.ref 7 (0)), (AV.ref 7 (0))] us1)), (4, (AO.var 27 [(nm .i64 (0)), (AV.lit (.slice none 0 0))])), (3, (AO.var 27 [(AV.lit (.int .i64 (c.at'))), (AV.sl 1 (is .i64 (c.regs)))])), (2, (AO.var 24 [(AV.lit (.int .i64 (m.regs))), (AV.sl 4 (gcells cI (m.code)))])), (7, (AO.var 64 [(AV.sl 4 (gcells cI (m.code))), (AV.lit (.int .i64 ((nxC m c).at'))), (AV.row 701)])), (701, (AO.row 3 1 (is .i64 ((nxC m c).regs))))]⟩) (Wk.sub (And.intro rfl (trivial)) (And.intro rfl (And.intro rfl (And.intro rfl (And.intro rfl (And.intro (by first | rfl | (rw [hnx]; rfl)) (And.intro (by first | rfl | (rw [hnx]; rfl)) (trivial)))))))) ?_
            refine awp_ret ?_
            try dsimp only [thenK, inBlk]
            refine postS_ret (extra := []) ?_ rfl
            refine ⟨[(nm .i64 (0))], And.intro (AV.le_refl _) (trivial), ?_⟩
            exact congrArg (nm .i64) he
        · refine o_skip rfl rfl (decide_eq_false h3) ?_
          refine o_skip rfl rfl (decide_eq_false h3) ?_
          refine o_pickF (AV.lit (.bool false)) Gd.none rfl (decide_eq_false h3) rfl ?_
          refine o_as (AV.lit (.bool false)) rfl ?_
          refine aops_end ?_
          refine hK18 _ ?_
          refine awp_condB (b := false) rfl (fun hh => absurd (hh.symm.trans rfl) (by decide)) (fun _ => ?_)
          refine awp_seq fun K23 hK23 => ?_
          refine awp_region rfl ?_
          refine o_fieldRef 0 Gd.none Yq_tF52_0 rfl rfl ?_
          refine o_loadS (AV.lit (.int .i64 ((((m.code).getD (c.at'.toNat) default)).kind))) Gd.none Yq_tS3 rfl rfl rfl ?_
          refine o_eql (a := ((((m.code).getD (c.at'.toNat) default)).kind)) (c := (((0 : Nat) : Int))) Gd.none rfl rfl ?_
          refine o_as (bp (((((m.code).getD (c.at'.toNat) default)).kind) = (((0 : Nat) : Int)))) rfl ?_
          refine aops_end ?_
          refine hK23 _ ?_
          refine awp_condB (b := decide (((((m.code).getD (c.at'.toNat) default)).kind) = (((0 : Nat) : Int)))) rfl (fun hh => absurd (hh.symm.trans (decide_eq_false h3)) (by decide)) (fun _ => ?_)
          refine awp_seq fun K24 hK24 => ?_
          refine awp_region rfl ?_
          refine o_mv (AV.lit (.int .i64 ((c.regs).getD (((m.code).getD (c.at'.toNat) default).reg.toNat) 0))) rfl ?_
          refine o_gtr (a := ((c.regs).getD (((m.code).getD (c.at'.toNat) default).reg.toNat) 0)) (c := (((0 : Nat) : Int))) Gd.none rfl rfl ?_
          refine o_as (bp ((((0 : Nat) : Int)) < ((c.regs).getD (((m.code).getD (c.at'.toNat) default).reg.toNat) 0))) rfl ?_
          refine aops_end ?_
          refine hK24 _ ?_
          refine awp_condQ (q := (((0 : Nat) : Int)) < ((c.regs).getD (((m.code).getD (c.at'.toNat) default).reg.toNat) 0)) rfl (fun h5 => ?_) (fun h5 => ?_)
          · refine awp_regionD rfl ?_
            refine o_mv (AV.ref 7 (0)) rfl ?_
            refine o_nilRef Gd.none rfl ?_
            refine o_fieldRef 1 Gd.none Yq_tF64_1 rfl rfl ?_
            refine o_fieldRef 2 Gd.none Yq_tF27_1 rfl rfl ?_
            refine o_loadS (AV.row 701) Gd.none Yq_tS25 rfl rfl rfl ?_
            refine o_fieldRef 1 Gd.none Yq_tF52_1 rfl rfl ?_
            refine o_loadS (AV.lit (.int .i64 ((((m.code).getD (c.at'.toNat) default)).reg))) Gd.none Yq_tS3 rfl rfl rfl ?_
            refine n_as (v' := (nm .i64 (((m.code).getD (c.at'.toNat) default).reg.toNat))) (nm_int (by omega)) ?_
            refine i_indexRow (c.regs) (((m.code).getD (c.at'.toNat) default).reg.toNat) Gd.none Yq_tE25 rfl rfl rfl (by omega) ?_
            refine i_loadRow (c.regs) (((m.code).getD (c.at'.toNat) default).reg.toNat) Gd.none Yq_tS3 rfl rfl (by omega) ?_
            refine o_sub (a := ((c.regs).getD (((m.code).getD (c.at'.toNat) default).reg.toNat) 0)) (c := (((1 : Nat) : Int))) Gd.none rfl rfl (by exact wrap64 (by omega) (by omega)) ?_
            refine i_indexRow (c.regs) (((m.code).getD (c.at'.toNat) default).reg.toNat) Gd.none Yq_tE25 rfl rfl rfl (by omega) ?_
            refine i_storeRow (c.regs) (((m.code).getD (c.at'.toNat) default).reg.toNat) (((c.regs).getD (((m.code).getD (c.at'.toNat) default).reg.toNat) 0) - (((1 : Nat) : Int))) [(8, (AO.var 52 [(AV.lit (.int .i64 ((((m.code).getD (c.at'.toNat) default)).kind))), (AV.lit (.int .i64 ((((m.code).getD (c.at'.toNat) default)).reg))), (AV.lit (.int .i64 ((((m.code).getD (c.at'.toNat) default)).next))), (AV.lit (.int .i64 ((((m.code).getD (c.at'.toNat) default)).els)))])), (9010, (AO.pin [(AV.ref 7 (0)), (macV m), (cfgV c), (AV.ref 2 (0)), (AV.ref 3 (0)), (AV.ref 4 (0)), (nm .i64 (0)), (AV.agg [(AV.lit (.int .i64 (m.regs))), (AV.sl 4 (gcells cI (m.code)))]), (AV.agg [(AV.lit (.int .i64 (c.at'))), (AV.sl 1 (is .i64 (c.regs)))]), (bp (okCfg m c)), (bp (¬ (okCfg m c))), (AV.agg [(AV.lit (.int .i64 (m.regs))), (AV.sl 4 (gcells cI (m.code)))]), (AV.agg [(AV.lit (.int .i64 (c.at'))), (AV.sl 1 (is .i64 (c.regs)))]), (AV.ref 7 (0)), (AV.ref 7 (0))] us1)), (4, (AO.var 27 [(nm .i64 (0)), (AV.lit (.slice none 0 0))])), (3, (AO.var 27 [(AV.lit (.int .i64 (c.at'))), (AV.sl 1 (is .i64 (c.regs)))])), (2, (AO.var 24 [(AV.lit (.int .i64 (m.regs))), (AV.sl 4 (gcells cI (m.code)))])), (7, (AO.var 64 [(AV.sl 4 (gcells cI (m.code))), (AV.lit (.int .i64 (c.at'))), (AV.row 701)])), (701, (AO.row 3 1 (is .i64 ((c.regs).set (((m.code).getD (c.at'.toNat) default).reg.toNat) (((c.regs).getD (((m.code).getD (c.at'.toNat) default).reg.toNat) 0) - (((1 : Nat) : Int)))))))] Gd.none Yq_tZ3 rfl rfl rfl (by omega) rfl ?_
            refine aops_end ⟨by kernel_rfl, ?_⟩
            refine hK16 _ ?_
            refine awp_seq fun K25 hK25 => ?_
            refine awp_region rfl ?_
            refine o_mv (AV.ref 7 (0)) rfl ?_
            refine o_mv (AV.lit (.int .i64 ((((m.code).getD (c.at'.toNat) default)).next))) rfl ?_
            refine o_nilRef Gd.none rfl ?_
            refine o_fieldRef 1 Gd.none Yq_tF64_1 rfl rfl ?_
            refine o_fieldRef 1 Gd.none Yq_tF27_0 rfl rfl ?_
            refine o_store [(8, (AO.var 52 [(AV.lit (.int .i64 ((((m.code).getD (c.at'.toNat) default)).kind))), (AV.lit (.int .i64 ((((m.code).getD (c.at'.toNat) default)).reg))), (AV.lit (.int .i64 ((((m.code).getD (c.at'.toNat) default)).next))), (AV.lit (.int .i64 ((((m.code).getD (c.at'.toNat) default)).els)))])), (9010, (AO.pin [(AV.ref 7 (0)), (macV m), (cfgV c), (AV.ref 2 (0)), (AV.ref 3 (0)), (AV.ref 4 (0)), (nm .i64 (0)), (AV.agg [(AV.lit (.int .i64 (m.regs))), (AV.sl 4 (gcells cI (m.code)))]), (AV.agg [(AV.lit (.int .i64 (c.at'))), (AV.sl 1 (is .i64 (c.regs)))]), (bp (okCfg m c)), (bp (¬ (okCfg m c))), (AV.agg [(AV.lit (.int .i64 (m.regs))), (AV.sl 4 (gcells cI (m.code)))]), (AV.agg [(AV.lit (.int .i64 (c.at'))), (AV.sl 1 (is .i64 (c.regs)))]), (AV.ref 7 (0)), (AV.ref 7 (0))] us1)), (4, (AO.var 27 [(nm .i64 (0)), (AV.lit (.slice none 0 0))])), (3, (AO.var 27 [(AV.lit (.int .i64 (c.at'))), (AV.sl 1 (is .i64 (c.regs)))])), (2, (AO.var 24 [(AV.lit (.int .i64 (m.regs))), (AV.sl 4 (gcells cI (m.code)))])), (7, (AO.var 64 [(AV.sl 4 (gcells cI (m.code))), (AV.lit (.int .i64 ((((m.code).getD (c.at'.toNat) default)).next))), (AV.row 701)])), (701, (AO.row 3 1 (is .i64 ((c.regs).set (((m.code).getD (c.at'.toNat) default).reg.toNat) (((c.regs).getD (((m.code).getD (c.at'.toNat) default).reg.toNat) 0) - (((1 : Nat) : Int)))))))] Gd.none Yq_tZ3 rfl rfl rfl rfl rfl rfl ?_
            refine aops_end ?_
            refine hK25 _ ?_
            refine awp_seq fun K26 hK26 => ?_
            have hE := stp_b (m := m) (c := c) hat h3 h5
            have he := hE.1
            have hnx := (nxC_0 he).trans hE.2
            refine awp_region rfl ?_
            refine o_as (nm .i64 (0)) rfl ?_
            refine aops_end ?_
            refine hK26 _ ?_
            refine awp_wk (σ' := ⟨[(2, (nm .i64 (0)))], [(9010, (AO.pin [(AV.ref 7 (0)), (macV m), (cfgV c), (AV.ref 2 (0)), (AV.ref 3 (0)), (AV.ref 4 (0)), (nm .i64 (0)), (AV.agg [(AV.lit (.int .i64 (m.regs))), (AV.sl 4 (gcells cI (m.code)))]), (AV.agg [(AV.lit (.int .i64 (c.at'))), (AV.sl 1 (is .i64 (c.regs)))]), (bp (okCfg m c)), (bp (¬ (okCfg m c))), (AV.agg [(AV.lit (.int .i64 (m.regs))), (AV.sl 4 (gcells cI (m.code)))]), (AV.agg [(AV.lit (.int .i64 (c.at'))), (AV.sl 1 (is .i64 (c.regs)))]), (AV.ref 7 (0)), (AV.ref 7 (0))] us1)), (4, (AO.var 27 [(nm .i64 (0)), (AV.lit (.slice none 0 0))])), (3, (AO.var 27 [(AV.lit (.int .i64 (c.at'))), (AV.sl 1 (is .i64 (c.regs)))])), (2, (AO.var 24 [(AV.lit (.int .i64 (m.regs))), (AV.sl 4 (gcells cI (m.code)))])), (7, (AO.var 64 [(AV.sl 4 (gcells cI (m.code))), (AV.lit (.int .i64 ((nxC m c).at'))), (AV.row 701)])), (701, (AO.row 3 1 (is .i64 ((nxC m c).regs))))]⟩) (Wk.sub (And.intro rfl (trivial)) (And.intro rfl (And.intro rfl (And.intro rfl (And.intro rfl (And.intro (by first | rfl | (rw [hnx]; rfl)) (And.intro (by first | rfl | (rw [hnx]; rfl)) (trivial)))))))) ?_
            refine awp_ret ?_
            try dsimp only [thenK, inBlk]
            refine postS_ret (extra := []) ?_ rfl
            refine ⟨[(nm .i64 (0))], And.intro (AV.le_refl _) (trivial), ?_⟩
            exact congrArg (nm .i64) he
          · refine awp_region rfl ?_
            refine o_fieldRef 3 Gd.none Yq_tF52_3 rfl rfl ?_
            refine o_loadS (AV.lit (.int .i64 ((((m.code).getD (c.at'.toNat) default)).els))) Gd.none Yq_tS3 rfl rfl rfl ?_
            refine o_as (AV.lit (.int .i64 ((((m.code).getD (c.at'.toNat) default)).els))) rfl ?_
            refine aops_end ?_
            refine hK16 _ ?_
            refine awp_seq fun K27 hK27 => ?_
            refine awp_region rfl ?_
            refine o_mv (AV.ref 7 (0)) rfl ?_
            refine o_mv (AV.lit (.int .i64 ((((m.code).getD (c.at'.toNat) default)).els))) rfl ?_
            refine o_nilRef Gd.none rfl ?_
            refine o_fieldRef 1 Gd.none Yq_tF64_1 rfl rfl ?_
            refine o_fieldRef 1 Gd.none Yq_tF27_0 rfl rfl ?_
            refine o_store [(8, (AO.var 52 [(AV.lit (.int .i64 ((((m.code).getD (c.at'.toNat) default)).kind))), (AV.lit (.int .i64 ((((m.code).getD (c.at'.toNat) default)).reg))), (AV.lit (.int .i64 ((((m.code).getD (c.at'.toNat) default)).next))), (AV.lit (.int .i64 ((((m.code).getD (c.at'.toNat) default)).els)))])), (9010, (AO.pin [(AV.ref 7 (0)), (macV m), (cfgV c), (AV.ref 2 (0)), (AV.ref 3 (0)), (AV.ref 4 (0)), (nm .i64 (0)), (AV.agg [(AV.lit (.int .i64 (m.regs))), (AV.sl 4 (gcells cI (m.code)))]), (AV.agg [(AV.lit (.int .i64 (c.at'))), (AV.sl 1 (is .i64 (c.regs)))]), (bp (okCfg m c)), (bp (¬ (okCfg m c))), (AV.agg [(AV.lit (.int .i64 (m.regs))), (AV.sl 4 (gcells cI (m.code)))]), (AV.agg [(AV.lit (.int .i64 (c.at'))), (AV.sl 1 (is .i64 (c.regs)))]), (AV.ref 7 (0)), (AV.ref 7 (0))] us1)), (4, (AO.var 27 [(nm .i64 (0)), (AV.lit (.slice none 0 0))])), (3, (AO.var 27 [(AV.lit (.int .i64 (c.at'))), (AV.sl 1 (is .i64 (c.regs)))])), (2, (AO.var 24 [(AV.lit (.int .i64 (m.regs))), (AV.sl 4 (gcells cI (m.code)))])), (7, (AO.var 64 [(AV.sl 4 (gcells cI (m.code))), (AV.lit (.int .i64 ((((m.code).getD (c.at'.toNat) default)).els))), (AV.row 701)])), (701, (AO.row 3 1 (is .i64 (c.regs))))] Gd.none Yq_tZ3 rfl rfl rfl rfl rfl rfl ?_
            refine aops_end ?_
            refine hK27 _ ?_
            refine awp_seq fun K28 hK28 => ?_
            have hE := stp_c (m := m) (c := c) hat h3 h5
            have he := hE.1
            have hnx := (nxC_0 he).trans hE.2
            refine awp_region rfl ?_
            refine o_as (nm .i64 (0)) rfl ?_
            refine aops_end ?_
            refine hK28 _ ?_
            refine awp_wk (σ' := ⟨[(2, (nm .i64 (0)))], [(9010, (AO.pin [(AV.ref 7 (0)), (macV m), (cfgV c), (AV.ref 2 (0)), (AV.ref 3 (0)), (AV.ref 4 (0)), (nm .i64 (0)), (AV.agg [(AV.lit (.int .i64 (m.regs))), (AV.sl 4 (gcells cI (m.code)))]), (AV.agg [(AV.lit (.int .i64 (c.at'))), (AV.sl 1 (is .i64 (c.regs)))]), (bp (okCfg m c)), (bp (¬ (okCfg m c))), (AV.agg [(AV.lit (.int .i64 (m.regs))), (AV.sl 4 (gcells cI (m.code)))]), (AV.agg [(AV.lit (.int .i64 (c.at'))), (AV.sl 1 (is .i64 (c.regs)))]), (AV.ref 7 (0)), (AV.ref 7 (0))] us1)), (4, (AO.var 27 [(nm .i64 (0)), (AV.lit (.slice none 0 0))])), (3, (AO.var 27 [(AV.lit (.int .i64 (c.at'))), (AV.sl 1 (is .i64 (c.regs)))])), (2, (AO.var 24 [(AV.lit (.int .i64 (m.regs))), (AV.sl 4 (gcells cI (m.code)))])), (7, (AO.var 64 [(AV.sl 4 (gcells cI (m.code))), (AV.lit (.int .i64 ((nxC m c).at'))), (AV.row 701)])), (701, (AO.row 3 1 (is .i64 ((nxC m c).regs))))]⟩) (Wk.sub (And.intro rfl (trivial)) (And.intro rfl (And.intro rfl (And.intro rfl (And.intro rfl (And.intro (by first | rfl | (rw [hnx]; rfl)) (And.intro (by first | rfl | (rw [hnx]; rfl)) (trivial)))))))) ?_
            refine awp_ret ?_
            try dsimp only [thenK, inBlk]
            refine postS_ret (extra := []) ?_ rfl
            refine ⟨[(nm .i64 (0))], And.intro (AV.le_refl _) (trivial), ?_⟩
            exact congrArg (nm .i64) he
    refine o_as (nm .i64 (stpE m c)) rfl ?_
    refine aops_end ?_
    refine hK9 _ ?_
    refine awp_seq fun K29 hK29 => ?_
    refine awp_region rfl ?_
    refine o_mv (nm .i64 (stpE m c)) rfl ?_
    refine n_neq (stpE m c) (0) Gd.none rfl rfl ?_
    refine aops_end ?_
    refine hK29 _ ?_
    refine awp_condQ (q := (stpE m c) ≠ (0)) rfl (fun h6 => ?_) (fun h6 => ?_)
    · refine awp_seq fun K30 hK30 => ?_
      refine awp_region rfl ?_
      refine o_build [(nm .i64 (0)), (AV.lit (.slice none 0 0))] [] Gd.none Yq_tP27 Yq_tO27 rfl rfl rfl ?_
      refine o_mv (nm .i64 (stpE m c)) rfl ?_
      refine o_store [(4, (AO.var 27 [(nm .i64 (0)), (AV.lit (.slice none 0 0))])), (3, (AO.var 27 [(AV.lit (.int .i64 (c.at'))), (AV.sl 1 (is .i64 (c.regs)))])), (2, (AO.var 24 [(AV.lit (.int .i64 (m.regs))), (AV.sl 4 (gcells cI (m.code)))])), (7, (AO.var 64 [(AV.sl 4 (gcells cI (m.code))), (AV.lit (.int .i64 ((nxC m c).at'))), (AV.row 701)])), (701, (AO.row 3 1 (is .i64 ((nxC m c).regs))))] Gd.none Yq_tZ27 rfl rfl rfl rfl rfl rfl ?_
      refine o_as (nm .i64 (stpE m c)) rfl ?_
      refine aops_end ?_
      refine hK30 _ ?_
      refine awp_ret ?_
      refine post_ret ⟨[(AV.agg [(AV.lit (.int .i64 (0))), (AV.sl 1 (is .i64 ([])))]), (nm .i64 (stpE m c))], And.intro ⟨4, (AO.var 27 [(nm .i64 (0)), (AV.lit (.slice none 0 0))]), rfl, rfl, rfl, Or.inl ⟨Yq_tA27, AV.le_agg (LeL.cons (AV.le_refl _) (LeL.cons (AV.le_nil' (by decide) (by first | rfl | simp [digs_zero, ns, is])) (LeL.nil)))⟩⟩ (And.intro (AV.le_refl _) (trivial)), rfl, ?_⟩
      rw [stA, stAE, if_pos hOK, if_pos hOK, resC_1 (by assumption)]; rfl
    · refine awp_skip ?_
      refine hK8 _ ?_
      refine awp_seq fun K31 hK31 => ?_
      refine awp_region rfl ?_
      refine o_mv (AV.ref 7 (0)) rfl ?_
      refine o_nilRef Gd.none rfl ?_
      refine o_fieldRef 1 Gd.none Yq_tF64_1 rfl rfl ?_
      refine o_loadA [(AV.lit (.int .i64 ((nxC m c).at'))), (AV.row 701)] Gd.none Yq_tA27 rfl rfl rfl rfl rfl ?_
      refine o_store [(4, (AO.var 27 [(AV.lit (.int .i64 ((nxC m c).at'))), (AV.row 701)])), (3, (AO.var 27 [(AV.lit (.int .i64 (c.at'))), (AV.sl 1 (is .i64 (c.regs)))])), (2, (AO.var 24 [(AV.lit (.int .i64 (m.regs))), (AV.sl 4 (gcells cI (m.code)))])), (7, (AO.var 64 [(AV.sl 4 (gcells cI (m.code))), (AV.lit (.int .i64 ((nxC m c).at'))), (AV.row 701)])), (701, (AO.row 3 1 (is .i64 ((nxC m c).regs))))] Gd.none Yq_tZ27 rfl rfl rfl rfl rfl rfl ?_
      refine o_as (nm .i64 (0)) rfl ?_
      refine aops_end ?_
      refine hK31 _ ?_
      refine awp_wk (σ' := ⟨[(4, (AV.ref 4 (0))), (5, (nm .i64 (0)))], [(4, (AO.var 27 [(AV.lit (.int .i64 ((nxC m c).at'))), (AV.row 701)])), (701, (AO.row 3 1 (is .i64 ((nxC m c).regs))))]⟩) (Wk.sub (And.intro rfl (And.intro rfl (trivial))) (And.intro rfl (And.intro rfl (trivial)))) ?_
      refine awp_wk (σ' := ⟨[(4, (AV.ref 4 (0))), (5, (nm .i64 (0)))], [(4, (AO.var 27 [(AV.lit (.int .i64 ((nxC m c).at'))), (AV.sl 1 (is .i64 ((nxC m c).regs)))]))]⟩) (Wk.freeze (id := 701) (e := 3) (sz := 1) (cs := (is .i64 ((nxC m c).regs))) rfl) ?_
      refine awp_ret ?_
      refine post_ret ⟨[(AV.agg [(AV.lit (.int .i64 ((nxC m c).at'))), (AV.sl 1 (is .i64 ((nxC m c).regs)))]), (nm .i64 (0))], And.intro ⟨4, (AO.var 27 [(AV.lit (.int .i64 ((nxC m c).at'))), (AV.sl 1 (is .i64 ((nxC m c).regs)))]), rfl, rfl, rfl, Or.inl ⟨Yq_tA27, AV.le_refl _⟩⟩ (And.intro (AV.le_refl _) (trivial)), rfl, ?_⟩
      have e0 : stpE m c = 0 := Decidable.not_not.1 (by assumption); rw [stA, stAE, if_pos hOK, if_pos hOK, resC_0 e0, ← nxC_0 e0, e0]; rfl

end Go.Proofs.YtpamhblonmpniaaDoor

set_option linter.unusedVariables false
set_option linter.unusedSimpArgs false
namespace Go.Proofs.YtpamhblonmpniaaDoor
open Go Go.Ab Go.Mth
theorem Yc_tC40 : callable cx.P 40 = true := by kernel_rfl
theorem Yc_tC50 : callable cx.P 50 = true := by kernel_rfl
theorem Yc_tF50_0 : tyField cx.P 50 0 = some (0, 9) := by kernel_rfl
theorem Yc_tS9 : tySc cx.P 9 = true := by kernel_rfl
theorem Yc_tC30 : callable cx.P 30 = true := by kernel_rfl
theorem Yc_tF50_1 : tyField cx.P 50 1 = some (1, 9) := by kernel_rfl
theorem Yc_tC71 : callable cx.P 71 = true := by kernel_rfl
theorem Yc_tA50 : tyAgg cx.P 50 = some 2 := by kernel_rfl
theorem Yc_tC60 : callable cx.P 60 = true := by kernel_rfl
theorem Yc_tU30 : cx.P.underlying 30 = some (.slice 50) := by kernel_rfl
theorem Yc_tE30 : tyElem cx.P 30 = some (50, 2, 32) := by kernel_rfl
theorem Yc_tC59 : callable cx.P 59 = true := by kernel_rfl
theorem Yc_tC70 : callable cx.P 70 = true := by kernel_rfl
theorem Yc_tC58 : callable cx.P 58 = true := by kernel_rfl
theorem Yc_tC48 : callable cx.P 48 = true := by kernel_rfl
theorem Yc_tO50 : tyZero cx.P 50 = some [(Go.Value.string {data := #[]}), (Go.Value.string {data := #[]})] := by kernel_rfl
theorem Yc_tZ50 : tySize cx.P 50 = some 2 := by kernel_rfl
theorem Yc_tC49 : callable cx.P 49 = true := by kernel_rfl
theorem Yc_tC28 : callable cx.P 28 = true := by kernel_rfl
theorem Yc_tC29 : callable cx.P 29 = true := by kernel_rfl
theorem c_positive (a : ByteArray) (ha : a.size ≤ 9223372036854775807) : ECalls cx 30 [(AV.lit (.string (a)))] (nm .i64 (posE a)) := by
  refine ecalls_of_awp Tryd.func30 (c := _) rfl (Nat.le_of_ble_eq_true rfl) ?_
  show awp cx 15 _ (postF cx Tryd.f30 _) ⟨[(0, (AV.lit (.string (a))))], []⟩
  refine awp_seq fun K0 hK0 => ?_
  refine awp_region rfl ?_
  refine o_as (nm .i64 (0)) rfl ?_
  refine aops_end ?_
  refine hK0 _ ?_
  refine awp_seq fun K1 hK1 => ?_
  refine awp_seq fun K2 hK2 => ?_
  refine awp_region rfl ?_
  refine o_mv (AV.lit (.string (a))) rfl ?_
  refine o_ct (c_nValid (a) (by first | assumption | decide | omega)) Gd.none Yc_tC40 rfl ?_
  refine o_not (b := okS (a)) Gd.none rfl ?_
  refine aops_end ?_
  refine hK2 _ ?_
  refine awp_condB (b := !(okS (a))) rfl (fun h1 => ?_) (fun h1 => ?_)
  · refine awp_seq fun K3 hK3 => ?_
    refine awp_region rfl ?_
    refine o_as (nm .i64 (1)) rfl ?_
    refine aops_end ?_
    refine hK3 _ ?_
    refine awp_ret ?_
    refine post_ret ⟨[(nm .i64 (1))], And.intro (AV.le_refl _) (trivial), rfl, ?_⟩
    exact congrArg (nm .i64) (if_neg (by simpa using h1))
  · refine awp_skip ?_
    refine hK1 _ ?_
    refine awp_seq fun K4 hK4 => ?_
    refine awp_seq fun K5 hK5 => ?_
    refine awp_region rfl ?_
    refine o_mv (AV.lit (.string (a))) rfl ?_
    refine o_ct (c_nCompare (a) (({data := #[48]} : ByteArray)) (by first | assumption | decide | omega) (by first | assumption | decide | omega)) Gd.none Yc_tC50 rfl ?_
    refine o_mv (AV.tup [(AV.lit (.int .i64 ((if okS (a) && okS (({data := #[48]} : ByteArray)) then (cmpZ (numS (a)) (numS (({data := #[48]} : ByteArray)))) else (0))))), (nm .i64 ((if okS (a) && okS (({data := #[48]} : ByteArray)) then (0) else (1))))]) rfl ?_
    refine o_extract (AV.lit (.int .i64 ((if okS (a) && okS (({data := #[48]} : ByteArray)) then (cmpZ (numS (a)) (numS (({data := #[48]} : ByteArray)))) else (0))))) Gd.none rfl rfl ?_
    refine o_extract (nm .i64 ((if okS (a) && okS (({data := #[48]} : ByteArray)) then (0) else (1)))) Gd.none rfl rfl ?_
    refine o_as (AV.lit (.int .i64 ((if okS (a) && okS (({data := #[48]} : ByteArray)) then (cmpZ (numS (a)) (numS (({data := #[48]} : ByteArray)))) else (0))))) rfl ?_
    refine o_as (nm .i64 ((if okS (a) && okS (({data := #[48]} : ByteArray)) then (0) else (1)))) rfl ?_
    refine aops_end ?_
    refine hK5 _ ?_
    refine awp_seq fun K6 hK6 => ?_
    refine awp_region rfl ?_
    refine o_mv (AV.lit (.int .i64 ((if okS (a) && okS (({data := #[48]} : ByteArray)) then (cmpZ (numS (a)) (numS (({data := #[48]} : ByteArray)))) else (0))))) rfl ?_
    refine o_leq (a := ((if okS (a) && okS (({data := #[48]} : ByteArray)) then (cmpZ (numS (a)) (numS (({data := #[48]} : ByteArray)))) else (0)))) (c := (((0 : Nat) : Int))) Gd.none rfl rfl ?_
    refine aops_end ?_
    refine hK6 _ ?_
    refine awp_condQ (q := ((if okS (a) && okS (({data := #[48]} : ByteArray)) then (cmpZ (numS (a)) (numS (({data := #[48]} : ByteArray)))) else (0))) ≤ (((0 : Nat) : Int))) rfl (fun h2 => ?_) (fun h2 => ?_)
    · refine awp_seq fun K7 hK7 => ?_
      refine awp_region rfl ?_
      refine o_as (nm .i64 (2)) rfl ?_
      refine aops_end ?_
      refine hK7 _ ?_
      refine awp_ret ?_
      refine post_ret ⟨[(nm .i64 (2))], And.intro (AV.le_refl _) (trivial), rfl, ?_⟩
      exact congrArg (nm .i64) ((if_pos (by simpa using h1)).trans (if_neg (fun e => absurd (cmpZ_le.1 (by rw [cmp_0 a (by simpa using h1)] at h2; exact h2)) (by omega))))
    · refine awp_skip ?_
      refine hK4 _ ?_
      refine awp_seq fun K8 hK8 => ?_
      refine awp_region rfl ?_
      refine o_as (nm .i64 (0)) rfl ?_
      refine aops_end ?_
      refine hK8 _ ?_
      refine awp_ret ?_
      refine post_ret ⟨[(nm .i64 (0))], And.intro (AV.le_refl _) (trivial), rfl, ?_⟩
      exact congrArg (nm .i64) ((if_pos (by simpa using h1)).trans (if_pos (by rw [cmp_0 a (by simpa using h1)] at h2; have := (not_congr cmpZ_le).1 h2; omega)))

theorem c_reduced (f : Frc) (hn : f.num.size ≤ 9223372036854775807) (hd : f.den.size ≤ 9223372036854775807) : ECalls cx 60 [(AV.agg [(AV.lit (.string ((f).num))), (AV.lit (.string ((f).den)))])] (bp (redP f)) := by
  refine ecalls_of_awp Tryd.func60 (c := _) rfl (Nat.le_of_ble_eq_true rfl) ?_
  show awp cx 25 _ (postF cx Tryd.f60 _) ⟨[(0, (AV.agg [(AV.lit (.string ((f).num))), (AV.lit (.string ((f).den)))]))], []⟩
  refine awp_seq fun K0 hK0 => ?_
  refine awp_region rfl ?_
  refine o_box 2 [(AV.lit (.string ((f).num))), (AV.lit (.string ((f).den)))] Gd.none rfl rfl ?_
  refine o_as (AV.lit (.bool false)) rfl ?_
  refine aops_end ?_
  refine hK0 _ ?_
  refine awp_seq fun K1 hK1 => ?_
  refine awp_seq fun K2 hK2 => ?_
  refine awp_region rfl ?_
  refine o_fieldRef 0 Gd.none Yc_tF50_0 rfl rfl ?_
  refine o_loadS (AV.lit (.string ((f).num))) Gd.none Yc_tS9 rfl rfl rfl ?_
  refine o_ct (c_positive ((f).num) (by first | assumption | decide | omega)) Gd.none Yc_tC30 rfl ?_
  refine n_neq (posE ((f).num)) (0) Gd.none rfl rfl ?_
  refine o_mv (bp ((posE ((f).num)) ≠ (0))) rfl ?_
  refine o_splitP (q := (posE ((f).num)) ≠ (0)) 9 rfl (fun h1 => ?_) (fun h1 => ?_)
  · refine o_skip rfl rfl (decide_eq_true h1) ?_
    refine o_skip rfl rfl (decide_eq_true h1) ?_
    refine o_skip rfl rfl (decide_eq_true h1) ?_
    refine o_skip rfl rfl (decide_eq_true h1) ?_
    refine o_pickT (AV.lit (.bool true)) Gd.none rfl (decide_eq_true h1) rfl ?_
    refine aops_end ?_
    refine hK2 _ ?_
    refine awp_condB (b := true) rfl (fun _ => ?_) (fun hh => absurd (hh.symm.trans rfl) (by decide))
    refine awp_seq fun K3 hK3 => ?_
    refine awp_region rfl ?_
    refine o_as (AV.lit (.bool false)) rfl ?_
    refine aops_end ?_
    refine hK3 _ ?_
    refine awp_ret ?_
    refine post_ret ⟨[(AV.lit (.bool false))], And.intro (AV.le_refl _) (trivial), rfl, ?_⟩
    exact bpn (fun o => h1 (posE_0.2 o.1))
  · refine o_fieldRef 1 (Gd.yes rfl rfl (decide_eq_false h1)) Yc_tF50_1 rfl rfl ?_
    refine o_loadS (AV.lit (.string ((f).den))) (Gd.yes rfl rfl (decide_eq_false h1)) Yc_tS9 rfl rfl rfl ?_
    refine o_ct (c_positive ((f).den) (by first | assumption | decide | omega)) (Gd.yes rfl rfl (decide_eq_false h1)) Yc_tC30 rfl ?_
    refine n_neq (posE ((f).den)) (0) (Gd.yes rfl rfl (decide_eq_false h1)) rfl rfl ?_
    refine o_pickF (bp ((posE ((f).den)) ≠ (0))) Gd.none rfl (decide_eq_false h1) rfl ?_
    refine aops_end ?_
    refine hK2 _ ?_
    refine awp_condQ (q := (posE ((f).den)) ≠ (0)) rfl (fun h2 => ?_) (fun h2 => ?_)
    · refine awp_seq fun K4 hK4 => ?_
      refine awp_region rfl ?_
      refine o_as (AV.lit (.bool false)) rfl ?_
      refine aops_end ?_
      refine hK4 _ ?_
      refine awp_ret ?_
      refine post_ret ⟨[(AV.lit (.bool false))], And.intro (AV.le_refl _) (trivial), rfl, ?_⟩
      exact bpn (fun o => h2 (posE_0.2 o.2.1))
    · refine awp_skip ?_
      refine hK1 _ ?_
      refine awp_seq fun K5 hK5 => ?_
      refine awp_region rfl ?_
      refine o_fieldRef 0 Gd.none Yc_tF50_0 rfl rfl ?_
      refine o_loadS (AV.lit (.string ((f).num))) Gd.none Yc_tS9 rfl rfl rfl ?_
      refine o_fieldRef 1 Gd.none Yc_tF50_1 rfl rfl ?_
      refine o_loadS (AV.lit (.string ((f).den))) Gd.none Yc_tS9 rfl rfl rfl ?_
      refine o_ct (c_nGcd ((f).num) ((f).den) (by first | assumption | decide | omega) (by first | assumption | decide | omega)) Gd.none Yc_tC71 rfl ?_
      refine o_mv (AV.tup [(AV.lit (.string ((if okS ((f).num) && okS ((f).den) then (toldS ((Int.gcd (numS ((f).num)) (numS ((f).den)) : Nat) : Int)) else (({ data := #[] } : ByteArray)))))), (nm .i64 ((if okS ((f).num) && okS ((f).den) then (toldE ((Int.gcd (numS ((f).num)) (numS ((f).den)) : Nat) : Int)) else (1))))]) rfl ?_
      refine o_extract (AV.lit (.string ((if okS ((f).num) && okS ((f).den) then (toldS ((Int.gcd (numS ((f).num)) (numS ((f).den)) : Nat) : Int)) else (({ data := #[] } : ByteArray)))))) Gd.none rfl rfl ?_
      refine o_extract (nm .i64 ((if okS ((f).num) && okS ((f).den) then (toldE ((Int.gcd (numS ((f).num)) (numS ((f).den)) : Nat) : Int)) else (1)))) Gd.none rfl rfl ?_
      refine o_as (AV.lit (.string ((if okS ((f).num) && okS ((f).den) then (toldS ((Int.gcd (numS ((f).num)) (numS ((f).den)) : Nat) : Int)) else (({ data := #[] } : ByteArray)))))) rfl ?_
      refine o_as (nm .i64 ((if okS ((f).num) && okS ((f).den) then (toldE ((Int.gcd (numS ((f).num)) (numS ((f).den)) : Nat) : Int)) else (1)))) rfl ?_
      refine aops_end ?_
      refine hK5 _ ?_
      refine awp_seq fun K6 hK6 => ?_
      refine awp_region rfl ?_
      refine o_mv (AV.lit (.string ((if okS ((f).num) && okS ((f).den) then (toldS ((Int.gcd (numS ((f).num)) (numS ((f).den)) : Nat) : Int)) else (({ data := #[] } : ByteArray)))))) rfl ?_
      refine o_eqlS (a := ((if okS ((f).num) && okS ((f).den) then (toldS ((Int.gcd (numS ((f).num)) (numS ((f).den)) : Nat) : Int)) else (({ data := #[] } : ByteArray))))) (c := (({data := #[49]} : ByteArray))) Gd.none rfl rfl ?_
      refine o_as (bp (((if okS ((f).num) && okS ((f).den) then (toldS ((Int.gcd (numS ((f).num)) (numS ((f).den)) : Nat) : Int)) else (({ data := #[] } : ByteArray)))).toList = (({data := #[49]} : ByteArray)).toList)) rfl ?_
      refine aops_end ?_
      refine hK6 _ ?_
      refine awp_ret ?_
      refine post_ret ⟨[(bp (((if okS ((f).num) && okS ((f).den) then (toldS ((Int.gcd (numS ((f).num)) (numS ((f).den)) : Nat) : Int)) else (({ data := #[] } : ByteArray)))).toList = (({data := #[49]} : ByteArray)).toList))], And.intro (AV.le_refl _) (trivial), rfl, ?_⟩
      exact bpc (by have g1 := posE_0.1 (Decidable.not_not.1 h1); have g2 := posE_0.1 (Decidable.not_not.1 h2); rw [gcd_one ⟨g1.1, g2.1⟩]; exact ⟨fun o => o.2.2, fun o => ⟨g1, g2, o⟩⟩)

theorem c_list1 (f : Frc) (hn : f.num.size ≤ 9223372036854775807) (hd : f.den.size ≤ 9223372036854775807) : ECalls cx 59 [(AV.agg [(AV.lit (.string ((f).num))), (AV.lit (.string ((f).den)))])] (bp (¬ redP f)) := by
  refine ecalls_of_awp Tryd.func59 (c := _) rfl (Nat.le_of_ble_eq_true rfl) ?_
  show awp cx 6 _ (postF cx Tryd.f59 _) ⟨[(0, (AV.agg [(AV.lit (.string ((f).num))), (AV.lit (.string ((f).den)))]))], []⟩
  refine awp_seq fun K0 hK0 => ?_
  refine awp_region rfl ?_
  refine o_box 2 [(AV.lit (.string ((f).num))), (AV.lit (.string ((f).den)))] Gd.none rfl rfl ?_
  refine o_as (AV.lit (.bool false)) rfl ?_
  refine aops_end ?_
  refine hK0 _ ?_
  refine awp_seq fun K1 hK1 => ?_
  refine awp_region rfl ?_
  refine o_loadA [(AV.lit (.string ((f).num))), (AV.lit (.string ((f).den)))] Gd.none Yc_tA50 rfl rfl rfl rfl rfl ?_
  refine o_ct (c_reduced (f) (by first | assumption | decide | omega) (by first | assumption | decide | omega)) Gd.none Yc_tC60 rfl ?_
  refine o_notP (q := redP (f)) Gd.none rfl ?_
  refine o_as (bp (¬ (redP (f)))) rfl ?_
  refine aops_end ?_
  refine hK1 _ ?_
  refine awp_ret ?_
  refine post_ret ⟨[(bp (¬ (redP (f))))], And.intro (AV.le_refl _) (trivial), rfl, ?_⟩
  rfl

theorem c_ixFrc (l : List Frc) (hl : l.length ≤ 100) (hS : ∀ f ∈ l, f.num.size ≤ 9223372036854775807 ∧ f.den.size ≤ 9223372036854775807) : ECalls cx 70 [(AV.sl 2 (gcells cF (l))), (AV.clo 59 [])] (.lit (.int .i64 (ixP (fun f => ¬ redP f) l))) := by
  refine ecalls_of_awp Tryd.func70 (c := _) rfl (Nat.le_of_ble_eq_true rfl) ?_
  show awp cx 19 _ (postF cx Tryd.f70 _) ⟨[(0, (AV.sl 2 (gcells cF (l)))), (1, (AV.clo 59 []))], []⟩
  refine awp_seq fun K0 hK0 => ?_
  refine awp_region rfl ?_
  refine o_as (nm .i64 (0)) rfl ?_
  refine aops_end ?_
  refine hK0 _ ?_
  refine awp_seq fun K1 hK1 => ?_
  refine awp_seq fun K2 hK2 => ?_
  refine awp_region rfl ?_
  refine o_mv (AV.sl 2 (gcells cF (l))) rfl ?_
  refine g_len cF (l) cF_len Gd.none Yc_tU30 rfl ?_
  refine o_mv (nm .i64 (0)) rfl ?_
  refine aops_end ?_
  refine hK2 _ ?_
  refine awp_block ?_
  refine awp_loopR (fun κ σ => ∃ (i : Nat), (i ≤ l.length) ∧ (∀ k, k < i → ¬ ((fun f => ¬ redP f) ((l).getD k default))) ∧ (l.length - i) = κ ∧ σ = ⟨[(0, (AV.sl 2 (gcells cF (l)))), (1, (AV.clo 59 [])), (7, (nm .i64 (l.length))), (8, (nm .i64 (i)))], []⟩) ⟨_, _, ⟨0, (by omega), (fun k hk => by omega), rfl, rfl⟩, ?wk0⟩ ?rd0
  case wk0 =>
    exact Wk.sub (And.intro rfl (And.intro rfl (And.intro (by first | rfl | exact congrArg (nm _) (by omega) | exact nm_int (by omega) | exact nm_int (by simp [IntKind.wrap, IntKind.bits, IntKind.signed]; omega)) (And.intro (by first | rfl | exact congrArg (nm _) (by omega) | exact nm_int (by omega) | exact nm_int (by simp [IntKind.wrap, IntKind.bits, IntKind.signed]; omega)) (trivial))))) (trivial)
  rintro κ _ ⟨i, hi, hb, rfl, rfl⟩
  refine awp_seq fun K3 hK3 => ?_
  refine awp_region rfl ?_
  refine n_lss (i) (l.length) Gd.none rfl rfl ?_
  refine aops_end ?_
  refine hK3 _ ?_
  refine awp_seq fun K4 hK4 => ?_
  refine awp_condQ (q := (i) < (l.length)) rfl (fun h1 => ?_) (fun h1 => ?_)
  · refine awp_skip ?_
    refine hK4 _ ?_
    refine awp_seq fun K5 hK5 => ?_
    refine awp_block ?_
    refine awp_seq fun K6 hK6 => ?_
    refine awp_region rfl ?_
    refine o_mv (nm .i64 (i)) rfl ?_
    refine o_as (nm .i64 (i)) rfl ?_
    refine aops_end ?_
    refine hK6 _ ?_
    refine awp_seq fun K7 hK7 => ?_
    refine awp_region rfl ?_
    refine o_mv (AV.clo 59 []) rfl ?_
    refine o_mv (AV.sl 2 (gcells cF (l))) rfl ?_
    refine o_mv (nm .i64 (i)) rfl ?_
    refine g_index cF (l) (i) cF_len rfl Gd.none Yc_tE30 rfl rfl (by omega) ?_
    refine g_loadA cF (l) (i) default cF_len Gd.none Yc_tA50 rfl (by omega) ?_
    refine o_callG [] [(AV.agg [(AV.lit (.string ((((l).getD (i) default)).num))), (AV.lit (.string ((((l).getD (i) default)).den)))])] _ (bp (¬ (redP (((l).getD (i) default))))) [] Gd.none Yc_tC59 rfl (trivial) rfl rfl (LeL.cons (AV.le_refl _) (LeL.nil)) (c_list1 (((l).getD (i) default)) (hS _ (gdm (by omega))).1 (hS _ (gdm (by omega))).2) rfl ?_
    refine aops_end ?_
    refine hK7 _ ?_
    refine awp_condQ (q := ¬ (redP (((l).getD (i) default)))) rfl (fun h2 => ?_) (fun h2 => ?_)
    · refine awp_seq fun K8 hK8 => ?_
      refine awp_region rfl ?_
      refine o_mv (nm .i64 (i)) rfl ?_
      refine o_as (nm .i64 (i)) rfl ?_
      refine aops_end ?_
      refine hK8 _ ?_
      refine awp_ret ?_
      refine post_ret ⟨[(nm .i64 (i))], And.intro (AV.le_refl _) (trivial), rfl, ?_⟩
      exact congrArg (fun z => AV.lit (.int .i64 z)) (ixP_hit (d := default) (by omega) (by assumption) hb)
    · refine awp_skip ?_
      refine hK5 _ ?_
      refine awp_region rfl ?_
      refine n_add (i) (1) Gd.none rfl rfl (by simp only [topOf]; omega) ?_
      refine o_mv (nm .i64 ((i) + (1))) rfl ?_
      refine aops_end ?_
      refine ⟨_, _, ?lt, ⟨i + 1, (by omega), (fun k hk => by rcases Nat.lt_or_ge k i with e | e; exact hb k e; rw [show k = i by omega]; assumption), rfl, rfl⟩, ?wk⟩
      case lt => omega
      case wk => exact Wk.sub (And.intro rfl (And.intro rfl (And.intro rfl (And.intro (by first | rfl | exact congrArg (nm _) (by omega) | exact nm_int (by omega) | exact nm_int (by simp [IntKind.wrap, IntKind.bits, IntKind.signed]; omega)) (trivial))))) (trivial)
  · refine awp_exit ?_
    refine hK1 _ ?_
    refine awp_seq fun K9 hK9 => ?_
    refine awp_region rfl ?_
    refine o_as (AV.lit (.int .i64 ((-1)))) rfl ?_
    refine aops_end ?_
    refine hK9 _ ?_
    refine awp_ret ?_
    refine post_ret ⟨[(AV.lit (.int .i64 ((-1))))], And.intro (AV.le_refl _) (trivial), rfl, ?_⟩
    exact congrArg (fun z => AV.lit (.int .i64 z)) (ixP_none (d := default) (by omega) hb)

theorem c_hasFrc (l : List Frc) (hl : l.length ≤ 100) (hS : ∀ f ∈ l, f.num.size ≤ 9223372036854775807 ∧ f.den.size ≤ 9223372036854775807) : ECalls cx 58 [(AV.sl 2 (gcells cF (l))), (AV.clo 59 [])] (bp (∃ x ∈ l, (fun f => ¬ redP f) x)) := by
  refine ecalls_of_awp Tryd.func58 (c := _) rfl (Nat.le_of_ble_eq_true rfl) ?_
  show awp cx 9 _ (postF cx Tryd.f58 _) ⟨[(0, (AV.sl 2 (gcells cF (l)))), (1, (AV.clo 59 []))], []⟩
  refine awp_seq fun K0 hK0 => ?_
  refine awp_region rfl ?_
  refine o_as (AV.lit (.bool false)) rfl ?_
  refine aops_end ?_
  refine hK0 _ ?_
  refine awp_seq fun K1 hK1 => ?_
  refine awp_region rfl ?_
  refine o_mv (AV.sl 2 (gcells cF (l))) rfl ?_
  refine o_mv (AV.clo 59 []) rfl ?_
  refine o_ct (c_ixFrc (l) (by omega) (by assumption)) Gd.none Yc_tC70 rfl ?_
  refine o_geq (a := (ixP (fun f => ¬ redP f) (l))) (c := (((0 : Nat) : Int))) Gd.none rfl rfl ?_
  refine o_as (bp ((((0 : Nat) : Int)) ≤ (ixP (fun f => ¬ redP f) (l)))) rfl ?_
  refine aops_end ?_
  refine hK1 _ ?_
  refine awp_ret ?_
  refine post_ret ⟨[(bp ((((0 : Nat) : Int)) ≤ (ixP (fun f => ¬ redP f) (l))))], And.intro (AV.le_refl _) (trivial), rfl, ?_⟩
  exact bpc (ixP_nn (p := fun f => ¬ redP f))

theorem c_list (l : List Frc) (hS : ∀ f ∈ l, f.num.size ≤ 9223372036854775807 ∧ f.den.size ≤ 9223372036854775807) : ECalls cx 48 [(AV.sl 2 (gcells cF (l)))] (bp (lstP l)) := by
  refine ecalls_of_awp Tryd.func48 (c := _) rfl (Nat.le_of_ble_eq_true rfl) ?_
  show awp cx 11 _ (postF cx Tryd.f48 _) ⟨[(0, (AV.sl 2 (gcells cF (l))))], []⟩
  refine awp_seq fun K0 hK0 => ?_
  refine awp_region rfl ?_
  refine o_as (AV.lit (.bool false)) rfl ?_
  refine aops_end ?_
  refine hK0 _ ?_
  refine awp_seq fun K1 hK1 => ?_
  refine awp_region rfl ?_
  refine o_mv (AV.sl 2 (gcells cF (l))) rfl ?_
  refine g_len cF (l) cF_len Gd.none Yc_tU30 rfl ?_
  refine n_leq ((l).length) (100) Gd.none rfl rfl ?_
  refine o_mv (bp (((l).length) ≤ (100))) rfl ?_
  refine o_splitP (q := ((l).length) ≤ (100)) 6 rfl (fun h1 => ?_) (fun h1 => ?_)
  · refine o_move (AV.sl 2 (gcells cF (l))) (Gd.yes rfl rfl (decide_eq_true h1)) rfl ?_
    refine o_ct (c_hasFrc (l) (by omega) (by assumption)) (Gd.yes rfl rfl (decide_eq_true h1)) Yc_tC58 rfl ?_
    refine o_notP (q := ∃ x ∈ (l), (fun f => ¬ redP f) x) (Gd.yes rfl rfl (decide_eq_true h1)) rfl ?_
    refine o_pickT (bp (¬ (∃ x ∈ (l), (fun f => ¬ redP f) x))) Gd.none rfl (decide_eq_true h1) rfl ?_
    refine o_as (bp (¬ (∃ x ∈ (l), (fun f => ¬ redP f) x))) rfl ?_
    refine aops_end ?_
    refine hK1 _ ?_
    refine awp_ret ?_
    refine post_ret ⟨[(bp (¬ (∃ x ∈ (l), (fun f => ¬ redP f) x)))], And.intro (AV.le_refl _) (trivial), rfl, ?_⟩
    first | exact bpn (fun o => absurd o.1 (by omega)) | exact bpc ⟨fun o => (by rintro ⟨x, hx, hn⟩; exact hn (o.2 x hx)), fun o => ⟨by omega, fun x hx => Decidable.not_not.1 fun hn => o ⟨x, hx, hn⟩⟩⟩
  · refine o_skip rfl rfl (decide_eq_false h1) ?_
    refine o_skip rfl rfl (decide_eq_false h1) ?_
    refine o_skip rfl rfl (decide_eq_false h1) ?_
    refine o_pickF (AV.lit (.bool false)) Gd.none rfl (decide_eq_false h1) rfl ?_
    refine o_as (AV.lit (.bool false)) rfl ?_
    refine aops_end ?_
    refine hK1 _ ?_
    refine awp_ret ?_
    refine post_ret ⟨[(AV.lit (.bool false))], And.intro (AV.le_refl _) (trivial), rfl, ?_⟩
    first | exact bpn (fun o => absurd o.1 (by omega)) | exact bpc ⟨fun o => (by rintro ⟨x, hx, hn⟩; exact hn (o.2 x hx)), fun o => ⟨by omega, fun x hx => Decidable.not_not.1 fun hn => o ⟨x, hx, hn⟩⟩⟩

theorem c_asks (l : List Frc) (n : ByteArray) (hS : ∀ f ∈ l, f.num.size ≤ 9223372036854775807 ∧ f.den.size ≤ 9223372036854775807) (hn : n.size ≤ 9223372036854775807) : ECalls cx 28 [(AV.sl 2 (gcells cF (l))), (AV.lit (.string (n)))] (nm .i64 (askE l n)) := by
  refine ecalls_of_awp Tryd.func28 (c := _) rfl (Nat.le_of_ble_eq_true rfl) ?_
  show awp cx 10 _ (postF cx Tryd.f28 _) ⟨[(0, (AV.sl 2 (gcells cF (l)))), (1, (AV.lit (.string (n))))], []⟩
  refine awp_seq fun K0 hK0 => ?_
  refine awp_region rfl ?_
  refine o_as (nm .i64 (0)) rfl ?_
  refine aops_end ?_
  refine hK0 _ ?_
  refine awp_seq fun K1 hK1 => ?_
  refine awp_seq fun K2 hK2 => ?_
  refine awp_region rfl ?_
  refine o_mv (AV.sl 2 (gcells cF (l))) rfl ?_
  refine o_ct (c_list (l) (by assumption)) Gd.none Yc_tC48 rfl ?_
  refine o_notP (q := lstP (l)) Gd.none rfl ?_
  refine aops_end ?_
  refine hK2 _ ?_
  refine awp_condQ (q := ¬ (lstP (l))) rfl (fun h1 => ?_) (fun h1 => ?_)
  · refine awp_seq fun K3 hK3 => ?_
    refine awp_region rfl ?_
    refine o_as (nm .i64 (1)) rfl ?_
    refine aops_end ?_
    refine hK3 _ ?_
    refine awp_ret ?_
    refine post_ret ⟨[(nm .i64 (1))], And.intro (AV.le_refl _) (trivial), rfl, ?_⟩
    exact congrArg (nm .i64) (if_neg (by assumption))
  · refine awp_skip ?_
    refine hK1 _ ?_
    refine awp_seq fun K4 hK4 => ?_
    refine awp_region rfl ?_
    refine o_mv (AV.lit (.string (n))) rfl ?_
    refine o_ct (c_positive (n) (by first | assumption | decide | omega)) Gd.none Yc_tC30 rfl ?_
    refine o_as (nm .i64 (posE (n))) rfl ?_
    refine aops_end ?_
    refine hK4 _ ?_
    refine awp_ret ?_
    refine post_ret ⟨[(nm .i64 (posE (n)))], And.intro (AV.le_refl _) (trivial), rfl, ?_⟩
    exact congrArg (nm .i64) (if_pos (Decidable.not_not.1 (by assumption)))

theorem c_first (l : List Frc) (n : ByteArray) (hS : ∀ f ∈ l, f.num.size ≤ 9223372036854775807 ∧ f.den.size ≤ 9223372036854775807) (hl : lstP l) (hk : okS n = true) (hn : n.size ≤ 9223372036854775807) : ECalls cx 29 [(AV.sl 2 (gcells cF (l))), (AV.lit (.string (n)))] (.tup [.lit (.int .i64 (fstI l (numS n))), .lit (.string (fstS l (numS n)))]) := by
  refine ecalls_of_awp Tryd.func29 (c := _) rfl (Nat.le_of_ble_eq_true rfl) ?_
  show awp cx 31 _ (postF cx Tryd.f29 _) ⟨[(0, (AV.sl 2 (gcells cF (l)))), (1, (AV.lit (.string (n))))], []⟩
  refine awp_seq fun K0 hK0 => ?_
  refine awp_region rfl ?_
  refine o_as (nm .i64 (0)) rfl ?_
  refine o_as (AV.lit (.string (({data := #[]} : ByteArray)))) rfl ?_
  refine aops_end ?_
  refine hK0 _ ?_
  refine awp_seq fun K1 hK1 => ?_
  refine awp_seq fun K2 hK2 => ?_
  refine awp_region rfl ?_
  refine o_mv (AV.sl 2 (gcells cF (l))) rfl ?_
  refine g_len cF (l) cF_len Gd.none Yc_tU30 rfl ?_
  refine o_mv (nm .i64 (0)) rfl ?_
  refine aops_end ?_
  refine hK2 _ ?_
  refine awp_block ?_
  refine awp_loopR (fun κ σ => ∃ (i : Nat), (i ≤ l.length) ∧ (∀ k, k < i → ¬ hitP (numS n) (l.getD k default)) ∧ (l.length - i) = κ ∧ σ = ⟨[(1, (AV.lit (.string (n)))), (11, (AV.sl 2 (gcells cF (l)))), (12, (nm .i64 (l.length))), (13, (nm .i64 (i)))], []⟩) ⟨_, _, ⟨0, (by omega), (fun k hk => by omega), rfl, rfl⟩, ?wk0⟩ ?rd0
  case wk0 =>
    exact Wk.sub (And.intro rfl (And.intro rfl (And.intro (by first | rfl | exact congrArg (nm _) (by omega) | exact nm_int (by omega) | exact nm_int (by simp [IntKind.wrap, IntKind.bits, IntKind.signed]; omega)) (And.intro (by first | rfl | exact congrArg (nm _) (by omega) | exact nm_int (by omega) | exact nm_int (by simp [IntKind.wrap, IntKind.bits, IntKind.signed]; omega)) (trivial))))) (trivial)
  rintro κ _ ⟨i, hi, hb, rfl, rfl⟩
  have hl1 := hl.1
  refine awp_seq fun K3 hK3 => ?_
  refine awp_region rfl ?_
  refine n_lss (i) (l.length) Gd.none rfl rfl ?_
  refine aops_end ?_
  refine hK3 _ ?_
  refine awp_seq fun K4 hK4 => ?_
  refine awp_condQ (q := (i) < (l.length)) rfl (fun h1 => ?_) (fun h1 => ?_)
  · have hq := hit_str hl hk h1
    have hSi := hS _ (gdm (d := default) h1)
    have hSd := hSi.2
    refine awp_skip ?_
    refine hK4 _ ?_
    refine awp_seq fun K5 hK5 => ?_
    refine awp_block ?_
    refine awp_seq fun K6 hK6 => ?_
    refine awp_region rfl ?_
    refine o_mv (nm .i64 (i)) rfl ?_
    refine g_index cF (l) (i) cF_len rfl Gd.none Yc_tE30 rfl rfl (by omega) ?_
    refine g_loadA cF (l) (i) default cF_len Gd.none Yc_tA50 rfl (by omega) ?_
    refine o_alloc 101 [(AV.lit (.string (({data := #[]} : ByteArray)))), (AV.lit (.string (({data := #[]} : ByteArray))))] Gd.none Yc_tO50 rfl rfl rfl ?_
    refine o_as (nm .i64 (i)) rfl ?_
    refine o_store [(101, (AO.var 50 [(AV.lit (.string ((((l).getD (i) default)).num))), (AV.lit (.string ((((l).getD (i) default)).den)))]))] Gd.none Yc_tZ50 rfl rfl rfl rfl rfl rfl ?_
    refine aops_end ?_
    refine hK6 _ ?_
    refine awp_seq fun K7 hK7 => ?_
    refine awp_region rfl ?_
    refine o_mv (AV.lit (.string (n))) rfl ?_
    refine o_fieldRef 1 Gd.none Yc_tF50_1 rfl rfl ?_
    refine o_loadS (AV.lit (.string ((((l).getD (i) default)).den))) Gd.none Yc_tS9 rfl rfl rfl ?_
    refine o_ct (c_nDivide (n) ((((l).getD (i) default)).den) (by first | assumption | decide | omega) (by first | assumption | decide | omega)) Gd.none Yc_tC49 rfl ?_
    refine o_mv (AV.tup [(AV.lit (.string (divQ (n) ((((l).getD (i) default)).den)))), (AV.lit (.string (divR (n) ((((l).getD (i) default)).den)))), (nm .i64 (divE (n) ((((l).getD (i) default)).den)))]) rfl ?_
    refine o_extract (AV.lit (.string (divQ (n) ((((l).getD (i) default)).den)))) Gd.none rfl rfl ?_
    refine o_extract (AV.lit (.string (divR (n) ((((l).getD (i) default)).den)))) Gd.none rfl rfl ?_
    refine o_extract (nm .i64 (divE (n) ((((l).getD (i) default)).den))) Gd.none rfl rfl ?_
    refine o_as (AV.lit (.string (divQ (n) ((((l).getD (i) default)).den)))) rfl ?_
    refine o_as (AV.lit (.string (divR (n) ((((l).getD (i) default)).den)))) rfl ?_
    refine o_as (nm .i64 (divE (n) ((((l).getD (i) default)).den))) rfl ?_
    refine aops_end ?_
    refine hK7 _ ?_
    refine awp_seq fun K8 hK8 => ?_
    refine awp_region rfl ?_
    refine o_mv (AV.lit (.string (divR (n) ((((l).getD (i) default)).den)))) rfl ?_
    refine o_eqlS (a := (divR (n) ((((l).getD (i) default)).den))) (c := (({data := #[48]} : ByteArray))) Gd.none rfl rfl ?_
    refine aops_end ?_
    refine hK8 _ ?_
    refine awp_condQ (q := (divR (n) ((((l).getD (i) default)).den)).toList = (({data := #[48]} : ByteArray)).toList) rfl (fun h2 => ?_) (fun h2 => ?_)
    · have hx := fst_hit h1 (hq.2.1 h2) hb
      refine awp_seq fun K9 hK9 => ?_
      refine awp_region rfl ?_
      refine o_mv (nm .i64 (i)) rfl ?_
      refine o_mv (AV.lit (.string (divQ (n) ((((l).getD (i) default)).den)))) rfl ?_
      refine o_as (nm .i64 (i)) rfl ?_
      refine o_as (AV.lit (.string (divQ (n) ((((l).getD (i) default)).den)))) rfl ?_
      refine aops_end ?_
      refine hK9 _ ?_
      refine awp_ret ?_
      refine post_ret ⟨[(nm .i64 (i)), (AV.lit (.string (divQ (n) ((((l).getD (i) default)).den))))], And.intro (AV.le_refl _) (And.intro (AV.le_refl _) (trivial)), rfl, ?_⟩
      rw [hx.1, hx.2, hq.1]; rfl
    · replace h2 := fun e => h2 (hq.2.2 e)
      refine awp_skip ?_
      refine hK5 _ ?_
      refine awp_region rfl ?_
      refine n_add (i) (1) Gd.none rfl rfl (by simp only [topOf]; omega) ?_
      refine o_mv (nm .i64 ((i) + (1))) rfl ?_
      refine aops_end ?_
      refine ⟨_, _, ?lt, ⟨i + 1, (by omega), (fun k hk => by rcases Nat.lt_or_ge k i with e | e; exact hb k e; rw [show k = i by omega]; assumption), rfl, rfl⟩, ?wk⟩
      case lt => omega
      case wk => exact Wk.sub (And.intro rfl (And.intro rfl (And.intro rfl (And.intro (by first | rfl | exact congrArg (nm _) (by omega) | exact nm_int (by omega) | exact nm_int (by simp [IntKind.wrap, IntKind.bits, IntKind.signed]; omega)) (trivial))))) (trivial)
  · have hx := fst_none (by omega) hb
    refine awp_exit ?_
    refine hK1 _ ?_
    refine awp_seq fun K10 hK10 => ?_
    refine awp_region rfl ?_
    refine o_as (AV.lit (.int .i64 ((-1)))) rfl ?_
    refine o_as (AV.lit (.string (({data := #[]} : ByteArray)))) rfl ?_
    refine aops_end ?_
    refine hK10 _ ?_
    refine awp_ret ?_
    refine post_ret ⟨[(AV.lit (.int .i64 ((-1)))), (AV.lit (.string (({data := #[]} : ByteArray))))], And.intro (AV.le_refl _) (And.intro (AV.le_refl _) (trivial)), rfl, ?_⟩
    rw [hx.1, hx.2]; rfl

theorem c_First (l : List Frc) (n : ByteArray) (hS : ∀ f ∈ l, f.num.size ≤ 9223372036854775807 ∧ f.den.size ≤ 9223372036854775807) (hn : n.size ≤ 9223372036854775807) : ECalls cx 12 [(AV.sl 2 (gcells cF (l))), (AV.lit (.string (n)))] (.tup [.lit (.int .i64 (firI l n)), nm .i64 (firE l n)]) := by
  refine ecalls_of_awp Tryd.func12 (c := _) rfl (Nat.le_of_ble_eq_true rfl) ?_
  show awp cx 24 _ (postF cx Tryd.f12 _) ⟨[(0, (AV.sl 2 (gcells cF (l)))), (1, (AV.lit (.string (n))))], []⟩
  refine awp_seq fun K0 hK0 => ?_
  refine awp_region rfl ?_
  refine o_as (nm .i64 (0)) rfl ?_
  refine o_as (nm .i64 (0)) rfl ?_
  refine aops_end ?_
  refine hK0 _ ?_
  refine awp_seq fun K1 hK1 => ?_
  refine awp_seq fun K2 hK2 => ?_
  refine awp_region rfl ?_
  refine o_mv (AV.sl 2 (gcells cF (l))) rfl ?_
  refine o_mv (AV.lit (.string (n))) rfl ?_
  refine o_ct (c_asks (l) (n) (by assumption) (by first | assumption | decide | omega)) Gd.none Yc_tC28 rfl ?_
  refine o_as (nm .i64 (askE (l) (n))) rfl ?_
  refine aops_end ?_
  refine hK2 _ ?_
  refine awp_seq fun K3 hK3 => ?_
  refine awp_region rfl ?_
  refine o_mv (nm .i64 (askE (l) (n))) rfl ?_
  refine n_neq (askE (l) (n)) (0) Gd.none rfl rfl ?_
  refine aops_end ?_
  refine hK3 _ ?_
  refine awp_condQ (q := (askE (l) (n)) ≠ (0)) rfl (fun h1 => ?_) (fun h1 => ?_)
  · refine awp_seq fun K4 hK4 => ?_
    refine awp_region rfl ?_
    refine o_mv (nm .i64 (askE (l) (n))) rfl ?_
    refine o_as (nm .i64 (0)) rfl ?_
    refine o_as (nm .i64 (askE (l) (n))) rfl ?_
    refine aops_end ?_
    refine hK4 _ ?_
    refine awp_ret ?_
    refine post_ret ⟨[(nm .i64 (0)), (nm .i64 (askE (l) (n)))], And.intro (AV.le_refl _) (And.intro (AV.le_refl _) (trivial)), rfl, ?_⟩
    rw [firI, firE, if_neg (fun e => h1 e.1), if_neg h1]; rfl
  · have hA := askE_0.1 (Decidable.not_not.1 h1)
    have hA1 := hA.1
    have hA2 := hA.2.1
    have hA0 := Decidable.not_not.1 h1
    refine awp_skip ?_
    refine hK1 _ ?_
    refine awp_seq fun K5 hK5 => ?_
    refine awp_region rfl ?_
    refine o_mv (AV.sl 2 (gcells cF (l))) rfl ?_
    refine o_mv (AV.lit (.string (n))) rfl ?_
    refine o_ct (c_first (l) (n) (by assumption) (by assumption) (by assumption) (by first | assumption | decide | omega)) Gd.none Yc_tC29 rfl ?_
    refine o_mv (AV.tup [(AV.lit (.int .i64 (fstI (l) (numS (n))))), (AV.lit (.string (fstS (l) (numS (n)))))]) rfl ?_
    refine o_extract (AV.lit (.int .i64 (fstI (l) (numS (n))))) Gd.none rfl rfl ?_
    refine o_extract (AV.lit (.string (fstS (l) (numS (n))))) Gd.none rfl rfl ?_
    refine o_as (AV.lit (.int .i64 (fstI (l) (numS (n))))) rfl ?_
    refine o_as (AV.lit (.string (fstS (l) (numS (n))))) rfl ?_
    refine aops_end ?_
    refine hK5 _ ?_
    refine awp_seq fun K6 hK6 => ?_
    refine awp_seq fun K7 hK7 => ?_
    refine awp_region rfl ?_
    refine o_mv (AV.lit (.int .i64 (fstI (l) (numS (n))))) rfl ?_
    refine o_lss (a := (fstI (l) (numS (n)))) (c := (((0 : Nat) : Int))) Gd.none rfl rfl ?_
    refine aops_end ?_
    refine hK7 _ ?_
    refine awp_condQ (q := (fstI (l) (numS (n))) < (((0 : Nat) : Int))) rfl (fun h2 => ?_) (fun h2 => ?_)
    · refine awp_seq fun K8 hK8 => ?_
      refine awp_region rfl ?_
      refine o_as (nm .i64 (0)) rfl ?_
      refine o_as (nm .i64 (4)) rfl ?_
      refine aops_end ?_
      refine hK8 _ ?_
      refine awp_ret ?_
      refine post_ret ⟨[(nm .i64 (0)), (nm .i64 (4))], And.intro (AV.le_refl _) (And.intro (AV.le_refl _) (trivial)), rfl, ?_⟩
      rw [firI, firE, if_neg (fun e => absurd e.2 (by omega)), if_pos hA0, if_neg (by omega)]; rfl
    · refine awp_skip ?_
      refine hK6 _ ?_
      refine awp_seq fun K9 hK9 => ?_
      refine awp_region rfl ?_
      refine o_mv (AV.lit (.int .i64 (fstI (l) (numS (n))))) rfl ?_
      refine o_as (AV.lit (.int .i64 (fstI (l) (numS (n))))) rfl ?_
      refine o_as (nm .i64 (0)) rfl ?_
      refine aops_end ?_
      refine hK9 _ ?_
      refine awp_ret ?_
      refine post_ret ⟨[(AV.lit (.int .i64 (fstI (l) (numS (n))))), (nm .i64 (0))], And.intro (AV.le_refl _) (And.intro (AV.le_refl _) (trivial)), rfl, ?_⟩
      rw [firI, firE, if_pos ⟨hA0, by omega⟩, if_pos hA0, if_pos (by omega)]; rfl

end Go.Proofs.YtpamhblonmpniaaDoor

set_option linter.unusedVariables false
set_option linter.unusedSimpArgs false
namespace Go.Mth
open Go Go.Ab
def spN (p z : Nat) : Nat × Nat := if h : 2 ≤ p ∧ 0 < z ∧ z % p = 0 then ((spN p (z / p)).1 + 1, (spN p (z / p)).2) else (0, z)
termination_by z
decreasing_by all_goals exact Nat.div_lt_self h.2.1 (by omega)
theorem spN_yes {p z : Nat} (hp : 2 ≤ p) (hz : 0 < z) (h : z % p = 0) : spN p z = ((spN p (z / p)).1 + 1, (spN p (z / p)).2) := by
  rw [spN, dif_pos ⟨hp, hz, h⟩]
theorem spN_no {p z : Nat} (h : ¬ z % p = 0) : spN p z = (0, z) := by rw [spN, dif_neg fun e => h e.2.2]
theorem spN_pos {p : Nat} (hp : 2 ≤ p) : ∀ (n z : Nat), z ≤ n → 0 < z → 0 < (spN p z).2 ∧ (spN p z).2 ≤ z ∧ 2 ^ (spN p z).1 * (spN p z).2 ≤ z
  | 0, z, h, h0 => absurd h0 (by omega)
  | n + 1, z, h, h0 => by
    by_cases hm : z % p = 0
    · have hd : z / p < z := Nat.div_lt_self h0 (by omega)
      have hq : 0 < z / p := Nat.div_pos (Nat.le_of_dvd h0 (Nat.dvd_of_mod_eq_zero hm)) (by omega)
      obtain ⟨a, b, c⟩ := spN_pos hp n (z / p) (by omega) hq
      rw [spN_yes hp h0 hm]
      refine ⟨a, by show (spN p (z / p)).2 ≤ z; omega, ?_⟩
      show 2 ^ ((spN p (z / p)).1 + 1) * (spN p (z / p)).2 ≤ z
      have e : p * (z / p) = z := Nat.mul_div_cancel' (Nat.dvd_of_mod_eq_zero hm)
      have := Nat.mul_le_mul hp c
      rw [e] at this
      rw [Nat.pow_succ, Nat.mul_comm (2 ^ _) 2, Nat.mul_assoc]
      exact this
    · rw [spN_no hm]
      refine ⟨h0, Nat.le_refl _, ?_⟩
      show 2 ^ 0 * z ≤ z
      omega
theorem spl_step {p w i W : Nat} (hp : 2 ≤ p) (hm : w % p = 0) (h : 2 ^ i * w ≤ W) : 2 ^ (i + 1) * (w / p) ≤ W := by
  have e : p * (w / p) = w := Nat.mul_div_cancel' (Nat.dvd_of_mod_eq_zero hm)
  have h2 : 2 * (w / p) ≤ w := by
    have := Nat.mul_le_mul_right (w / p) hp
    omega
  rw [Nat.pow_succ, Nat.mul_assoc]
  exact Nat.le_trans (Nat.mul_le_mul_left _ h2) h
theorem fit_lt2 {z : Int} (h : Fit z) : ∃ E, E ≤ 9000 ∧ z.natAbs < 2 ^ E := by
  have a := fit_len h
  have b := val_lt (digs_dig z.natAbs)
  rw [val_digs] at b
  have c : (1000000000 : Nat) ^ (digs z.natAbs).length ≤ (2 ^ 30) ^ (digs z.natAbs).length := Nat.pow_le_pow_left (by decide) _
  rw [← Nat.pow_mul] at c
  exact ⟨30 * (digs z.natAbs).length, by omega, Nat.lt_of_lt_of_le b c⟩
theorem spl_bd {i w : Nat} {z : Int} (hw : 0 < w) (h : 2 ^ i * w ≤ z.toNat) (hf : Fit z) : i ≤ 9000 := by
  obtain ⟨E, hE, a⟩ := fit_lt2 hf
  have b : 2 ^ i ≤ z.toNat := Nat.le_trans (Nat.le_mul_of_pos_right _ hw) h
  have c : z.toNat ≤ z.natAbs := by omega
  have d : (2 : Nat) ^ i < 2 ^ E := Nat.lt_of_le_of_lt (Nat.le_trans b c) a
  have := (Nat.pow_lt_pow_iff_right (a := 2) (by decide)).1 d
  omega
def dcL : Nat → Nat → Nat → List Int × Nat
  | 0, _, z => ([], z)
  | r + 1, i, z => ((((spN (P30.getD i 0) z).1 : Nat) : Int) :: (dcL r (i + 1) (spN (P30.getD i 0) z).2).1, (dcL r (i + 1) (spN (P30.getD i 0) z).2).2)
theorem dcL_nn : ∀ (r i z : Nat), ∀ n ∈ (dcL r i z).1, 0 ≤ n
  | 0, _, _, n, h => by simp [dcL] at h
  | r + 1, i, z, n, h => by
    rcases List.mem_cons.1 h with rfl | h
    · exact Int.natCast_nonneg _
    · exact dcL_nn r _ _ n h
theorem dcL_step {R i z : Nat} (h : i < R) : dcL (R - i) i z = ((((spN (P30.getD i 0) z).1 : Nat) : Int) :: (dcL (R - (i + 1)) (i + 1) (spN (P30.getD i 0) z).2).1, (dcL (R - (i + 1)) (i + 1) (spN (P30.getD i 0) z).2).2) := by
  rw [show R - i = (R - (i + 1)) + 1 by omega]
  rfl
def srch (m : Mac) (r : Nat) : Int := ixP (fun s : Nat => r = ownP m ((s : Nat) : Int)) (List.range (m.code.length + 1))
theorem rng_get {n k : Nat} (h : k < n) : (List.range n).getD k 0 = k := by
  rw [List.getD_eq_getElem?_getD, List.getElem?_range h]; rfl
def smallR (l : List Int) : Prop := ∀ n ∈ l, n ≤ 1000
instance (l : List Int) : Decidable (smallR l) := by unfold smallR; infer_instance
def decC (m : Mac) (w : Nat) : Cfg := if smallR (dcL m.regs.toNat 0 w).1 ∧ 0 ≤ srch m (dcL m.regs.toNat 0 w).2 then ⟨srch m (dcL m.regs.toNat 0 w).2, (dcL m.regs.toNat 0 w).1⟩ else zC
def decB (m : Mac) (w : Nat) : Prop := smallR (dcL m.regs.toNat 0 w).1 ∧ 0 ≤ srch m (dcL m.regs.toNat 0 w).2
instance (m : Mac) (w : Nat) : Decidable (decB m w) := by unfold decB; infer_instance
theorem srch_hit {m : Mac} {r s : Nat} (hs : s ≤ m.code.length) (h : r = ownP m ((s : Nat) : Int)) (hb : ∀ t, t < s → ¬ r = ownP m ((t : Nat) : Int)) : srch m r = (s : Int) :=
  ixP_hit (d := 0) (by rw [List.length_range]; omega) (by rw [rng_get (by omega)]; exact h) (fun k hk => by rw [rng_get (by omega)]; exact hb k hk)
theorem srch_none {m : Mac} {r : Nat} (hb : ∀ t, t < m.code.length + 1 → ¬ r = ownP m ((t : Nat) : Int)) : srch m r = -1 :=
  ixP_none (d := 0) (i := m.code.length + 1) (by rw [List.length_range]; omega) (fun k hk => by rw [rng_get hk]; exact hb k hk)
theorem decC_yes {m : Mac} {w s : Nat} (hr : smallR (dcL m.regs.toNat 0 w).1) (h : srch m (dcL m.regs.toNat 0 w).2 = (s : Int)) : decC m w = ⟨(s : Int), (dcL m.regs.toNat 0 w).1⟩ ∧ decB m w := by
  have : decB m w := ⟨hr, by rw [h]; exact Int.natCast_nonneg _⟩
  exact ⟨(if_pos this).trans (by rw [h]), this⟩
theorem decC_no {m : Mac} {w : Nat} (h : ¬ decB m w) : decC m w = zC := if_neg h
theorem own_eq {s : ByteArray} {w o : Nat} (hs : okS s = true) (hw : numS s = ((w : Nat) : Int)) : s.toList = (txt ((o : Nat) : Int)).toList ↔ w = o := by
  rw [str_eq]
  constructor
  · intro e
    have := numS_txt ((o : Nat) : Int)
    rw [← e, hw] at this
    omega
  · intro e
    rw [← e, ← hw]
    exact (txt_numS (okS_iff.1 hs)).symm
theorem decB_no {m : Mac} {w r : Nat} {acc : List Int} (hq : dcL m.regs.toNat 0 w = (acc, r)) (hb : ∀ u, u < m.code.length + 1 → r = ownP m ((u : Nat) : Int) → ¬ smallR acc) : ¬ decB m w := fun o => by
  unfold decB at o
  rw [hq] at o
  have := srch_none (m := m) (r := r) fun t ht e => hb t ht e o.1
  have h2 := o.2
  rw [show (acc, r).2 = r from rfl, this] at h2
  exact absurd h2 (by decide)
theorem decB_yes {m : Mac} {w r t : Nat} {acc : List Int} (hq : dcL m.regs.toNat 0 w = (acc, r)) (ht : t ≤ m.code.length) (e : r = ownP m ((t : Nat) : Int)) (hsm : smallR acc) (hb : ∀ u, u < t → r = ownP m ((u : Nat) : Int) → ¬ smallR acc) : decC m w = ⟨((t : Nat) : Int), acc⟩ ∧ decB m w := by
  have := decC_yes (m := m) (w := w) (s := t) (by rw [hq]; exact hsm) (by rw [hq]; exact srch_hit ht e fun u hu e2 => hb u hu e2 hsm)
  rw [hq] at this
  exact this
noncomputable def decV (m : Mac) (n : ByteArray) : Cfg := if okMac m then (if posE n = 0 then decC m (numS n).toNat else zC) else zC
noncomputable def decE (m : Mac) (n : ByteArray) : Nat := if okMac m then (if posE n = 0 then (if decB m (numS n).toNat then 0 else 4) else posE n) else 1
end Go.Mth

set_option linter.unusedVariables false
set_option linter.unusedSimpArgs false
namespace Go.Ab
open Go.RowKit
theorem Wk.nilIn2 {C : Ctx} {n : Nat} {σ : St} {i id ty e sz : Nat} {x : AV} (hs : lookO σ.objs i = some (.var ty [x, .lit (.slice none 0 0)])) (hf : σ.freshB id = true) (hsz : 0 < sz) : Wk C n σ ⟨σ.slots, (id, .row e sz []) :: (i, .var ty [x, .row id]) :: σ.objs⟩ := fun w0 H L a w hr => by
  have hne : i ≠ id := fun e => by
    subst e
    have := (fresh_sem hf).1
    rw [show σ.sem.μ i = lookO σ.objs i from rfl, hs] at this
    cases this
  have hnew := hr.new (id := id) (ob := .row e sz []) (x := .slice none 0 0) (w' := w) (fresh_sem hf) (Below.refl _ _) (fun g hg => by simp [ownB] at hg)
    ⟨.slice none 0 0, [], 0, by simp [Loc.set], by simp, World.ownsRow_nil w _ e sz, by simp [RepL], by simp, hsz, by simp, fun g hg => by simp [ownB] at hg⟩ hr.heap
  have conv : ∀ j o, lookO ((id, .row e sz []) :: (i, .var ty [x, .row id]) :: σ.objs) j = some o → (j = i ∧ o = .var ty [x, .row id]) ∨ (j ≠ i ∧ (if j = id then some (AO.row e sz []) else σ.sem.μ j) = some o) := fun j o ho => by
    simp only [lookO] at ho
    by_cases h1 : j = id
    · subst h1
      simp at ho
      exact .inr ⟨fun e => hne e.symm, by simp [ho]⟩
    · rw [beq_ne (fun e => h1 e.symm)] at ho
      by_cases h2 : j = i
      · subst h2
        simp at ho
        exact .inl ⟨rfl, ho.symm⟩
      · rw [beq_ne (fun e => h2 e.symm)] at ho
        exact .inr ⟨h2, by simp only [h1, if_false]; exact ho⟩
  have hi0 := hnew.objs i (.var ty [x, .lit (.slice none 0 0)]) (by simp only [hne, if_false]; exact hs)
  refine ⟨H, L.set id (some (.slice none 0 0)), Ext.refl _ _, ⟨hnew.glob, hnew.heap, hnew.size, hnew.slot, fun j o ho => ?_, fun j k o o' g u x' hjk hj hk => ?_, hnew.below, hnew.defers⟩⟩
  · rcases conv j o ho with ⟨rfl, rfl⟩ | ⟨h1, h2⟩
    · obtain ⟨g, vs, a1, a2, a3, a4, a5, a6⟩ := hi0
      refine ⟨g, vs, a1, a2, ?_, a4, a5, a6⟩
      simp only [RepL] at a3 ⊢
      obtain ⟨v0, r0, rfl, hx, v, r, rfl, hv, rfl⟩ := a3
      simp only [RepV] at hv
      subst hv
      exact ⟨v0, _, rfl, hx, _, [], rfl, by simp only [RepV]; exact ⟨by simp [Loc.set], rfl⟩, rfl⟩
    · exact hnew.objs j o h2
  · have conv' : ∀ j o, lookO ((id, .row e sz []) :: (i, .var ty [x, .row id]) :: σ.objs) j = some o → ∃ o', (if j = id then some (AO.row e sz []) else σ.sem.μ j) = some o' := fun j o ho => by
      rcases conv j o ho with ⟨rfl, rfl⟩ | ⟨h1, h2⟩
      · exact ⟨_, by simp only [hne, if_false]; exact hs⟩
      · exact ⟨_, h2⟩
    obtain ⟨o1, h1⟩ := conv' j o hj
    obtain ⟨o2, h2⟩ := conv' k o' hk
    exact hnew.apart j k o1 o2 g _ x' hjk h1 h2
end Go.Ab

