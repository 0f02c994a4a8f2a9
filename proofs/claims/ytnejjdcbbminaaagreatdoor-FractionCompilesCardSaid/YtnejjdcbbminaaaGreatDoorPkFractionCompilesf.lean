/- The law 'katabasislaw10.FractionCompiles' is true for every machine: Compile returns the documented fractions, or the documented error. Its condition: none but the row's own (the listed tables of the library). -/
import Derived.Test.YtnejjdcbbminaaaGreatDoorPkFractionCompilese
set_option linter.unusedVariables false
set_option linter.unusedSimpArgs false
namespace Go.Proofs.YtnejjdcbbminaaaGreatDoor
open Go Go.Ab Go.Mth
theorem Ym_tF24_1 : tyField cx.P 24 1 = some (1, 22) := by kernel_rfl
theorem Ym_tS22 : tySc cx.P 22 = true := by kernel_rfl
theorem Ym_tU22 : cx.P.underlying 22 = some (.slice 88) := by kernel_rfl
theorem Ym_tF24_0 : tyField cx.P 24 0 = some (0, 3) := by kernel_rfl
theorem Ym_tS3 : tySc cx.P 3 = true := by kernel_rfl
theorem Ym_tE22 : tyElem cx.P 22 = some (88, 4, 32) := by kernel_rfl
theorem Ym_tA88 : tyAgg cx.P 88 = some 4 := by kernel_rfl
theorem Ym_tO88 : tyZero cx.P 88 = some [(Go.Value.int IntKind.i64 0), (Go.Value.int IntKind.i64 0), (Go.Value.int IntKind.i64 0), (Go.Value.int IntKind.i64 0)] := by kernel_rfl
theorem Ym_tZ88 : tySize cx.P 88 = some 4 := by kernel_rfl
theorem Ym_tF88_0 : tyField cx.P 88 0 = some (0, 3) := by kernel_rfl
theorem Ym_tF88_1 : tyField cx.P 88 1 = some (1, 3) := by kernel_rfl
theorem Ym_tF88_2 : tyField cx.P 88 2 = some (2, 3) := by kernel_rfl
theorem Ym_tF88_3 : tyField cx.P 88 3 = some (3, 3) := by kernel_rfl
theorem Ym_tC61 : callable cx.P 61 = true := by kernel_rfl
theorem Ym_tO52 : tyZero cx.P 52 = some [(Go.Value.string {data := #[]}), (Go.Value.string {data := #[]})] := by kernel_rfl
theorem Ym_tC78 : callable cx.P 78 = true := by kernel_rfl
theorem Ym_tC27 : callable cx.P 27 = true := by kernel_rfl
theorem Ym_tP52 : tyPlaces cx.P 52 = some (fun i => (#[(0, 1), (1, 1)] : Array (Nat × Nat))[i]?) := by kernel_rfl
theorem Ym_tZ52 : tySize cx.P 52 = some 2 := by kernel_rfl
theorem Ym_tA52 : tyAgg cx.P 52 = some 2 := by kernel_rfl
theorem Ym_tA24 : tyAgg cx.P 24 = some 2 := by kernel_rfl
theorem Ym_tC63 : callable cx.P 63 = true := by kernel_rfl
theorem Ym_tC64 : callable cx.P 64 = true := by kernel_rfl
theorem Ym_tC62 : callable cx.P 62 = true := by kernel_rfl
theorem Ym_tE26 : tyElem cx.P 26 = some (52, 2, 32) := by kernel_rfl
theorem c_vValid (m : Mac) : ECalls cx 14 [(macV m)] (bp (okMac m)) := by
  refine ecalls_of_awp Tryz.func14 (c := _) rfl (Nat.le_of_ble_eq_true rfl) ?_
  show awp cx 87 _ (postF cx Tryz.f14 _) ⟨[(0, (macV m))], []⟩
  refine awp_seq fun K0 hK0 => ?_
  refine awp_region rfl ?_
  refine o_box 2 [(AV.lit (.int .i64 (m.regs))), (AV.sl 4 (gcells cI (m.code)))] Gd.none rfl rfl ?_
  refine o_as (AV.lit (.bool false)) rfl ?_
  refine aops_end ?_
  refine hK0 _ ?_
  refine awp_seq fun K1 hK1 => ?_
  refine awp_region rfl ?_
  refine o_fieldRef 1 Gd.none Ym_tF24_1 rfl rfl ?_
  refine o_loadS (AV.sl 4 (gcells cI (m.code))) Gd.none Ym_tS22 rfl rfl rfl ?_
  refine g_len cI (m.code) cI_len Gd.none Ym_tU22 rfl ?_
  refine o_as (nm .i64 ((m.code).length)) rfl ?_
  refine aops_end ?_
  refine hK1 _ ?_
  refine awp_seq fun K2 hK2 => ?_
  refine awp_seq fun K3 hK3 => ?_
  refine awp_region rfl ?_
  refine o_fieldRef 0 Gd.none Ym_tF24_0 rfl rfl ?_
  refine o_loadS (AV.lit (.int .i64 (m.regs))) Gd.none Ym_tS3 rfl rfl rfl ?_
  refine o_lss (a := (m.regs)) (c := (((1 : Nat) : Int))) Gd.none rfl rfl ?_
  refine o_mv (bp ((m.regs) < (((1 : Nat) : Int)))) rfl ?_
  refine o_splitP (q := (m.regs) < (((1 : Nat) : Int))) 12 rfl (fun h1 => ?_) (fun h1 => ?_)
  · refine o_skip rfl rfl (decide_eq_true h1) ?_
    refine o_skip rfl rfl (decide_eq_true h1) ?_
    refine o_skip rfl rfl (decide_eq_true h1) ?_
    refine o_pickT (AV.lit (.bool true)) Gd.none rfl (decide_eq_true h1) rfl ?_
    refine o_mv (AV.lit (.bool true)) rfl ?_
    refine o_skip rfl rfl rfl ?_
    refine o_skip rfl rfl rfl ?_
    refine o_pickT (AV.lit (.bool true)) Gd.none rfl rfl rfl ?_
    refine o_mv (AV.lit (.bool true)) rfl ?_
    refine o_skip rfl rfl rfl ?_
    refine o_skip rfl rfl rfl ?_
    refine o_pickT (AV.lit (.bool true)) Gd.none rfl rfl rfl ?_
    refine aops_end ?_
    refine hK3 _ ?_
    refine awp_condB (b := true) rfl (fun _ => ?_) (fun hh => absurd (hh.symm.trans rfl) (by decide))
    refine awp_seq fun K4 hK4 => ?_
    refine awp_region rfl ?_
    refine o_as (AV.lit (.bool false)) rfl ?_
    refine aops_end ?_
    refine hK4 _ ?_
    refine awp_ret ?_
    refine post_ret ⟨[(AV.lit (.bool false))], And.intro (AV.le_refl _) (trivial), rfl, ?_⟩
    first | exact bpy ⟨by omega, by omega, by omega, by omega, fun x hx => by obtain ⟨k, hk, rfl⟩ := List.getElem_of_mem hx; have := hb k (by omega); rwa [List.getD_eq_getElem?_getD, List.getElem?_eq_getElem hk] at this⟩ | exact bpn (fun o => by obtain ⟨o1, o2, o3, o4, o5⟩ := o; omega) | exact bpn (fun o => by have hx := o.2.2.2.2 _ (gdm (d := default) (show i < m.code.length by omega)); clear hb o; unfold insP plc at hx; omega)
  · refine o_fieldRef 0 (Gd.yes rfl rfl (decide_eq_false h1)) Ym_tF24_0 rfl rfl ?_
    refine o_loadS (AV.lit (.int .i64 (m.regs))) (Gd.yes rfl rfl (decide_eq_false h1)) Ym_tS3 rfl rfl rfl ?_
    refine o_gtr (a := (m.regs)) (c := (((4 : Nat) : Int))) (Gd.yes rfl rfl (decide_eq_false h1)) rfl rfl ?_
    refine o_pickF (bp ((((4 : Nat) : Int)) < (m.regs))) Gd.none rfl (decide_eq_false h1) rfl ?_
    refine o_mv (bp ((((4 : Nat) : Int)) < (m.regs))) rfl ?_
    refine o_splitP (q := (((4 : Nat) : Int)) < (m.regs)) 17 rfl (fun h2 => ?_) (fun h2 => ?_)
    · refine o_skip rfl rfl (decide_eq_true h2) ?_
      refine o_skip rfl rfl (decide_eq_true h2) ?_
      refine o_pickT (AV.lit (.bool true)) Gd.none rfl (decide_eq_true h2) rfl ?_
      refine o_mv (AV.lit (.bool true)) rfl ?_
      refine o_skip rfl rfl rfl ?_
      refine o_skip rfl rfl rfl ?_
      refine o_pickT (AV.lit (.bool true)) Gd.none rfl rfl rfl ?_
      refine aops_end ?_
      refine hK3 _ ?_
      refine awp_condB (b := true) rfl (fun _ => ?_) (fun hh => absurd (hh.symm.trans rfl) (by decide))
      refine awp_seq fun K5 hK5 => ?_
      refine awp_region rfl ?_
      refine o_as (AV.lit (.bool false)) rfl ?_
      refine aops_end ?_
      refine hK5 _ ?_
      refine awp_ret ?_
      refine post_ret ⟨[(AV.lit (.bool false))], And.intro (AV.le_refl _) (trivial), rfl, ?_⟩
      first | exact bpy ⟨by omega, by omega, by omega, by omega, fun x hx => by obtain ⟨k, hk, rfl⟩ := List.getElem_of_mem hx; have := hb k (by omega); rwa [List.getD_eq_getElem?_getD, List.getElem?_eq_getElem hk] at this⟩ | exact bpn (fun o => by obtain ⟨o1, o2, o3, o4, o5⟩ := o; omega) | exact bpn (fun o => by have hx := o.2.2.2.2 _ (gdm (d := default) (show i < m.code.length by omega)); clear hb o; unfold insP plc at hx; omega)
    · refine o_move (nm .i64 ((m.code).length)) (Gd.yes rfl rfl (decide_eq_false h2)) rfl ?_
      refine n_lss ((m.code).length) (1) (Gd.yes rfl rfl (decide_eq_false h2)) rfl rfl ?_
      refine o_pickF (bp (((m.code).length) < (1))) Gd.none rfl (decide_eq_false h2) rfl ?_
      refine o_mv (bp (((m.code).length) < (1))) rfl ?_
      refine o_splitP (q := ((m.code).length) < (1)) 21 rfl (fun h3 => ?_) (fun h3 => ?_)
      · refine o_skip rfl rfl (decide_eq_true h3) ?_
        refine o_skip rfl rfl (decide_eq_true h3) ?_
        refine o_pickT (AV.lit (.bool true)) Gd.none rfl (decide_eq_true h3) rfl ?_
        refine aops_end ?_
        refine hK3 _ ?_
        refine awp_condB (b := true) rfl (fun _ => ?_) (fun hh => absurd (hh.symm.trans rfl) (by decide))
        refine awp_seq fun K6 hK6 => ?_
        refine awp_region rfl ?_
        refine o_as (AV.lit (.bool false)) rfl ?_
        refine aops_end ?_
        refine hK6 _ ?_
        refine awp_ret ?_
        refine post_ret ⟨[(AV.lit (.bool false))], And.intro (AV.le_refl _) (trivial), rfl, ?_⟩
        first | exact bpy ⟨by omega, by omega, by omega, by omega, fun x hx => by obtain ⟨k, hk, rfl⟩ := List.getElem_of_mem hx; have := hb k (by omega); rwa [List.getD_eq_getElem?_getD, List.getElem?_eq_getElem hk] at this⟩ | exact bpn (fun o => by obtain ⟨o1, o2, o3, o4, o5⟩ := o; omega) | exact bpn (fun o => by have hx := o.2.2.2.2 _ (gdm (d := default) (show i < m.code.length by omega)); clear hb o; unfold insP plc at hx; omega)
      · refine o_move (nm .i64 ((m.code).length)) (Gd.yes rfl rfl (decide_eq_false h3)) rfl ?_
        refine n_gtr ((m.code).length) (12) (Gd.yes rfl rfl (decide_eq_false h3)) rfl rfl ?_
        refine o_pickF (bp ((12) < ((m.code).length))) Gd.none rfl (decide_eq_false h3) rfl ?_
        refine aops_end ?_
        refine hK3 _ ?_
        refine awp_condQ (q := (12) < ((m.code).length)) rfl (fun h4 => ?_) (fun h4 => ?_)
        · refine awp_seq fun K7 hK7 => ?_
          refine awp_region rfl ?_
          refine o_as (AV.lit (.bool false)) rfl ?_
          refine aops_end ?_
          refine hK7 _ ?_
          refine awp_ret ?_
          refine post_ret ⟨[(AV.lit (.bool false))], And.intro (AV.le_refl _) (trivial), rfl, ?_⟩
          first | exact bpy ⟨by omega, by omega, by omega, by omega, fun x hx => by obtain ⟨k, hk, rfl⟩ := List.getElem_of_mem hx; have := hb k (by omega); rwa [List.getD_eq_getElem?_getD, List.getElem?_eq_getElem hk] at this⟩ | exact bpn (fun o => by obtain ⟨o1, o2, o3, o4, o5⟩ := o; omega) | exact bpn (fun o => by have hx := o.2.2.2.2 _ (gdm (d := default) (show i < m.code.length by omega)); clear hb o; unfold insP plc at hx; omega)
        · refine awp_skip ?_
          refine hK2 _ ?_
          refine awp_seq fun K8 hK8 => ?_
          refine awp_seq fun K9 hK9 => ?_
          refine awp_region rfl ?_
          refine o_as (nm .i64 (0)) rfl ?_
          refine aops_end ?_
          refine hK9 _ ?_
          refine awp_block ?_
          refine awp_loopR (fun κ σ => ∃ (i : Nat), (i ≤ m.code.length) ∧ (∀ k, k < i → insP m (m.code.getD k default)) ∧ (m.code.length - i) = κ ∧ σ = ⟨[(1, (AV.ref 2 (0))), (3, (nm .i64 (m.code.length))), (4, (nm .i64 (i)))], [(2, (AO.var 24 [(AV.lit (.int .i64 (m.regs))), (AV.sl 4 (gcells cI (m.code)))]))]⟩) ⟨_, _, ⟨0, (by omega), (fun k hk => by omega), rfl, rfl⟩, ?wk0⟩ ?rd0
          case wk0 =>
            exact Wk.sub (And.intro rfl (And.intro (by first | rfl | exact congrArg (nm _) (by omega) | exact nm_int (by omega) | exact nm_int (by simp [IntKind.wrap, IntKind.bits, IntKind.signed]; omega)) (And.intro (by first | rfl | exact congrArg (nm _) (by omega) | exact nm_int (by omega) | exact nm_int (by simp [IntKind.wrap, IntKind.bits, IntKind.signed]; omega)) (trivial)))) (And.intro rfl (trivial))
          rintro κ _ ⟨i, hi, hb, rfl, rfl⟩
          refine awp_seq fun K10 hK10 => ?_
          refine awp_seq fun K11 hK11 => ?_
          refine awp_region rfl ?_
          refine o_mv (nm .i64 (i)) rfl ?_
          refine o_mv (nm .i64 (m.code.length)) rfl ?_
          refine n_lss (i) (m.code.length) Gd.none rfl rfl ?_
          refine aops_end ?_
          refine hK11 _ ?_
          refine awp_condQ (q := (i) < (m.code.length)) rfl (fun h5 => ?_) (fun h5 => ?_)
          · refine awp_skip ?_
            refine hK10 _ ?_
            refine awp_seq fun K12 hK12 => ?_
            refine awp_block ?_
            refine awp_seq fun K13 hK13 => ?_
            refine awp_region rfl ?_
            refine o_fieldRef 1 Gd.none Ym_tF24_1 rfl rfl ?_
            refine o_loadS (AV.sl 4 (gcells cI (m.code))) Gd.none Ym_tS22 rfl rfl rfl ?_
            refine o_mv (nm .i64 (i)) rfl ?_
            refine g_index cI (m.code) (i) cI_len rfl Gd.none Ym_tE22 rfl rfl (by omega) ?_
            refine g_loadA cI (m.code) (i) default cI_len Gd.none Ym_tA88 rfl (by omega) ?_
            refine o_alloc 101 [(nm .i64 (0)), (nm .i64 (0)), (nm .i64 (0)), (nm .i64 (0))] Gd.none Ym_tO88 rfl rfl rfl ?_
            refine o_store [(101, (AO.var 88 [(AV.lit (.int .i64 ((((m.code).getD (i) default)).kind))), (AV.lit (.int .i64 ((((m.code).getD (i) default)).reg))), (AV.lit (.int .i64 ((((m.code).getD (i) default)).next))), (AV.lit (.int .i64 ((((m.code).getD (i) default)).els)))])), (2, (AO.var 24 [(AV.lit (.int .i64 (m.regs))), (AV.sl 4 (gcells cI (m.code)))]))] Gd.none Ym_tZ88 rfl rfl rfl rfl rfl rfl ?_
            refine aops_end ?_
            refine hK13 _ ?_
            refine awp_seq fun K14 hK14 => ?_
            refine awp_region rfl ?_
            refine o_fieldRef 0 Gd.none Ym_tF88_0 rfl rfl ?_
            refine o_loadS (AV.lit (.int .i64 ((((m.code).getD (i) default)).kind))) Gd.none Ym_tS3 rfl rfl rfl ?_
            refine o_neq (a := ((((m.code).getD (i) default)).kind)) (c := (((0 : Nat) : Int))) Gd.none rfl rfl ?_
            refine o_mv (bp (((((m.code).getD (i) default)).kind) ≠ (((0 : Nat) : Int)))) rfl ?_
            refine o_splitP (q := ((((m.code).getD (i) default)).kind) ≠ (((0 : Nat) : Int))) 38 rfl (fun h6 => ?_) (fun h6 => ?_)
            · refine o_fieldRef 0 (Gd.yes rfl rfl (decide_eq_true h6)) Ym_tF88_0 rfl rfl ?_
              refine o_loadS (AV.lit (.int .i64 ((((m.code).getD (i) default)).kind))) (Gd.yes rfl rfl (decide_eq_true h6)) Ym_tS3 rfl rfl rfl ?_
              refine o_neq (a := ((((m.code).getD (i) default)).kind)) (c := (((1 : Nat) : Int))) (Gd.yes rfl rfl (decide_eq_true h6)) rfl rfl ?_
              refine o_pickT (bp (((((m.code).getD (i) default)).kind) ≠ (((1 : Nat) : Int)))) Gd.none rfl (decide_eq_true h6) rfl ?_
              refine o_mv (bp (((((m.code).getD (i) default)).kind) ≠ (((1 : Nat) : Int)))) rfl ?_
              refine o_splitP (q := ((((m.code).getD (i) default)).kind) ≠ (((1 : Nat) : Int))) 43 rfl (fun h7 => ?_) (fun h7 => ?_)
              · refine o_skip rfl rfl (decide_eq_true h7) ?_
                refine o_skip rfl rfl (decide_eq_true h7) ?_
                refine o_skip rfl rfl (decide_eq_true h7) ?_
                refine o_pickT (AV.lit (.bool true)) Gd.none rfl (decide_eq_true h7) rfl ?_
                refine o_mv (AV.lit (.bool true)) rfl ?_
                refine o_skip rfl rfl rfl ?_
                refine o_skip rfl rfl rfl ?_
                refine o_skip rfl rfl rfl ?_
                refine o_skip rfl rfl rfl ?_
                refine o_skip rfl rfl rfl ?_
                refine o_pickT (AV.lit (.bool true)) Gd.none rfl rfl rfl ?_
                refine o_mv (AV.lit (.bool true)) rfl ?_
                refine o_skip rfl rfl rfl ?_
                refine o_skip rfl rfl rfl ?_
                refine o_skip rfl rfl rfl ?_
                refine o_pickT (AV.lit (.bool true)) Gd.none rfl rfl rfl ?_
                refine o_mv (AV.lit (.bool true)) rfl ?_
                refine o_skip rfl rfl rfl ?_
                refine o_skip rfl rfl rfl ?_
                refine o_skip rfl rfl rfl ?_
                refine o_skip rfl rfl rfl ?_
                refine o_pickT (AV.lit (.bool true)) Gd.none rfl rfl rfl ?_
                refine o_mv (AV.lit (.bool true)) rfl ?_
                refine o_skip rfl rfl rfl ?_
                refine o_skip rfl rfl rfl ?_
                refine o_skip rfl rfl rfl ?_
                refine o_pickT (AV.lit (.bool true)) Gd.none rfl rfl rfl ?_
                refine o_mv (AV.lit (.bool true)) rfl ?_
                refine o_skip rfl rfl rfl ?_
                refine o_skip rfl rfl rfl ?_
                refine o_skip rfl rfl rfl ?_
                refine o_skip rfl rfl rfl ?_
                refine o_pickT (AV.lit (.bool true)) Gd.none rfl rfl rfl ?_
                refine o_mv (AV.lit (.bool true)) rfl ?_
                refine o_skip rfl rfl rfl ?_
                refine o_skip rfl rfl rfl ?_
                refine o_skip rfl rfl rfl ?_
                refine o_skip rfl rfl rfl ?_
                refine o_skipU rfl rfl ?_
                refine o_skipU rfl rfl ?_
                refine o_skipU rfl rfl ?_
                refine o_skip rfl rfl rfl ?_
                refine o_pickT (AV.lit (.bool true)) Gd.none rfl rfl rfl ?_
                refine aops_end ?_
                refine hK14 _ ?_
                refine awp_condB (b := true) rfl (fun _ => ?_) (fun hh => absurd (hh.symm.trans rfl) (by decide))
                refine awp_seq fun K15 hK15 => ?_
                refine awp_region rfl ?_
                refine o_as (AV.lit (.bool false)) rfl ?_
                refine aops_end ?_
                refine hK15 _ ?_
                refine awp_ret ?_
                refine post_ret ⟨[(AV.lit (.bool false))], And.intro (AV.le_refl _) (trivial), rfl, ?_⟩
                first | exact bpy ⟨by omega, by omega, by omega, by omega, fun x hx => by obtain ⟨k, hk, rfl⟩ := List.getElem_of_mem hx; have := hb k (by omega); rwa [List.getD_eq_getElem?_getD, List.getElem?_eq_getElem hk] at this⟩ | exact bpn (fun o => by obtain ⟨o1, o2, o3, o4, o5⟩ := o; omega) | exact bpn (fun o => by have hx := o.2.2.2.2 _ (gdm (d := default) (show i < m.code.length by omega)); clear hb o; unfold insP plc at hx; omega)
              · refine o_fieldRef 1 (Gd.yes rfl rfl (decide_eq_false h7)) Ym_tF88_1 rfl rfl ?_
                refine o_loadS (AV.lit (.int .i64 ((((m.code).getD (i) default)).reg))) (Gd.yes rfl rfl (decide_eq_false h7)) Ym_tS3 rfl rfl rfl ?_
                refine o_lss (a := ((((m.code).getD (i) default)).reg)) (c := (((0 : Nat) : Int))) (Gd.yes rfl rfl (decide_eq_false h7)) rfl rfl ?_
                refine o_pickF (bp (((((m.code).getD (i) default)).reg) < (((0 : Nat) : Int)))) Gd.none rfl (decide_eq_false h7) rfl ?_
                refine o_mv (bp (((((m.code).getD (i) default)).reg) < (((0 : Nat) : Int)))) rfl ?_
                refine o_splitP (q := ((((m.code).getD (i) default)).reg) < (((0 : Nat) : Int))) 48 rfl (fun h8 => ?_) (fun h8 => ?_)
                · refine o_skip rfl rfl (decide_eq_true h8) ?_
                  refine o_skip rfl rfl (decide_eq_true h8) ?_
                  refine o_skip rfl rfl (decide_eq_true h8) ?_
                  refine o_skip rfl rfl (decide_eq_true h8) ?_
                  refine o_skip rfl rfl (decide_eq_true h8) ?_
                  refine o_pickT (AV.lit (.bool true)) Gd.none rfl (decide_eq_true h8) rfl ?_
                  refine o_mv (AV.lit (.bool true)) rfl ?_
                  refine o_skip rfl rfl rfl ?_
                  refine o_skip rfl rfl rfl ?_
                  refine o_skip rfl rfl rfl ?_
                  refine o_pickT (AV.lit (.bool true)) Gd.none rfl rfl rfl ?_
                  refine o_mv (AV.lit (.bool true)) rfl ?_
                  refine o_skip rfl rfl rfl ?_
                  refine o_skip rfl rfl rfl ?_
                  refine o_skip rfl rfl rfl ?_
                  refine o_skip rfl rfl rfl ?_
                  refine o_pickT (AV.lit (.bool true)) Gd.none rfl rfl rfl ?_
                  refine o_mv (AV.lit (.bool true)) rfl ?_
                  refine o_skip rfl rfl rfl ?_
                  refine o_skip rfl rfl rfl ?_
                  refine o_skip rfl rfl rfl ?_
                  refine o_pickT (AV.lit (.bool true)) Gd.none rfl rfl rfl ?_
                  refine o_mv (AV.lit (.bool true)) rfl ?_
                  refine o_skip rfl rfl rfl ?_
                  refine o_skip rfl rfl rfl ?_
                  refine o_skip rfl rfl rfl ?_
                  refine o_skip rfl rfl rfl ?_
                  refine o_pickT (AV.lit (.bool true)) Gd.none rfl rfl rfl ?_
                  refine o_mv (AV.lit (.bool true)) rfl ?_
                  refine o_skip rfl rfl rfl ?_
                  refine o_skip rfl rfl rfl ?_
                  refine o_skip rfl rfl rfl ?_
                  refine o_skip rfl rfl rfl ?_
                  refine o_skipU rfl rfl ?_
                  refine o_skipU rfl rfl ?_
                  refine o_skipU rfl rfl ?_
                  refine o_skip rfl rfl rfl ?_
                  refine o_pickT (AV.lit (.bool true)) Gd.none rfl rfl rfl ?_
                  refine aops_end ?_
                  refine hK14 _ ?_
                  refine awp_condB (b := true) rfl (fun _ => ?_) (fun hh => absurd (hh.symm.trans rfl) (by decide))
                  refine awp_seq fun K16 hK16 => ?_
                  refine awp_region rfl ?_
                  refine o_as (AV.lit (.bool false)) rfl ?_
                  refine aops_end ?_
                  refine hK16 _ ?_
                  refine awp_ret ?_
                  refine post_ret ⟨[(AV.lit (.bool false))], And.intro (AV.le_refl _) (trivial), rfl, ?_⟩
                  first | exact bpy ⟨by omega, by omega, by omega, by omega, fun x hx => by obtain ⟨k, hk, rfl⟩ := List.getElem_of_mem hx; have := hb k (by omega); rwa [List.getD_eq_getElem?_getD, List.getElem?_eq_getElem hk] at this⟩ | exact bpn (fun o => by obtain ⟨o1, o2, o3, o4, o5⟩ := o; omega) | exact bpn (fun o => by have hx := o.2.2.2.2 _ (gdm (d := default) (show i < m.code.length by omega)); clear hb o; unfold insP plc at hx; omega)
                · refine o_fieldRef 1 (Gd.yes rfl rfl (decide_eq_false h8)) Ym_tF88_1 rfl rfl ?_
                  refine o_loadS (AV.lit (.int .i64 ((((m.code).getD (i) default)).reg))) (Gd.yes rfl rfl (decide_eq_false h8)) Ym_tS3 rfl rfl rfl ?_
                  refine o_fieldRef 0 (Gd.yes rfl rfl (decide_eq_false h8)) Ym_tF24_0 rfl rfl ?_
                  refine o_loadS (AV.lit (.int .i64 (m.regs))) (Gd.yes rfl rfl (decide_eq_false h8)) Ym_tS3 rfl rfl rfl ?_
                  refine o_geq (a := ((((m.code).getD (i) default)).reg)) (c := (m.regs)) (Gd.yes rfl rfl (decide_eq_false h8)) rfl rfl ?_
                  refine o_pickF (bp ((m.regs) ≤ ((((m.code).getD (i) default)).reg))) Gd.none rfl (decide_eq_false h8) rfl ?_
                  refine o_mv (bp ((m.regs) ≤ ((((m.code).getD (i) default)).reg))) rfl ?_
                  refine o_splitP (q := (m.regs) ≤ ((((m.code).getD (i) default)).reg)) 55 rfl (fun h9 => ?_) (fun h9 => ?_)
                  · refine o_skip rfl rfl (decide_eq_true h9) ?_
                    refine o_skip rfl rfl (decide_eq_true h9) ?_
                    refine o_skip rfl rfl (decide_eq_true h9) ?_
                    refine o_pickT (AV.lit (.bool true)) Gd.none rfl (decide_eq_true h9) rfl ?_
                    refine o_mv (AV.lit (.bool true)) rfl ?_
                    refine o_skip rfl rfl rfl ?_
                    refine o_skip rfl rfl rfl ?_
                    refine o_skip rfl rfl rfl ?_
                    refine o_skip rfl rfl rfl ?_
                    refine o_pickT (AV.lit (.bool true)) Gd.none rfl rfl rfl ?_
                    refine o_mv (AV.lit (.bool true)) rfl ?_
                    refine o_skip rfl rfl rfl ?_
                    refine o_skip rfl rfl rfl ?_
                    refine o_skip rfl rfl rfl ?_
                    refine o_pickT (AV.lit (.bool true)) Gd.none rfl rfl rfl ?_
                    refine o_mv (AV.lit (.bool true)) rfl ?_
                    refine o_skip rfl rfl rfl ?_
                    refine o_skip rfl rfl rfl ?_
                    refine o_skip rfl rfl rfl ?_
                    refine o_skip rfl rfl rfl ?_
                    refine o_pickT (AV.lit (.bool true)) Gd.none rfl rfl rfl ?_
                    refine o_mv (AV.lit (.bool true)) rfl ?_
                    refine o_skip rfl rfl rfl ?_
                    refine o_skip rfl rfl rfl ?_
                    refine o_skip rfl rfl rfl ?_
                    refine o_skip rfl rfl rfl ?_
                    refine o_skipU rfl rfl ?_
                    refine o_skipU rfl rfl ?_
                    refine o_skipU rfl rfl ?_
                    refine o_skip rfl rfl rfl ?_
                    refine o_pickT (AV.lit (.bool true)) Gd.none rfl rfl rfl ?_
                    refine aops_end ?_
                    refine hK14 _ ?_
                    refine awp_condB (b := true) rfl (fun _ => ?_) (fun hh => absurd (hh.symm.trans rfl) (by decide))
                    refine awp_seq fun K17 hK17 => ?_
                    refine awp_region rfl ?_
                    refine o_as (AV.lit (.bool false)) rfl ?_
                    refine aops_end ?_
                    refine hK17 _ ?_
                    refine awp_ret ?_
                    refine post_ret ⟨[(AV.lit (.bool false))], And.intro (AV.le_refl _) (trivial), rfl, ?_⟩
                    first | exact bpy ⟨by omega, by omega, by omega, by omega, fun x hx => by obtain ⟨k, hk, rfl⟩ := List.getElem_of_mem hx; have := hb k (by omega); rwa [List.getD_eq_getElem?_getD, List.getElem?_eq_getElem hk] at this⟩ | exact bpn (fun o => by obtain ⟨o1, o2, o3, o4, o5⟩ := o; omega) | exact bpn (fun o => by have hx := o.2.2.2.2 _ (gdm (d := default) (show i < m.code.length by omega)); clear hb o; unfold insP plc at hx; omega)
                  · refine o_fieldRef 2 (Gd.yes rfl rfl (decide_eq_false h9)) Ym_tF88_2 rfl rfl ?_
                    refine o_loadS (AV.lit (.int .i64 ((((m.code).getD (i) default)).next))) (Gd.yes rfl rfl (decide_eq_false h9)) Ym_tS3 rfl rfl rfl ?_
                    refine o_lss (a := ((((m.code).getD (i) default)).next)) (c := (((0 : Nat) : Int))) (Gd.yes rfl rfl (decide_eq_false h9)) rfl rfl ?_
                    refine o_pickF (bp (((((m.code).getD (i) default)).next) < (((0 : Nat) : Int)))) Gd.none rfl (decide_eq_false h9) rfl ?_
                    refine o_mv (bp (((((m.code).getD (i) default)).next) < (((0 : Nat) : Int)))) rfl ?_
                    refine o_splitP (q := ((((m.code).getD (i) default)).next) < (((0 : Nat) : Int))) 60 rfl (fun h10 => ?_) (fun h10 => ?_)
                    · refine o_skip rfl rfl (decide_eq_true h10) ?_
                      refine o_skip rfl rfl (decide_eq_true h10) ?_
                      refine o_skip rfl rfl (decide_eq_true h10) ?_
                      refine o_skip rfl rfl (decide_eq_true h10) ?_
                      refine o_pickT (AV.lit (.bool true)) Gd.none rfl (decide_eq_true h10) rfl ?_
                      refine o_mv (AV.lit (.bool true)) rfl ?_
                      refine o_skip rfl rfl rfl ?_
                      refine o_skip rfl rfl rfl ?_
                      refine o_skip rfl rfl rfl ?_
                      refine o_pickT (AV.lit (.bool true)) Gd.none rfl rfl rfl ?_
                      refine o_mv (AV.lit (.bool true)) rfl ?_
                      refine o_skip rfl rfl rfl ?_
                      refine o_skip rfl rfl rfl ?_
                      refine o_skip rfl rfl rfl ?_
                      refine o_skip rfl rfl rfl ?_
                      refine o_pickT (AV.lit (.bool true)) Gd.none rfl rfl rfl ?_
                      refine o_mv (AV.lit (.bool true)) rfl ?_
                      refine o_skip rfl rfl rfl ?_
                      refine o_skip rfl rfl rfl ?_
                      refine o_skip rfl rfl rfl ?_
                      refine o_skip rfl rfl rfl ?_
                      refine o_skipU rfl rfl ?_
                      refine o_skipU rfl rfl ?_
                      refine o_skipU rfl rfl ?_
                      refine o_skip rfl rfl rfl ?_
                      refine o_pickT (AV.lit (.bool true)) Gd.none rfl rfl rfl ?_
                      refine aops_end ?_
                      refine hK14 _ ?_
                      refine awp_condB (b := true) rfl (fun _ => ?_) (fun hh => absurd (hh.symm.trans rfl) (by decide))
                      refine awp_seq fun K18 hK18 => ?_
                      refine awp_region rfl ?_
                      refine o_as (AV.lit (.bool false)) rfl ?_
                      refine aops_end ?_
                      refine hK18 _ ?_
                      refine awp_ret ?_
                      refine post_ret ⟨[(AV.lit (.bool false))], And.intro (AV.le_refl _) (trivial), rfl, ?_⟩
                      first | exact bpy ⟨by omega, by omega, by omega, by omega, fun x hx => by obtain ⟨k, hk, rfl⟩ := List.getElem_of_mem hx; have := hb k (by omega); rwa [List.getD_eq_getElem?_getD, List.getElem?_eq_getElem hk] at this⟩ | exact bpn (fun o => by obtain ⟨o1, o2, o3, o4, o5⟩ := o; omega) | exact bpn (fun o => by have hx := o.2.2.2.2 _ (gdm (d := default) (show i < m.code.length by omega)); clear hb o; unfold insP plc at hx; omega)
                    · refine o_fieldRef 2 (Gd.yes rfl rfl (decide_eq_false h10)) Ym_tF88_2 rfl rfl ?_
                      refine o_loadS (AV.lit (.int .i64 ((((m.code).getD (i) default)).next))) (Gd.yes rfl rfl (decide_eq_false h10)) Ym_tS3 rfl rfl rfl ?_
                      refine o_move (nm .i64 (m.code.length)) (Gd.yes rfl rfl (decide_eq_false h10)) rfl ?_
                      refine o_gtr (a := ((((m.code).getD (i) default)).next)) (c := (((m.code.length : Nat) : Int))) (Gd.yes rfl rfl (decide_eq_false h10)) rfl rfl ?_
                      refine o_pickF (bp ((((m.code.length : Nat) : Int)) < ((((m.code).getD (i) default)).next))) Gd.none rfl (decide_eq_false h10) rfl ?_
                      refine o_mv (bp ((((m.code.length : Nat) : Int)) < ((((m.code).getD (i) default)).next))) rfl ?_
                      refine o_splitP (q := (((m.code.length : Nat) : Int)) < ((((m.code).getD (i) default)).next)) 66 rfl (fun h11 => ?_) (fun h11 => ?_)
                      · refine o_skip rfl rfl (decide_eq_true h11) ?_
                        refine o_skip rfl rfl (decide_eq_true h11) ?_
                        refine o_skip rfl rfl (decide_eq_true h11) ?_
                        refine o_pickT (AV.lit (.bool true)) Gd.none rfl (decide_eq_true h11) rfl ?_
                        refine o_mv (AV.lit (.bool true)) rfl ?_
                        refine o_skip rfl rfl rfl ?_
                        refine o_skip rfl rfl rfl ?_
                        refine o_skip rfl rfl rfl ?_
                        refine o_skip rfl rfl rfl ?_
                        refine o_pickT (AV.lit (.bool true)) Gd.none rfl rfl rfl ?_
                        refine o_mv (AV.lit (.bool true)) rfl ?_
                        refine o_skip rfl rfl rfl ?_
                        refine o_skip rfl rfl rfl ?_
                        refine o_skip rfl rfl rfl ?_
                        refine o_skip rfl rfl rfl ?_
                        refine o_skipU rfl rfl ?_
                        refine o_skipU rfl rfl ?_
                        refine o_skipU rfl rfl ?_
                        refine o_skip rfl rfl rfl ?_
                        refine o_pickT (AV.lit (.bool true)) Gd.none rfl rfl rfl ?_
                        refine aops_end ?_
                        refine hK14 _ ?_
                        refine awp_condB (b := true) rfl (fun _ => ?_) (fun hh => absurd (hh.symm.trans rfl) (by decide))
                        refine awp_seq fun K19 hK19 => ?_
                        refine awp_region rfl ?_
                        refine o_as (AV.lit (.bool false)) rfl ?_
                        refine aops_end ?_
                        refine hK19 _ ?_
                        refine awp_ret ?_
                        refine post_ret ⟨[(AV.lit (.bool false))], And.intro (AV.le_refl _) (trivial), rfl, ?_⟩
                        first | exact bpy ⟨by omega, by omega, by omega, by omega, fun x hx => by obtain ⟨k, hk, rfl⟩ := List.getElem_of_mem hx; have := hb k (by omega); rwa [List.getD_eq_getElem?_getD, List.getElem?_eq_getElem hk] at this⟩ | exact bpn (fun o => by obtain ⟨o1, o2, o3, o4, o5⟩ := o; omega) | exact bpn (fun o => by have hx := o.2.2.2.2 _ (gdm (d := default) (show i < m.code.length by omega)); clear hb o; unfold insP plc at hx; omega)
                      · refine o_fieldRef 3 (Gd.yes rfl rfl (decide_eq_false h11)) Ym_tF88_3 rfl rfl ?_
                        refine o_loadS (AV.lit (.int .i64 ((((m.code).getD (i) default)).els))) (Gd.yes rfl rfl (decide_eq_false h11)) Ym_tS3 rfl rfl rfl ?_
                        refine o_lss (a := ((((m.code).getD (i) default)).els)) (c := (((0 : Nat) : Int))) (Gd.yes rfl rfl (decide_eq_false h11)) rfl rfl ?_
                        refine o_pickF (bp (((((m.code).getD (i) default)).els) < (((0 : Nat) : Int)))) Gd.none rfl (decide_eq_false h11) rfl ?_
                        refine o_mv (bp (((((m.code).getD (i) default)).els) < (((0 : Nat) : Int)))) rfl ?_
                        refine o_splitP (q := ((((m.code).getD (i) default)).els) < (((0 : Nat) : Int))) 71 rfl (fun h12 => ?_) (fun h12 => ?_)
                        · refine o_skip rfl rfl (decide_eq_true h12) ?_
                          refine o_skip rfl rfl (decide_eq_true h12) ?_
                          refine o_skip rfl rfl (decide_eq_true h12) ?_
                          refine o_skip rfl rfl (decide_eq_true h12) ?_
                          refine o_pickT (AV.lit (.bool true)) Gd.none rfl (decide_eq_true h12) rfl ?_
                          refine o_mv (AV.lit (.bool true)) rfl ?_
                          refine o_skip rfl rfl rfl ?_
                          refine o_skip rfl rfl rfl ?_
                          refine o_skip rfl rfl rfl ?_
                          refine o_skip rfl rfl rfl ?_
                          refine o_skipU rfl rfl ?_
                          refine o_skipU rfl rfl ?_
                          refine o_skipU rfl rfl ?_
                          refine o_skip rfl rfl rfl ?_
                          refine o_pickT (AV.lit (.bool true)) Gd.none rfl rfl rfl ?_
                          refine aops_end ?_
                          refine hK14 _ ?_
                          refine awp_condB (b := true) rfl (fun _ => ?_) (fun hh => absurd (hh.symm.trans rfl) (by decide))
                          refine awp_seq fun K20 hK20 => ?_
                          refine awp_region rfl ?_
                          refine o_as (AV.lit (.bool false)) rfl ?_
                          refine aops_end ?_
                          refine hK20 _ ?_
                          refine awp_ret ?_
                          refine post_ret ⟨[(AV.lit (.bool false))], And.intro (AV.le_refl _) (trivial), rfl, ?_⟩
                          first | exact bpy ⟨by omega, by omega, by omega, by omega, fun x hx => by obtain ⟨k, hk, rfl⟩ := List.getElem_of_mem hx; have := hb k (by omega); rwa [List.getD_eq_getElem?_getD, List.getElem?_eq_getElem hk] at this⟩ | exact bpn (fun o => by obtain ⟨o1, o2, o3, o4, o5⟩ := o; omega) | exact bpn (fun o => by have hx := o.2.2.2.2 _ (gdm (d := default) (show i < m.code.length by omega)); clear hb o; unfold insP plc at hx; omega)
                        · refine o_fieldRef 3 (Gd.yes rfl rfl (decide_eq_false h12)) Ym_tF88_3 rfl rfl ?_
                          refine o_loadS (AV.lit (.int .i64 ((((m.code).getD (i) default)).els))) (Gd.yes rfl rfl (decide_eq_false h12)) Ym_tS3 rfl rfl rfl ?_
                          refine o_move (nm .i64 (m.code.length)) (Gd.yes rfl rfl (decide_eq_false h12)) rfl ?_
                          refine o_gtr (a := ((((m.code).getD (i) default)).els)) (c := (((m.code.length : Nat) : Int))) (Gd.yes rfl rfl (decide_eq_false h12)) rfl rfl ?_
                          refine o_pickF (bp ((((m.code.length : Nat) : Int)) < ((((m.code).getD (i) default)).els))) Gd.none rfl (decide_eq_false h12) rfl ?_
                          refine o_mv (bp ((((m.code.length : Nat) : Int)) < ((((m.code).getD (i) default)).els))) rfl ?_
                          refine o_splitP (q := (((m.code.length : Nat) : Int)) < ((((m.code).getD (i) default)).els)) 77 rfl (fun h13 => ?_) (fun h13 => ?_)
                          · refine o_skip rfl rfl (decide_eq_true h13) ?_
                            refine o_skip rfl rfl (decide_eq_true h13) ?_
                            refine o_skip rfl rfl (decide_eq_true h13) ?_
                            refine o_skip rfl rfl (decide_eq_true h13) ?_
                            refine o_skipU rfl rfl ?_
                            refine o_skipU rfl rfl ?_
                            refine o_skipU rfl rfl ?_
                            refine o_skip rfl rfl (decide_eq_true h13) ?_
                            refine o_pickT (AV.lit (.bool true)) Gd.none rfl (decide_eq_true h13) rfl ?_
                            refine aops_end ?_
                            refine hK14 _ ?_
                            refine awp_condB (b := true) rfl (fun _ => ?_) (fun hh => absurd (hh.symm.trans rfl) (by decide))
                            refine awp_seq fun K21 hK21 => ?_
                            refine awp_region rfl ?_
                            refine o_as (AV.lit (.bool false)) rfl ?_
                            refine aops_end ?_
                            refine hK21 _ ?_
                            refine awp_ret ?_
                            refine post_ret ⟨[(AV.lit (.bool false))], And.intro (AV.le_refl _) (trivial), rfl, ?_⟩
                            first | exact bpy ⟨by omega, by omega, by omega, by omega, fun x hx => by obtain ⟨k, hk, rfl⟩ := List.getElem_of_mem hx; have := hb k (by omega); rwa [List.getD_eq_getElem?_getD, List.getElem?_eq_getElem hk] at this⟩ | exact bpn (fun o => by obtain ⟨o1, o2, o3, o4, o5⟩ := o; omega) | exact bpn (fun o => by have hx := o.2.2.2.2 _ (gdm (d := default) (show i < m.code.length by omega)); clear hb o; unfold insP plc at hx; omega)
                          · refine o_fieldRef 0 (Gd.yes rfl rfl (decide_eq_false h13)) Ym_tF88_0 rfl rfl ?_
                            refine o_loadS (AV.lit (.int .i64 ((((m.code).getD (i) default)).kind))) (Gd.yes rfl rfl (decide_eq_false h13)) Ym_tS3 rfl rfl rfl ?_
                            refine o_eql (a := ((((m.code).getD (i) default)).kind)) (c := (((0 : Nat) : Int))) (Gd.yes rfl rfl (decide_eq_false h13)) rfl rfl ?_
                            refine o_move (bp (((((m.code).getD (i) default)).kind) = (((0 : Nat) : Int)))) (Gd.yes rfl rfl (decide_eq_false h13)) rfl ?_
                            refine o_skip rfl rfl (decide_eq_false h6) ?_
                            refine o_skip rfl rfl (decide_eq_false h6) ?_
                            refine o_skip rfl rfl (decide_eq_false h6) ?_
                            refine o_pickF (AV.lit (.bool false)) (Gd.yes rfl rfl (decide_eq_false h13)) rfl (decide_eq_false h6) rfl ?_
                            refine o_pickF (AV.lit (.bool false)) Gd.none rfl (decide_eq_false h13) rfl ?_
                            refine aops_end ?_
                            refine hK14 _ ?_
                            refine awp_condB (b := false) rfl (fun hh => absurd (hh.symm.trans rfl) (by decide)) (fun _ => ?_)
                            refine awp_skip ?_
                            refine hK12 _ ?_
                            refine awp_region rfl ?_
                            refine o_mv (nm .i64 (i)) rfl ?_
                            refine n_add (i) (1) Gd.none rfl rfl (by simp only [topOf]; omega) ?_
                            refine o_as (nm .i64 ((i) + (1))) rfl ?_
                            refine aops_end ?_
                            refine ⟨_, _, ?lt, ⟨i + 1, (by omega), (fun k hk => by rcases Nat.lt_or_ge k i with e | e; exact hb k e; rw [show k = i by omega]; clear hb; unfold insP plc; omega), rfl, rfl⟩, ?wk⟩
                            case lt => omega
                            case wk => exact Wk.sub (And.intro rfl (And.intro rfl (And.intro (by first | rfl | exact congrArg (nm _) (by omega) | exact nm_int (by omega) | exact nm_int (by simp [IntKind.wrap, IntKind.bits, IntKind.signed]; omega)) (trivial)))) (And.intro rfl (trivial))
            · refine o_skip rfl rfl (decide_eq_false h6) ?_
              refine o_skip rfl rfl (decide_eq_false h6) ?_
              refine o_skip rfl rfl (decide_eq_false h6) ?_
              refine o_pickF (AV.lit (.bool false)) Gd.none rfl (decide_eq_false h6) rfl ?_
              refine o_mv (AV.lit (.bool false)) rfl ?_
              refine o_fieldRef 1 (Gd.yes rfl rfl rfl) Ym_tF88_1 rfl rfl ?_
              refine o_loadS (AV.lit (.int .i64 ((((m.code).getD (i) default)).reg))) (Gd.yes rfl rfl rfl) Ym_tS3 rfl rfl rfl ?_
              refine o_lss (a := ((((m.code).getD (i) default)).reg)) (c := (((0 : Nat) : Int))) (Gd.yes rfl rfl rfl) rfl rfl ?_
              refine o_pickF (bp (((((m.code).getD (i) default)).reg) < (((0 : Nat) : Int)))) Gd.none rfl rfl rfl ?_
              refine o_mv (bp (((((m.code).getD (i) default)).reg) < (((0 : Nat) : Int)))) rfl ?_
              refine o_splitP (q := ((((m.code).getD (i) default)).reg) < (((0 : Nat) : Int))) 48 rfl (fun h14 => ?_) (fun h14 => ?_)
              · refine o_skip rfl rfl (decide_eq_true h14) ?_
                refine o_skip rfl rfl (decide_eq_true h14) ?_
                refine o_skip rfl rfl (decide_eq_true h14) ?_
                refine o_skip rfl rfl (decide_eq_true h14) ?_
                refine o_skip rfl rfl (decide_eq_true h14) ?_
                refine o_pickT (AV.lit (.bool true)) Gd.none rfl (decide_eq_true h14) rfl ?_
                refine o_mv (AV.lit (.bool true)) rfl ?_
                refine o_skip rfl rfl rfl ?_
                refine o_skip rfl rfl rfl ?_
                refine o_skip rfl rfl rfl ?_
                refine o_pickT (AV.lit (.bool true)) Gd.none rfl rfl rfl ?_
                refine o_mv (AV.lit (.bool true)) rfl ?_
                refine o_skip rfl rfl rfl ?_
                refine o_skip rfl rfl rfl ?_
                refine o_skip rfl rfl rfl ?_
                refine o_skip rfl rfl rfl ?_
                refine o_pickT (AV.lit (.bool true)) Gd.none rfl rfl rfl ?_
                refine o_mv (AV.lit (.bool true)) rfl ?_
                refine o_skip rfl rfl rfl ?_
                refine o_skip rfl rfl rfl ?_
                refine o_skip rfl rfl rfl ?_
                refine o_pickT (AV.lit (.bool true)) Gd.none rfl rfl rfl ?_
                refine o_mv (AV.lit (.bool true)) rfl ?_
                refine o_skip rfl rfl rfl ?_
                refine o_skip rfl rfl rfl ?_
                refine o_skip rfl rfl rfl ?_
                refine o_skip rfl rfl rfl ?_
                refine o_pickT (AV.lit (.bool true)) Gd.none rfl rfl rfl ?_
                refine o_mv (AV.lit (.bool true)) rfl ?_
                refine o_skip rfl rfl rfl ?_
                refine o_skip rfl rfl rfl ?_
                refine o_skip rfl rfl rfl ?_
                refine o_skip rfl rfl rfl ?_
                refine o_skipU rfl rfl ?_
                refine o_skipU rfl rfl ?_
                refine o_skipU rfl rfl ?_
                refine o_skip rfl rfl rfl ?_
                refine o_pickT (AV.lit (.bool true)) Gd.none rfl rfl rfl ?_
                refine aops_end ?_
                refine hK14 _ ?_
                refine awp_condB (b := true) rfl (fun _ => ?_) (fun hh => absurd (hh.symm.trans rfl) (by decide))
                refine awp_seq fun K22 hK22 => ?_
                refine awp_region rfl ?_
                refine o_as (AV.lit (.bool false)) rfl ?_
                refine aops_end ?_
                refine hK22 _ ?_
                refine awp_ret ?_
                refine post_ret ⟨[(AV.lit (.bool false))], And.intro (AV.le_refl _) (trivial), rfl, ?_⟩
                first | exact bpy ⟨by omega, by omega, by omega, by omega, fun x hx => by obtain ⟨k, hk, rfl⟩ := List.getElem_of_mem hx; have := hb k (by omega); rwa [List.getD_eq_getElem?_getD, List.getElem?_eq_getElem hk] at this⟩ | exact bpn (fun o => by obtain ⟨o1, o2, o3, o4, o5⟩ := o; omega) | exact bpn (fun o => by have hx := o.2.2.2.2 _ (gdm (d := default) (show i < m.code.length by omega)); clear hb o; unfold insP plc at hx; omega)
              · refine o_fieldRef 1 (Gd.yes rfl rfl (decide_eq_false h14)) Ym_tF88_1 rfl rfl ?_
                refine o_loadS (AV.lit (.int .i64 ((((m.code).getD (i) default)).reg))) (Gd.yes rfl rfl (decide_eq_false h14)) Ym_tS3 rfl rfl rfl ?_
                refine o_fieldRef 0 (Gd.yes rfl rfl (decide_eq_false h14)) Ym_tF24_0 rfl rfl ?_
                refine o_loadS (AV.lit (.int .i64 (m.regs))) (Gd.yes rfl rfl (decide_eq_false h14)) Ym_tS3 rfl rfl rfl ?_
                refine o_geq (a := ((((m.code).getD (i) default)).reg)) (c := (m.regs)) (Gd.yes rfl rfl (decide_eq_false h14)) rfl rfl ?_
                refine o_pickF (bp ((m.regs) ≤ ((((m.code).getD (i) default)).reg))) Gd.none rfl (decide_eq_false h14) rfl ?_
                refine o_mv (bp ((m.regs) ≤ ((((m.code).getD (i) default)).reg))) rfl ?_
                refine o_splitP (q := (m.regs) ≤ ((((m.code).getD (i) default)).reg)) 55 rfl (fun h15 => ?_) (fun h15 => ?_)
                · refine o_skip rfl rfl (decide_eq_true h15) ?_
                  refine o_skip rfl rfl (decide_eq_true h15) ?_
                  refine o_skip rfl rfl (decide_eq_true h15) ?_
                  refine o_pickT (AV.lit (.bool true)) Gd.none rfl (decide_eq_true h15) rfl ?_
                  refine o_mv (AV.lit (.bool true)) rfl ?_
                  refine o_skip rfl rfl rfl ?_
                  refine o_skip rfl rfl rfl ?_
                  refine o_skip rfl rfl rfl ?_
                  refine o_skip rfl rfl rfl ?_
                  refine o_pickT (AV.lit (.bool true)) Gd.none rfl rfl rfl ?_
                  refine o_mv (AV.lit (.bool true)) rfl ?_
                  refine o_skip rfl rfl rfl ?_
                  refine o_skip rfl rfl rfl ?_
                  refine o_skip rfl rfl rfl ?_
                  refine o_pickT (AV.lit (.bool true)) Gd.none rfl rfl rfl ?_
                  refine o_mv (AV.lit (.bool true)) rfl ?_
                  refine o_skip rfl rfl rfl ?_
                  refine o_skip rfl rfl rfl ?_
                  refine o_skip rfl rfl rfl ?_
                  refine o_skip rfl rfl rfl ?_
                  refine o_pickT (AV.lit (.bool true)) Gd.none rfl rfl rfl ?_
                  refine o_mv (AV.lit (.bool true)) rfl ?_
                  refine o_skip rfl rfl rfl ?_
                  refine o_skip rfl rfl rfl ?_
                  refine o_skip rfl rfl rfl ?_
                  refine o_skip rfl rfl rfl ?_
                  refine o_skipU rfl rfl ?_
                  refine o_skipU rfl rfl ?_
                  refine o_skipU rfl rfl ?_
                  refine o_skip rfl rfl rfl ?_
                  refine o_pickT (AV.lit (.bool true)) Gd.none rfl rfl rfl ?_
                  refine aops_end ?_
                  refine hK14 _ ?_
                  refine awp_condB (b := true) rfl (fun _ => ?_) (fun hh => absurd (hh.symm.trans rfl) (by decide))
                  refine awp_seq fun K23 hK23 => ?_
                  refine awp_region rfl ?_
                  refine o_as (AV.lit (.bool false)) rfl ?_
                  refine aops_end ?_
                  refine hK23 _ ?_
                  refine awp_ret ?_
                  refine post_ret ⟨[(AV.lit (.bool false))], And.intro (AV.le_refl _) (trivial), rfl, ?_⟩
                  first | exact bpy ⟨by omega, by omega, by omega, by omega, fun x hx => by obtain ⟨k, hk, rfl⟩ := List.getElem_of_mem hx; have := hb k (by omega); rwa [List.getD_eq_getElem?_getD, List.getElem?_eq_getElem hk] at this⟩ | exact bpn (fun o => by obtain ⟨o1, o2, o3, o4, o5⟩ := o; omega) | exact bpn (fun o => by have hx := o.2.2.2.2 _ (gdm (d := default) (show i < m.code.length by omega)); clear hb o; unfold insP plc at hx; omega)
                · refine o_fieldRef 2 (Gd.yes rfl rfl (decide_eq_false h15)) Ym_tF88_2 rfl rfl ?_
                  refine o_loadS (AV.lit (.int .i64 ((((m.code).getD (i) default)).next))) (Gd.yes rfl rfl (decide_eq_false h15)) Ym_tS3 rfl rfl rfl ?_
                  refine o_lss (a := ((((m.code).getD (i) default)).next)) (c := (((0 : Nat) : Int))) (Gd.yes rfl rfl (decide_eq_false h15)) rfl rfl ?_
                  refine o_pickF (bp (((((m.code).getD (i) default)).next) < (((0 : Nat) : Int)))) Gd.none rfl (decide_eq_false h15) rfl ?_
                  refine o_mv (bp (((((m.code).getD (i) default)).next) < (((0 : Nat) : Int)))) rfl ?_
                  refine o_splitP (q := ((((m.code).getD (i) default)).next) < (((0 : Nat) : Int))) 60 rfl (fun h16 => ?_) (fun h16 => ?_)
                  · refine o_skip rfl rfl (decide_eq_true h16) ?_
                    refine o_skip rfl rfl (decide_eq_true h16) ?_
                    refine o_skip rfl rfl (decide_eq_true h16) ?_
                    refine o_skip rfl rfl (decide_eq_true h16) ?_
                    refine o_pickT (AV.lit (.bool true)) Gd.none rfl (decide_eq_true h16) rfl ?_
                    refine o_mv (AV.lit (.bool true)) rfl ?_
                    refine o_skip rfl rfl rfl ?_
                    refine o_skip rfl rfl rfl ?_
                    refine o_skip rfl rfl rfl ?_
                    refine o_pickT (AV.lit (.bool true)) Gd.none rfl rfl rfl ?_
                    refine o_mv (AV.lit (.bool true)) rfl ?_
                    refine o_skip rfl rfl rfl ?_
                    refine o_skip rfl rfl rfl ?_
                    refine o_skip rfl rfl rfl ?_
                    refine o_skip rfl rfl rfl ?_
                    refine o_pickT (AV.lit (.bool true)) Gd.none rfl rfl rfl ?_
                    refine o_mv (AV.lit (.bool true)) rfl ?_
                    refine o_skip rfl rfl rfl ?_
                    refine o_skip rfl rfl rfl ?_
                    refine o_skip rfl rfl rfl ?_
                    refine o_skip rfl rfl rfl ?_
                    refine o_skipU rfl rfl ?_
                    refine o_skipU rfl rfl ?_
                    refine o_skipU rfl rfl ?_
                    refine o_skip rfl rfl rfl ?_
                    refine o_pickT (AV.lit (.bool true)) Gd.none rfl rfl rfl ?_
                    refine aops_end ?_
                    refine hK14 _ ?_
                    refine awp_condB (b := true) rfl (fun _ => ?_) (fun hh => absurd (hh.symm.trans rfl) (by decide))
                    refine awp_seq fun K24 hK24 => ?_
                    refine awp_region rfl ?_
                    refine o_as (AV.lit (.bool false)) rfl ?_
                    refine aops_end ?_
                    refine hK24 _ ?_
                    refine awp_ret ?_
                    refine post_ret ⟨[(AV.lit (.bool false))], And.intro (AV.le_refl _) (trivial), rfl, ?_⟩
                    first | exact bpy ⟨by omega, by omega, by omega, by omega, fun x hx => by obtain ⟨k, hk, rfl⟩ := List.getElem_of_mem hx; have := hb k (by omega); rwa [List.getD_eq_getElem?_getD, List.getElem?_eq_getElem hk] at this⟩ | exact bpn (fun o => by obtain ⟨o1, o2, o3, o4, o5⟩ := o; omega) | exact bpn (fun o => by have hx := o.2.2.2.2 _ (gdm (d := default) (show i < m.code.length by omega)); clear hb o; unfold insP plc at hx; omega)
                  · refine o_fieldRef 2 (Gd.yes rfl rfl (decide_eq_false h16)) Ym_tF88_2 rfl rfl ?_
                    refine o_loadS (AV.lit (.int .i64 ((((m.code).getD (i) default)).next))) (Gd.yes rfl rfl (decide_eq_false h16)) Ym_tS3 rfl rfl rfl ?_
                    refine o_move (nm .i64 (m.code.length)) (Gd.yes rfl rfl (decide_eq_false h16)) rfl ?_
                    refine o_gtr (a := ((((m.code).getD (i) default)).next)) (c := (((m.code.length : Nat) : Int))) (Gd.yes rfl rfl (decide_eq_false h16)) rfl rfl ?_
                    refine o_pickF (bp ((((m.code.length : Nat) : Int)) < ((((m.code).getD (i) default)).next))) Gd.none rfl (decide_eq_false h16) rfl ?_
                    refine o_mv (bp ((((m.code.length : Nat) : Int)) < ((((m.code).getD (i) default)).next))) rfl ?_
                    refine o_splitP (q := (((m.code.length : Nat) : Int)) < ((((m.code).getD (i) default)).next)) 66 rfl (fun h17 => ?_) (fun h17 => ?_)
                    · refine o_skip rfl rfl (decide_eq_true h17) ?_
                      refine o_skip rfl rfl (decide_eq_true h17) ?_
                      refine o_skip rfl rfl (decide_eq_true h17) ?_
                      refine o_pickT (AV.lit (.bool true)) Gd.none rfl (decide_eq_true h17) rfl ?_
                      refine o_mv (AV.lit (.bool true)) rfl ?_
                      refine o_skip rfl rfl rfl ?_
                      refine o_skip rfl rfl rfl ?_
                      refine o_skip rfl rfl rfl ?_
                      refine o_skip rfl rfl rfl ?_
                      refine o_pickT (AV.lit (.bool true)) Gd.none rfl rfl rfl ?_
                      refine o_mv (AV.lit (.bool true)) rfl ?_
                      refine o_skip rfl rfl rfl ?_
                      refine o_skip rfl rfl rfl ?_
                      refine o_skip rfl rfl rfl ?_
                      refine o_skip rfl rfl rfl ?_
                      refine o_skipU rfl rfl ?_
                      refine o_skipU rfl rfl ?_
                      refine o_skipU rfl rfl ?_
                      refine o_skip rfl rfl rfl ?_
                      refine o_pickT (AV.lit (.bool true)) Gd.none rfl rfl rfl ?_
                      refine aops_end ?_
                      refine hK14 _ ?_
                      refine awp_condB (b := true) rfl (fun _ => ?_) (fun hh => absurd (hh.symm.trans rfl) (by decide))
                      refine awp_seq fun K25 hK25 => ?_
                      refine awp_region rfl ?_
                      refine o_as (AV.lit (.bool false)) rfl ?_
                      refine aops_end ?_
                      refine hK25 _ ?_
                      refine awp_ret ?_
                      refine post_ret ⟨[(AV.lit (.bool false))], And.intro (AV.le_refl _) (trivial), rfl, ?_⟩
                      first | exact bpy ⟨by omega, by omega, by omega, by omega, fun x hx => by obtain ⟨k, hk, rfl⟩ := List.getElem_of_mem hx; have := hb k (by omega); rwa [List.getD_eq_getElem?_getD, List.getElem?_eq_getElem hk] at this⟩ | exact bpn (fun o => by obtain ⟨o1, o2, o3, o4, o5⟩ := o; omega) | exact bpn (fun o => by have hx := o.2.2.2.2 _ (gdm (d := default) (show i < m.code.length by omega)); clear hb o; unfold insP plc at hx; omega)
                    · refine o_fieldRef 3 (Gd.yes rfl rfl (decide_eq_false h17)) Ym_tF88_3 rfl rfl ?_
                      refine o_loadS (AV.lit (.int .i64 ((((m.code).getD (i) default)).els))) (Gd.yes rfl rfl (decide_eq_false h17)) Ym_tS3 rfl rfl rfl ?_
                      refine o_lss (a := ((((m.code).getD (i) default)).els)) (c := (((0 : Nat) : Int))) (Gd.yes rfl rfl (decide_eq_false h17)) rfl rfl ?_
                      refine o_pickF (bp (((((m.code).getD (i) default)).els) < (((0 : Nat) : Int)))) Gd.none rfl (decide_eq_false h17) rfl ?_
                      refine o_mv (bp (((((m.code).getD (i) default)).els) < (((0 : Nat) : Int)))) rfl ?_
                      refine o_splitP (q := ((((m.code).getD (i) default)).els) < (((0 : Nat) : Int))) 71 rfl (fun h18 => ?_) (fun h18 => ?_)
                      · refine o_skip rfl rfl (decide_eq_true h18) ?_
                        refine o_skip rfl rfl (decide_eq_true h18) ?_
                        refine o_skip rfl rfl (decide_eq_true h18) ?_
                        refine o_skip rfl rfl (decide_eq_true h18) ?_
                        refine o_pickT (AV.lit (.bool true)) Gd.none rfl (decide_eq_true h18) rfl ?_
                        refine o_mv (AV.lit (.bool true)) rfl ?_
                        refine o_skip rfl rfl rfl ?_
                        refine o_skip rfl rfl rfl ?_
                        refine o_skip rfl rfl rfl ?_
                        refine o_skip rfl rfl rfl ?_
                        refine o_skipU rfl rfl ?_
                        refine o_skipU rfl rfl ?_
                        refine o_skipU rfl rfl ?_
                        refine o_skip rfl rfl rfl ?_
                        refine o_pickT (AV.lit (.bool true)) Gd.none rfl rfl rfl ?_
                        refine aops_end ?_
                        refine hK14 _ ?_
                        refine awp_condB (b := true) rfl (fun _ => ?_) (fun hh => absurd (hh.symm.trans rfl) (by decide))
                        refine awp_seq fun K26 hK26 => ?_
                        refine awp_region rfl ?_
                        refine o_as (AV.lit (.bool false)) rfl ?_
                        refine aops_end ?_
                        refine hK26 _ ?_
                        refine awp_ret ?_
                        refine post_ret ⟨[(AV.lit (.bool false))], And.intro (AV.le_refl _) (trivial), rfl, ?_⟩
                        first | exact bpy ⟨by omega, by omega, by omega, by omega, fun x hx => by obtain ⟨k, hk, rfl⟩ := List.getElem_of_mem hx; have := hb k (by omega); rwa [List.getD_eq_getElem?_getD, List.getElem?_eq_getElem hk] at this⟩ | exact bpn (fun o => by obtain ⟨o1, o2, o3, o4, o5⟩ := o; omega) | exact bpn (fun o => by have hx := o.2.2.2.2 _ (gdm (d := default) (show i < m.code.length by omega)); clear hb o; unfold insP plc at hx; omega)
                      · refine o_fieldRef 3 (Gd.yes rfl rfl (decide_eq_false h18)) Ym_tF88_3 rfl rfl ?_
                        refine o_loadS (AV.lit (.int .i64 ((((m.code).getD (i) default)).els))) (Gd.yes rfl rfl (decide_eq_false h18)) Ym_tS3 rfl rfl rfl ?_
                        refine o_move (nm .i64 (m.code.length)) (Gd.yes rfl rfl (decide_eq_false h18)) rfl ?_
                        refine o_gtr (a := ((((m.code).getD (i) default)).els)) (c := (((m.code.length : Nat) : Int))) (Gd.yes rfl rfl (decide_eq_false h18)) rfl rfl ?_
                        refine o_pickF (bp ((((m.code.length : Nat) : Int)) < ((((m.code).getD (i) default)).els))) Gd.none rfl (decide_eq_false h18) rfl ?_
                        refine o_mv (bp ((((m.code.length : Nat) : Int)) < ((((m.code).getD (i) default)).els))) rfl ?_
                        refine o_splitP (q := (((m.code.length : Nat) : Int)) < ((((m.code).getD (i) default)).els)) 77 rfl (fun h19 => ?_) (fun h19 => ?_)
                        · refine o_skip rfl rfl (decide_eq_true h19) ?_
                          refine o_skip rfl rfl (decide_eq_true h19) ?_
                          refine o_skip rfl rfl (decide_eq_true h19) ?_
                          refine o_skip rfl rfl (decide_eq_true h19) ?_
                          refine o_skipU rfl rfl ?_
                          refine o_skipU rfl rfl ?_
                          refine o_skipU rfl rfl ?_
                          refine o_skip rfl rfl (decide_eq_true h19) ?_
                          refine o_pickT (AV.lit (.bool true)) Gd.none rfl (decide_eq_true h19) rfl ?_
                          refine aops_end ?_
                          refine hK14 _ ?_
                          refine awp_condB (b := true) rfl (fun _ => ?_) (fun hh => absurd (hh.symm.trans rfl) (by decide))
                          refine awp_seq fun K27 hK27 => ?_
                          refine awp_region rfl ?_
                          refine o_as (AV.lit (.bool false)) rfl ?_
                          refine aops_end ?_
                          refine hK27 _ ?_
                          refine awp_ret ?_
                          refine post_ret ⟨[(AV.lit (.bool false))], And.intro (AV.le_refl _) (trivial), rfl, ?_⟩
                          first | exact bpy ⟨by omega, by omega, by omega, by omega, fun x hx => by obtain ⟨k, hk, rfl⟩ := List.getElem_of_mem hx; have := hb k (by omega); rwa [List.getD_eq_getElem?_getD, List.getElem?_eq_getElem hk] at this⟩ | exact bpn (fun o => by obtain ⟨o1, o2, o3, o4, o5⟩ := o; omega) | exact bpn (fun o => by have hx := o.2.2.2.2 _ (gdm (d := default) (show i < m.code.length by omega)); clear hb o; unfold insP plc at hx; omega)
                        · refine o_fieldRef 0 (Gd.yes rfl rfl (decide_eq_false h19)) Ym_tF88_0 rfl rfl ?_
                          refine o_loadS (AV.lit (.int .i64 ((((m.code).getD (i) default)).kind))) (Gd.yes rfl rfl (decide_eq_false h19)) Ym_tS3 rfl rfl rfl ?_
                          refine o_eql (a := ((((m.code).getD (i) default)).kind)) (c := (((0 : Nat) : Int))) (Gd.yes rfl rfl (decide_eq_false h19)) rfl rfl ?_
                          refine o_move (bp (((((m.code).getD (i) default)).kind) = (((0 : Nat) : Int)))) (Gd.yes rfl rfl (decide_eq_false h19)) rfl ?_
                          refine o_fieldRef 3 (Gd.yes rfl rfl (decide_eq_true (Decidable.not_not.1 h6))) Ym_tF88_3 rfl rfl ?_
                          refine o_loadS (AV.lit (.int .i64 ((((m.code).getD (i) default)).els))) (Gd.yes rfl rfl (decide_eq_true (Decidable.not_not.1 h6))) Ym_tS3 rfl rfl rfl ?_
                          refine o_neq (a := ((((m.code).getD (i) default)).els)) (c := (((0 : Nat) : Int))) (Gd.yes rfl rfl (decide_eq_true (Decidable.not_not.1 h6))) rfl rfl ?_
                          refine o_pickT (bp (((((m.code).getD (i) default)).els) ≠ (((0 : Nat) : Int)))) (Gd.yes rfl rfl (decide_eq_false h19)) rfl (decide_eq_true (Decidable.not_not.1 h6)) rfl ?_
                          refine o_pickF (bp (((((m.code).getD (i) default)).els) ≠ (((0 : Nat) : Int)))) Gd.none rfl (decide_eq_false h19) rfl ?_
                          refine aops_end ?_
                          refine hK14 _ ?_
                          refine awp_condQ (q := ((((m.code).getD (i) default)).els) ≠ (((0 : Nat) : Int))) rfl (fun h20 => ?_) (fun h20 => ?_)
                          · refine awp_seq fun K28 hK28 => ?_
                            refine awp_region rfl ?_
                            refine o_as (AV.lit (.bool false)) rfl ?_
                            refine aops_end ?_
                            refine hK28 _ ?_
                            refine awp_ret ?_
                            refine post_ret ⟨[(AV.lit (.bool false))], And.intro (AV.le_refl _) (trivial), rfl, ?_⟩
                            first | exact bpy ⟨by omega, by omega, by omega, by omega, fun x hx => by obtain ⟨k, hk, rfl⟩ := List.getElem_of_mem hx; have := hb k (by omega); rwa [List.getD_eq_getElem?_getD, List.getElem?_eq_getElem hk] at this⟩ | exact bpn (fun o => by obtain ⟨o1, o2, o3, o4, o5⟩ := o; omega) | exact bpn (fun o => by have hx := o.2.2.2.2 _ (gdm (d := default) (show i < m.code.length by omega)); clear hb o; unfold insP plc at hx; omega)
                          · refine awp_skip ?_
                            refine hK12 _ ?_
                            refine awp_region rfl ?_
                            refine o_mv (nm .i64 (i)) rfl ?_
                            refine n_add (i) (1) Gd.none rfl rfl (by simp only [topOf]; omega) ?_
                            refine o_as (nm .i64 ((i) + (1))) rfl ?_
                            refine aops_end ?_
                            refine ⟨_, _, ?lt, ⟨i + 1, (by omega), (fun k hk => by rcases Nat.lt_or_ge k i with e | e; exact hb k e; rw [show k = i by omega]; clear hb; unfold insP plc; omega), rfl, rfl⟩, ?wk⟩
                            case lt => omega
                            case wk => exact Wk.sub (And.intro rfl (And.intro rfl (And.intro (by first | rfl | exact congrArg (nm _) (by omega) | exact nm_int (by omega) | exact nm_int (by simp [IntKind.wrap, IntKind.bits, IntKind.signed]; omega)) (trivial)))) (And.intro rfl (trivial))
          · refine awp_exit ?_
            refine hK8 _ ?_
            refine awp_seq fun K29 hK29 => ?_
            refine awp_region rfl ?_
            refine o_as (AV.lit (.bool true)) rfl ?_
            refine aops_end ?_
            refine hK29 _ ?_
            refine awp_ret ?_
            refine post_ret ⟨[(AV.lit (.bool true))], And.intro (AV.le_refl _) (trivial), rfl, ?_⟩
            first | exact bpy ⟨by omega, by omega, by omega, by omega, fun x hx => by obtain ⟨k, hk, rfl⟩ := List.getElem_of_mem hx; have := hb k (by omega); rwa [List.getD_eq_getElem?_getD, List.getElem?_eq_getElem hk] at this⟩ | exact bpn (fun o => by obtain ⟨o1, o2, o3, o4, o5⟩ := o; omega) | exact bpn (fun o => by have hx := o.2.2.2.2 _ (gdm (d := default) (show i < m.code.length by omega)); clear hb o; unfold insP plc at hx; omega)

theorem c_vPrime (z : Int) (h0 : 0 ≤ z) (hz : z < 30) : ECalls cx 61 [(AV.lit (.int .i64 (z)))] (nm .i64 (P30.getD z.toNat 0)) := by
  refine ecalls_of_awp Tryz.func61 (c := _) rfl (Nat.le_of_ble_eq_true rfl) ?_
  show awp cx 29 _ (postF cx Tryz.f61 _) ⟨[(0, (AV.lit (.int .i64 (z))))], []⟩
  refine awp_seq fun K0 hK0 => ?_
  refine awp_region rfl ?_
  refine o_as (nm .i64 (0)) rfl ?_
  refine aops_end ?_
  refine hK0 _ ?_
  refine awp_seq fun K1 hK1 => ?_
  refine awp_region rfl ?_
  refine o_as (nm .i64 (2)) rfl ?_
  refine aops_end ?_
  refine hK1 _ ?_
  refine awp_block ?_
  refine awp_loopR (fun κ σ => ∃ (i : Nat), ∃ (p : Nat), (i ≤ z.toNat) ∧ (prv i < p) ∧ (p ≤ P30.getD i 0) ∧ (2 ≤ p) ∧ (114 - p) = κ ∧ σ = ⟨[(0, (AV.lit (.int .i64 (z - ((i : Nat) : Int))))), (3, (nm .i64 (p)))], []⟩) ⟨_, _, ⟨0, 2, (by omega), (by decide), (by decide), (by decide), rfl, rfl⟩, ?wk0⟩ ?rd0
  case wk0 =>
    exact Wk.sub (And.intro (by first | rfl | exact int_eq (by omega) | exact int_nm (by omega)) (And.intro (by first | rfl | exact congrArg (nm _) (by omega) | exact nm_int (by omega) | exact nm_int (by simp [IntKind.wrap, IntKind.bits, IntKind.signed]; omega)) (trivial))) (trivial)
  rintro κ _ ⟨i, p, hi, hp1, hp2, h2p, rfl, rfl⟩
  have hu := p30_up i (by omega)
  have hnd := nodiv_p30 i (by omega) p (by omega) hp1 hp2
  refine awp_block ?_
  refine awp_seq fun K2 hK2 => ?_
  refine awp_region rfl ?_
  refine o_as (AV.lit (.bool true)) rfl ?_
  refine n_as (v' := (bp (nodiv p 2))) (by exact (bpy (nodiv_two p)).symm) ?_
  refine aops_end ?_
  refine hK2 _ ?_
  refine awp_seq fun K3 hK3 => ?_
  refine awp_seq fun K4 hK4 => ?_
  refine awp_region rfl ?_
  refine o_as (nm .i64 (2)) rfl ?_
  refine aops_end ?_
  refine hK4 _ ?_
  refine awp_block ?_
  refine awp_loopR (fun κ σ => ∃ (d : Nat), (2 ≤ d) ∧ (d ≤ p) ∧ (p - d) = κ ∧ σ = ⟨[(0, (AV.lit (.int .i64 (z - ((i : Nat) : Int))))), (3, (nm .i64 (p))), (4, (bp (nodiv p d))), (5, (nm .i64 (d)))], []⟩) ⟨_, _, ⟨2, (by omega), (by omega), rfl, rfl⟩, ?wk1⟩ ?rd1
  case wk1 =>
    exact Wk.sub (And.intro rfl (And.intro rfl (And.intro (by first | rfl | exact bp_congr (by first | omega | simp) | exact bl_bp (by first | omega | simp)) (And.intro (by first | rfl | exact congrArg (nm _) (by omega) | exact nm_int (by omega) | exact nm_int (by simp [IntKind.wrap, IntKind.bits, IntKind.signed]; omega)) (trivial))))) (trivial)
  rintro κ _ ⟨d, hd1, hd2, rfl, rfl⟩
  refine awp_seq fun K5 hK5 => ?_
  refine awp_seq fun K6 hK6 => ?_
  refine awp_region rfl ?_
  refine o_mv (nm .i64 (d)) rfl ?_
  refine o_mv (nm .i64 (p)) rfl ?_
  refine n_lss (d) (p) Gd.none rfl rfl ?_
  refine aops_end ?_
  refine hK6 _ ?_
  refine awp_condQ (q := (d) < (p)) rfl (fun h1 => ?_) (fun h1 => ?_)
  · refine awp_skip ?_
    refine hK5 _ ?_
    refine awp_seq fun K7 hK7 => ?_
    refine awp_block ?_
    refine awp_region rfl ?_
    refine o_mv (bp (nodiv p d)) rfl ?_
    refine o_mv (bp (nodiv p d)) rfl ?_
    refine o_splitP (q := nodiv p d) 12 rfl (fun h2 => ?_) (fun h2 => ?_)
    · refine o_move (nm .i64 (p)) (Gd.yes rfl rfl (decide_eq_true h2)) rfl ?_
      refine o_move (nm .i64 (d)) (Gd.yes rfl rfl (decide_eq_true h2)) rfl ?_
      refine n_rem (p) (d) (Gd.yes rfl rfl (decide_eq_true h2)) rfl rfl (by omega) ?_
      refine n_neq ((p) % (d)) (0) (Gd.yes rfl rfl (decide_eq_true h2)) rfl rfl ?_
      refine o_pickT (bp (((p) % (d)) ≠ (0))) Gd.none rfl (decide_eq_true h2) rfl ?_
      refine n_as (v' := (bp (nodiv p (d + 1)))) (by first | exact bpc (nodiv_step (by assumption) hd1) | exact (bpn (nodiv_mono (by assumption))).symm) ?_
      refine o_as (bp (nodiv p (d + 1))) rfl ?_
      refine aops_end ?_
      refine hK7 _ ?_
      refine awp_region rfl ?_
      refine o_mv (nm .i64 (d)) rfl ?_
      refine n_add (d) (1) Gd.none rfl rfl (by simp only [topOf]; omega) ?_
      refine o_as (nm .i64 ((d) + (1))) rfl ?_
      refine aops_end ?_
      refine ⟨_, _, ?lt, ⟨d + 1, (by omega), (by omega), rfl, rfl⟩, ?wk⟩
      case lt => omega
      case wk => exact Wk.sub (And.intro rfl (And.intro rfl (And.intro (by first | rfl | exact bp_congr (by first | omega | simp) | exact bl_bp (by first | omega | simp)) (And.intro (by first | rfl | exact congrArg (nm _) (by omega) | exact nm_int (by omega) | exact nm_int (by simp [IntKind.wrap, IntKind.bits, IntKind.signed]; omega)) (trivial))))) (trivial)
    · refine o_skip rfl rfl (decide_eq_false h2) ?_
      refine o_skip rfl rfl (decide_eq_false h2) ?_
      refine o_skip rfl rfl (decide_eq_false h2) ?_
      refine o_skip rfl rfl (decide_eq_false h2) ?_
      refine o_pickF (AV.lit (.bool false)) Gd.none rfl (decide_eq_false h2) rfl ?_
      refine n_as (v' := (bp (nodiv p (d + 1)))) (by first | exact bpc (nodiv_step (by assumption) hd1) | exact (bpn (nodiv_mono (by assumption))).symm) ?_
      refine o_as (bp (nodiv p (d + 1))) rfl ?_
      refine aops_end ?_
      refine hK7 _ ?_
      refine awp_region rfl ?_
      refine o_mv (nm .i64 (d)) rfl ?_
      refine n_add (d) (1) Gd.none rfl rfl (by simp only [topOf]; omega) ?_
      refine o_as (nm .i64 ((d) + (1))) rfl ?_
      refine aops_end ?_
      refine ⟨_, _, ?lt, ⟨d + 1, (by omega), (by omega), rfl, rfl⟩, ?wk⟩
      case lt => omega
      case wk => exact Wk.sub (And.intro rfl (And.intro rfl (And.intro (by first | rfl | exact bp_congr (by first | omega | simp) | exact bl_bp (by first | omega | simp)) (And.intro (by first | rfl | exact congrArg (nm _) (by omega) | exact nm_int (by omega) | exact nm_int (by simp [IntKind.wrap, IntKind.bits, IntKind.signed]; omega)) (trivial))))) (trivial)
  · have hdp : d = p := by omega
    have hnd2 : nodiv p d ↔ p = P30.getD i 0 := by rw [hdp]; exact hnd
    refine awp_exit ?_
    refine hK3 _ ?_
    refine awp_seq fun K8 hK8 => ?_
    refine awp_seq fun K9 hK9 => ?_
    refine awp_region rfl ?_
    refine o_mv (bp (nodiv p d)) rfl ?_
    refine o_mv (bp (nodiv p d)) rfl ?_
    refine o_splitP (q := nodiv p d) 19 rfl (fun h3 => ?_) (fun h3 => ?_)
    · refine o_move (AV.lit (.int .i64 (z - ((i : Nat) : Int)))) (Gd.yes rfl rfl (decide_eq_true h3)) rfl ?_
      refine o_eql (a := (z - ((i : Nat) : Int))) (c := (((0 : Nat) : Int))) (Gd.yes rfl rfl (decide_eq_true h3)) rfl rfl ?_
      refine o_pickT (bp ((z - ((i : Nat) : Int)) = (((0 : Nat) : Int)))) Gd.none rfl (decide_eq_true h3) rfl ?_
      refine aops_end ?_
      refine hK9 _ ?_
      refine awp_condQ (q := (z - ((i : Nat) : Int)) = (((0 : Nat) : Int))) rfl (fun h4 => ?_) (fun h4 => ?_)
      · refine awp_seq fun K10 hK10 => ?_
        refine awp_region rfl ?_
        refine o_mv (nm .i64 (p)) rfl ?_
        refine o_as (nm .i64 (p)) rfl ?_
        refine aops_end ?_
        refine hK10 _ ?_
        refine awp_ret ?_
        refine post_ret ⟨[(nm .i64 (p))], And.intro (AV.le_refl _) (trivial), rfl, ?_⟩
        rw [show z.toNat = i by omega]; exact congrArg (nm .i64) (hnd2.1 (by assumption)).symm
      · refine awp_skip ?_
        refine hK8 _ ?_
        refine awp_seq fun K11 hK11 => ?_
        refine awp_seq fun K12 hK12 => ?_
        refine awp_region rfl ?_
        refine o_mv (bp (nodiv p d)) rfl ?_
        refine aops_end ?_
        refine hK12 _ ?_
        refine awp_condB (b := decide (nodiv p d)) rfl (fun _ => ?_) (fun hh => absurd (hh.symm.trans (decide_eq_true h3)) (by decide))
        refine awp_region rfl ?_
        refine o_mv (AV.lit (.int .i64 (z - ((i : Nat) : Int)))) rfl ?_
        refine o_sub (a := (z - ((i : Nat) : Int))) (c := (((1 : Nat) : Int))) Gd.none rfl rfl (by exact wrap64 (by omega) (by omega)) ?_
        refine o_as (AV.lit (.int .i64 ((z - ((i : Nat) : Int)) - (((1 : Nat) : Int))))) rfl ?_
        refine aops_end ?_
        refine hK11 _ ?_
        refine awp_region rfl ?_
        refine o_mv (nm .i64 (p)) rfl ?_
        refine n_add (p) (1) Gd.none rfl rfl (by simp only [topOf]; omega) ?_
        refine o_as (nm .i64 ((p) + (1))) rfl ?_
        refine aops_end ?_
        refine ⟨_, _, ?lt, ⟨i + 1, p + 1, (by omega), (by have q := hnd2.1 (by assumption); rw [prv_succ]; omega), (by have q := hnd2.1 (by assumption); have := (p30_up (i + 1) (by omega)).1; rw [prv_succ] at this; omega), (by omega), rfl, rfl⟩, ?wk⟩
        case lt => omega
        case wk => exact Wk.sub (And.intro (by first | rfl | exact int_eq (by omega) | exact int_nm (by omega)) (And.intro (by first | rfl | exact congrArg (nm _) (by omega) | exact nm_int (by omega) | exact nm_int (by simp [IntKind.wrap, IntKind.bits, IntKind.signed]; omega)) (trivial))) (trivial)
    · refine o_skip rfl rfl (decide_eq_false h3) ?_
      refine o_skip rfl rfl (decide_eq_false h3) ?_
      refine o_pickF (AV.lit (.bool false)) Gd.none rfl (decide_eq_false h3) rfl ?_
      refine aops_end ?_
      refine hK9 _ ?_
      refine awp_condB (b := false) rfl (fun hh => absurd (hh.symm.trans rfl) (by decide)) (fun _ => ?_)
      refine awp_skip ?_
      refine hK8 _ ?_
      refine awp_seq fun K13 hK13 => ?_
      refine awp_seq fun K14 hK14 => ?_
      refine awp_region rfl ?_
      refine o_mv (bp (nodiv p d)) rfl ?_
      refine aops_end ?_
      refine hK14 _ ?_
      refine awp_condB (b := decide (nodiv p d)) rfl (fun hh => absurd (hh.symm.trans (decide_eq_false h3)) (by decide)) (fun _ => ?_)
      refine awp_skip ?_
      refine hK13 _ ?_
      refine awp_region rfl ?_
      refine o_mv (nm .i64 (p)) rfl ?_
      refine n_add (p) (1) Gd.none rfl rfl (by simp only [topOf]; omega) ?_
      refine o_as (nm .i64 ((p) + (1))) rfl ?_
      refine aops_end ?_
      refine ⟨_, _, ?lt, ⟨i, p + 1, (by omega), (by omega), (by have q : ¬ p = P30.getD i 0 := fun e => absurd (hnd2.2 e) (by assumption); omega), (by omega), rfl, rfl⟩, ?wk⟩
      case lt => omega
      case wk => exact Wk.sub (And.intro rfl (And.intro (by first | rfl | exact congrArg (nm _) (by omega) | exact nm_int (by omega) | exact nm_int (by simp [IntKind.wrap, IntKind.bits, IntKind.signed]; omega)) (trivial))) (trivial)

theorem c_vOwn (m : Mac) (z : Int) (h0 : 0 ≤ m.regs + 2 * z) (h1 : m.regs + 2 * z < 30) (h2 : 0 ≤ m.regs) (h3 : m.regs ≤ 4) : ECalls cx 64 [(macV m), (AV.lit (.int .i64 (z)))] (nm .i64 (ownP m z)) := by
  refine ecalls_of_awp Tryz.func64 (c := _) rfl (Nat.le_of_ble_eq_true rfl) ?_
  show awp cx 11 _ (postF cx Tryz.f64 _) ⟨[(0, (macV m)), (1, (AV.lit (.int .i64 (z))))], []⟩
  refine awp_seq fun K0 hK0 => ?_
  refine awp_region rfl ?_
  refine o_box 2 [(AV.lit (.int .i64 (m.regs))), (AV.sl 4 (gcells cI (m.code)))] Gd.none rfl rfl ?_
  refine o_as (nm .i64 (0)) rfl ?_
  refine aops_end ?_
  refine hK0 _ ?_
  refine awp_seq fun K1 hK1 => ?_
  refine awp_region rfl ?_
  refine o_fieldRef 0 Gd.none Ym_tF24_0 rfl rfl ?_
  refine o_loadS (AV.lit (.int .i64 (m.regs))) Gd.none Ym_tS3 rfl rfl rfl ?_
  refine o_mv (AV.lit (.int .i64 (z))) rfl ?_
  refine o_mul (a := (((2 : Nat) : Int))) (c := (z)) Gd.none rfl rfl (by exact wrap64 (by omega) (by omega)) ?_
  refine o_add (a := (m.regs)) (c := ((((2 : Nat) : Int)) * (z))) Gd.none rfl rfl (by exact wrap64 (by omega) (by omega)) ?_
  refine o_ct (c_vPrime ((m.regs) + ((((2 : Nat) : Int)) * (z))) (by omega) (by omega)) Gd.none Ym_tC61 rfl ?_
  refine o_as (nm .i64 (P30.getD ((m.regs) + ((((2 : Nat) : Int)) * (z))).toNat 0)) rfl ?_
  refine aops_end ?_
  refine hK1 _ ?_
  refine awp_ret ?_
  refine post_ret ⟨[(nm .i64 (P30.getD ((m.regs) + ((((2 : Nat) : Int)) * (z))).toNat 0))], And.intro (AV.le_refl _) (trivial), rfl, ?_⟩
  rfl

theorem c_vCopy (m : Mac) (z : Int) (h0 : 0 ≤ m.regs + 2 * z) (h1 : m.regs + 2 * z < 29) (h2 : 0 ≤ m.regs) (h3 : m.regs ≤ 4) : ECalls cx 63 [(macV m), (AV.lit (.int .i64 (z)))] (nm .i64 (twnP m z)) := by
  refine ecalls_of_awp Tryz.func63 (c := _) rfl (Nat.le_of_ble_eq_true rfl) ?_
  show awp cx 12 _ (postF cx Tryz.f63 _) ⟨[(0, (macV m)), (1, (AV.lit (.int .i64 (z))))], []⟩
  refine awp_seq fun K0 hK0 => ?_
  refine awp_region rfl ?_
  refine o_box 2 [(AV.lit (.int .i64 (m.regs))), (AV.sl 4 (gcells cI (m.code)))] Gd.none rfl rfl ?_
  refine o_as (nm .i64 (0)) rfl ?_
  refine aops_end ?_
  refine hK0 _ ?_
  refine awp_seq fun K1 hK1 => ?_
  refine awp_region rfl ?_
  refine o_fieldRef 0 Gd.none Ym_tF24_0 rfl rfl ?_
  refine o_loadS (AV.lit (.int .i64 (m.regs))) Gd.none Ym_tS3 rfl rfl rfl ?_
  refine o_mv (AV.lit (.int .i64 (z))) rfl ?_
  refine o_mul (a := (((2 : Nat) : Int))) (c := (z)) Gd.none rfl rfl (by exact wrap64 (by omega) (by omega)) ?_
  refine o_add (a := (m.regs)) (c := ((((2 : Nat) : Int)) * (z))) Gd.none rfl rfl (by exact wrap64 (by omega) (by omega)) ?_
  refine o_add (a := ((m.regs) + ((((2 : Nat) : Int)) * (z)))) (c := (((1 : Nat) : Int))) Gd.none rfl rfl (by exact wrap64 (by omega) (by omega)) ?_
  refine o_ct (c_vPrime (((m.regs) + ((((2 : Nat) : Int)) * (z))) + (((1 : Nat) : Int))) (by omega) (by omega)) Gd.none Ym_tC61 rfl ?_
  refine o_as (nm .i64 (P30.getD (((m.regs) + ((((2 : Nat) : Int)) * (z))) + (((1 : Nat) : Int))).toNat 0)) rfl ?_
  refine aops_end ?_
  refine hK1 _ ?_
  refine awp_ret ?_
  refine post_ret ⟨[(nm .i64 (P30.getD (((m.regs) + ((((2 : Nat) : Int)) * (z))) + (((1 : Nat) : Int))).toNat 0))], And.intro (AV.le_refl _) (trivial), rfl, ?_⟩
  rfl

theorem c_vFrac (a b : Nat) (ha : a ≤ 99999) (hb : b ≤ 99999) : ECalls cx 62 [(nm .i64 (a)), (nm .i64 (b))] (.agg [.lit (.string (txt ((a : Nat) : Int))), .lit (.string (txt ((b : Nat) : Int)))]) := by
  refine ecalls_of_awp Tryz.func62 (c := _) rfl (Nat.le_of_ble_eq_true rfl) ?_
  show awp cx 12 _ (postF cx Tryz.f62 _) ⟨[(0, (nm .i64 (a))), (1, (nm .i64 (b)))], []⟩
  have la := small_len (z := ((a : Nat) : Int)) (by omega)
  have lb := small_len (z := ((b : Nat) : Int)) (by omega)
  refine awp_seq fun K0 hK0 => ?_
  refine awp_region rfl ?_
  refine o_alloc 2 [(AV.lit (.string (({data := #[]} : ByteArray)))), (AV.lit (.string (({data := #[]} : ByteArray))))] Gd.none Ym_tO52 rfl rfl rfl ?_
  refine aops_end ?_
  refine hK0 _ ?_
  refine awp_seq fun K1 hK1 => ?_
  refine awp_region rfl ?_
  refine o_mv (nm .i64 (a)) rfl ?_
  refine o_ct (c_rOf (((a : Nat) : Int)) (by first | decide | omega) (by first | decide | omega)) Gd.none Ym_tC78 rfl ?_
  refine o_ct (c_rText (((a : Nat) : Int)) (by first | omega | assumption | (simp only [Int.natAbs_neg]; omega))) Gd.none Ym_tC27 rfl ?_
  refine o_mv (nm .i64 (b)) rfl ?_
  refine o_ct (c_rOf (((b : Nat) : Int)) (by first | decide | omega) (by first | decide | omega)) Gd.none Ym_tC78 rfl ?_
  refine o_ct (c_rText (((b : Nat) : Int)) (by first | omega | assumption | (simp only [Int.natAbs_neg]; omega))) Gd.none Ym_tC27 rfl ?_
  refine o_build [(AV.lit (.string (txt (((a : Nat) : Int))))), (AV.lit (.string (txt (((b : Nat) : Int)))))] [(0, [(AV.lit (.string (txt (((a : Nat) : Int)))))]), (1, [(AV.lit (.string (txt (((b : Nat) : Int)))))])] Gd.none Ym_tP52 Ym_tO52 rfl rfl rfl ?_
  refine o_store [(2, (AO.var 52 [(AV.lit (.string (txt (((a : Nat) : Int))))), (AV.lit (.string (txt (((b : Nat) : Int)))))]))] Gd.none Ym_tZ52 rfl rfl rfl rfl rfl rfl ?_
  refine aops_end ?_
  refine hK1 _ ?_
  refine awp_ret ?_
  refine post_ret ⟨[(AV.agg [(AV.lit (.string (txt (((a : Nat) : Int))))), (AV.lit (.string (txt (((b : Nat) : Int)))))])], And.intro ⟨2, (AO.var 52 [(AV.lit (.string (txt (((a : Nat) : Int))))), (AV.lit (.string (txt (((b : Nat) : Int)))))]), rfl, rfl, rfl, Or.inl ⟨Ym_tA52, AV.le_refl _⟩⟩ (trivial), rfl, ?_⟩
  rfl

theorem c_vCompile (m : Mac) (hM : okMac m) : ECalls cx 18 [(macV m)] (.sl 2 (gcells cF (cmp2 m (m.code.length + 1)))) := by
  refine ecalls_of_awp Tryz.func18 (c := _) rfl (Nat.le_of_ble_eq_true rfl) ?_
  show awp cx 78 _ (postF cx Tryz.f18 _) ⟨[(0, (macV m))], []⟩
  have hM2 := hM
  obtain ⟨o1, o2, o3, o4, o5⟩ := hM2
  refine awp_seq fun K0 hK0 => ?_
  refine awp_region rfl ?_
  refine o_box 2 [(AV.lit (.int .i64 (m.regs))), (AV.sl 4 (gcells cI (m.code)))] Gd.none rfl rfl ?_
  refine o_as (AV.lit (.slice none 0 0)) rfl ?_
  refine aops_end ?_
  refine hK0 _ ?_
  refine awp_seq fun K1 hK1 => ?_
  refine awp_region rfl ?_
  refine o_as (AV.lit (.slice none 0 0)) rfl ?_
  refine aops_end ?_
  refine hK1 _ ?_
  refine awp_seq fun K2 hK2 => ?_
  refine awp_seq fun K3 hK3 => ?_
  refine awp_region rfl ?_
  refine o_as (nm .i64 (0)) rfl ?_
  refine aops_end ?_
  refine hK3 _ ?_
  refine awp_block ?_
  refine awp_loopR (fun κ σ => ∃ (i : Nat), (i ≤ m.code.length) ∧ (m.code.length - i) = κ ∧ σ = ⟨[(1, (AV.ref 2 (0))), (3, (AV.row 50)), (4, (nm .i64 (i)))], [(2, (AO.var 24 [(AV.lit (.int .i64 (m.regs))), (AV.sl 4 (gcells cI (m.code)))])), (50, (AO.row 52 2 (gcells cF (cmp1 m i))))]⟩) ⟨_, _, ⟨0, (by omega), rfl, rfl⟩, ?wk0⟩ ?rd0
  case wk0 =>
    exact Wk.trans (Wk.newNil (i := 3) (id := 503) (e := 52) (sz := 2) rfl rfl (by decide)) (Wk.trans (Wk.sub (σ' := ⟨[(1, (AV.ref 2 (0))), (3, (AV.row 503)), (4, (nm .i64 (0)))], [(2, (AO.var 24 [(AV.lit (.int .i64 (m.regs))), (AV.sl 4 (gcells cI (m.code)))])), (503, (AO.row 52 2 (gcells cF ([]))))]⟩) (And.intro rfl (And.intro rfl (And.intro rfl (trivial)))) (And.intro rfl (And.intro rfl (trivial)))) (Wk.trans (Wk.ren (id := 503) (id' := 50) rfl) (Wk.sub (And.intro rfl (And.intro (by first | rfl | (simp)) (And.intro (by first | rfl | exact congrArg (nm _) (by omega) | exact nm_int (by omega) | exact nm_int (by simp [IntKind.wrap, IntKind.bits, IntKind.signed]; omega)) (trivial)))) (And.intro (by first | rfl | (exact row_gs (by first | exact cmp1_a rfl (by omega) | exact cmp1_b rfl (by omega) | rfl | (rw [show i = m.code.length by omega]; rfl)))) (And.intro (by first | rfl | exact row_ns (by simp) | (exact row_gs (by first | exact cmp1_a rfl (by omega) | exact cmp1_b rfl (by omega) | rfl | (rw [show i = m.code.length by omega]; rfl)))) (trivial))))))
  rintro κ _ ⟨i, hi, rfl, rfl⟩
  have hle := cmp1_len m i
  refine awp_seq fun K4 hK4 => ?_
  refine awp_seq fun K5 hK5 => ?_
  refine awp_region rfl ?_
  refine o_mv (nm .i64 (i)) rfl ?_
  refine o_fieldRef 1 Gd.none Ym_tF24_1 rfl rfl ?_
  refine o_loadS (AV.sl 4 (gcells cI (m.code))) Gd.none Ym_tS22 rfl rfl rfl ?_
  refine g_len cI (m.code) cI_len Gd.none Ym_tU22 rfl ?_
  refine n_lss (i) ((m.code).length) Gd.none rfl rfl ?_
  refine aops_end ?_
  refine hK5 _ ?_
  refine awp_condQ (q := (i) < ((m.code).length)) rfl (fun h1 => ?_) (fun h1 => ?_)
  · have hx := o5 _ (gdm (d := default) h1)
    obtain ⟨⟨x1, x2, x3⟩, x4⟩ := hx
    unfold plc at x3 x4
    have b1 := p30_bd ((m.code).getD (i) default).reg.toNat
    have b2 := twnP_bd m ((m.code).getD (i) default).next
    have b3 := ownP_bd m ((i : Nat) : Int)
    have b4 := Nat.mul_le_mul b2 b1
    have b5 := Nat.mul_le_mul b3 b1
    have b6 := twnP_bd m ((m.code).getD (i) default).els
    refine awp_skip ?_
    refine hK4 _ ?_
    refine awp_seq fun K6 hK6 => ?_
    refine awp_block ?_
    refine awp_seq fun K7 hK7 => ?_
    refine awp_region rfl ?_
    refine o_fieldRef 1 Gd.none Ym_tF24_1 rfl rfl ?_
    refine o_loadS (AV.sl 4 (gcells cI (m.code))) Gd.none Ym_tS22 rfl rfl rfl ?_
    refine o_mv (nm .i64 (i)) rfl ?_
    refine g_index cI (m.code) (i) cI_len rfl Gd.none Ym_tE22 rfl rfl (by omega) ?_
    refine g_loadA cI (m.code) (i) default cI_len Gd.none Ym_tA88 rfl (by omega) ?_
    refine o_alloc 101 [(nm .i64 (0)), (nm .i64 (0)), (nm .i64 (0)), (nm .i64 (0))] Gd.none Ym_tO88 rfl rfl rfl ?_
    refine o_store [(101, (AO.var 88 [(AV.lit (.int .i64 ((((m.code).getD (i) default)).kind))), (AV.lit (.int .i64 ((((m.code).getD (i) default)).reg))), (AV.lit (.int .i64 ((((m.code).getD (i) default)).next))), (AV.lit (.int .i64 ((((m.code).getD (i) default)).els)))])), (2, (AO.var 24 [(AV.lit (.int .i64 (m.regs))), (AV.sl 4 (gcells cI (m.code)))])), (50, (AO.row 52 2 (gcells cF (cmp1 m i))))] Gd.none Ym_tZ88 rfl rfl rfl rfl rfl rfl ?_
    refine aops_end ?_
    refine hK7 _ ?_
    refine awp_seq fun K8 hK8 => ?_
    refine awp_region rfl ?_
    refine o_fieldRef 1 Gd.none Ym_tF88_1 rfl rfl ?_
    refine o_loadS (AV.lit (.int .i64 ((((m.code).getD (i) default)).reg))) Gd.none Ym_tS3 rfl rfl rfl ?_
    refine o_ct (c_vPrime ((((m.code).getD (i) default)).reg) (by omega) (by omega)) Gd.none Ym_tC61 rfl ?_
    refine o_as (nm .i64 (P30.getD ((((m.code).getD (i) default)).reg).toNat 0)) rfl ?_
    refine aops_end ?_
    refine hK8 _ ?_
    refine awp_seq fun K9 hK9 => ?_
    refine awp_region rfl ?_
    refine o_fieldRef 0 Gd.none Ym_tF88_0 rfl rfl ?_
    refine o_loadS (AV.lit (.int .i64 ((((m.code).getD (i) default)).kind))) Gd.none Ym_tS3 rfl rfl rfl ?_
    refine o_eql (a := ((((m.code).getD (i) default)).kind)) (c := (((0 : Nat) : Int))) Gd.none rfl rfl ?_
    refine aops_end ?_
    refine hK9 _ ?_
    refine awp_condQ (q := ((((m.code).getD (i) default)).kind) = (((0 : Nat) : Int))) rfl (fun h2 => ?_) (fun h2 => ?_)
    · refine awp_regionD rfl ?_
      refine o_mv (AV.row 50) rfl ?_
      refine o_loadA [(AV.lit (.int .i64 (m.regs))), (AV.sl 4 (gcells cI (m.code)))] Gd.none Ym_tA24 rfl rfl rfl rfl rfl ?_
      refine o_fieldRef 2 Gd.none Ym_tF88_2 rfl rfl ?_
      refine o_loadS (AV.lit (.int .i64 ((((m.code).getD (i) default)).next))) Gd.none Ym_tS3 rfl rfl rfl ?_
      refine o_ct (c_vCopy m ((((m.code).getD (i) default)).next) (by omega) (by omega) (by omega) (by omega)) Gd.none Ym_tC63 rfl ?_
      refine o_mv (nm .i64 (P30.getD ((((m.code).getD (i) default)).reg).toNat 0)) rfl ?_
      refine n_mul (twnP m ((((m.code).getD (i) default)).next)) (P30.getD ((((m.code).getD (i) default)).reg).toNat 0) Gd.none rfl rfl (by simp only [topOf]; omega) ?_
      refine o_loadA [(AV.lit (.int .i64 (m.regs))), (AV.sl 4 (gcells cI (m.code)))] Gd.none Ym_tA24 rfl rfl rfl rfl rfl ?_
      refine o_mv (nm .i64 (i)) rfl ?_
      refine o_ct (c_vOwn m (((i : Nat) : Int)) (by omega) (by omega) (by omega) (by omega)) Gd.none Ym_tC64 rfl ?_
      refine o_ct (c_vFrac ((twnP m ((((m.code).getD (i) default)).next)) * (P30.getD ((((m.code).getD (i) default)).reg).toNat 0)) (ownP m (((i : Nat) : Int))) (by omega) (by omega)) Gd.none Ym_tC62 rfl ?_
      refine o_buildSlice 102 (gcells cF ([(Frc.mk (txt (((twnP m ((((m.code).getD (i) default)).next)) * (P30.getD ((((m.code).getD (i) default)).reg).toNat 0) : Nat) : Int)) (txt ((ownP m (((i : Nat) : Int)) : Nat) : Int)))])) [(0, [(AV.lit (.string (txt (((twnP m ((((m.code).getD (i) default)).next)) * (P30.getD ((((m.code).getD (i) default)).reg).toNat 0) : Nat) : Int)))), (AV.lit (.string (txt ((ownP m (((i : Nat) : Int)) : Nat) : Int))))])] Gd.none Ym_tE26 rfl Ym_tO52 rfl rfl rfl rfl rfl rfl rfl ?_
      refine g_append cF 103 (cmp1 m i) ([(Frc.mk (txt (((twnP m ((((m.code).getD (i) default)).next)) * (P30.getD ((((m.code).getD (i) default)).reg).toNat 0) : Nat) : Int)) (txt ((ownP m (((i : Nat) : Int)) : Nat) : Int)))]) [(102, (AO.row 52 2 (gcells cF ([(Frc.mk (txt (((twnP m ((((m.code).getD (i) default)).next)) * (P30.getD ((((m.code).getD (i) default)).reg).toNat 0) : Nat) : Int)) (txt ((ownP m (((i : Nat) : Int)) : Nat) : Int)))])))), (101, (AO.var 88 [(AV.lit (.int .i64 ((((m.code).getD (i) default)).kind))), (AV.lit (.int .i64 ((((m.code).getD (i) default)).reg))), (AV.lit (.int .i64 ((((m.code).getD (i) default)).next))), (AV.lit (.int .i64 ((((m.code).getD (i) default)).els)))])), (2, (AO.var 24 [(AV.lit (.int .i64 (m.regs))), (AV.sl 4 (gcells cI (m.code)))]))] cF_len rfl Gd.none Ym_tE26 Ym_tO52 rfl rfl rfl rfl rfl (by simp only [List.length_append, List.length_cons, List.length_nil]; omega) (by simp only [List.length_append, List.length_cons, List.length_nil]; omega) rfl rfl ?_
      refine o_as (AV.row 103) rfl ?_
      refine aops_end ⟨by kernel_rfl, ?_⟩
      refine hK6 _ ?_
      refine awp_region rfl ?_
      refine o_mv (nm .i64 (i)) rfl ?_
      refine n_add (i) (1) Gd.none rfl rfl (by simp only [topOf]; omega) ?_
      refine o_as (nm .i64 ((i) + (1))) rfl ?_
      refine aops_end ?_
      refine ⟨_, _, ?lt, ⟨i + 1, (by omega), rfl, rfl⟩, ?wk⟩
      case lt => omega
      case wk => exact Wk.trans (Wk.sub (σ' := ⟨[(1, (AV.ref 2 (0))), (3, (AV.row 103)), (4, (nm .i64 ((i) + (1))))], [(2, (AO.var 24 [(AV.lit (.int .i64 (m.regs))), (AV.sl 4 (gcells cI (m.code)))])), (103, (AO.row 52 2 (gcells cF ((cmp1 m i) ++ ([(Frc.mk (txt (((twnP m ((((m.code).getD (i) default)).next)) * (P30.getD ((((m.code).getD (i) default)).reg).toNat 0) : Nat) : Int)) (txt ((ownP m (((i : Nat) : Int)) : Nat) : Int)))])))))]⟩) (And.intro rfl (And.intro rfl (And.intro rfl (trivial)))) (And.intro rfl (And.intro rfl (trivial)))) (Wk.trans (Wk.ren (id := 103) (id' := 50) rfl) (Wk.sub (And.intro rfl (And.intro (by first | rfl | (simp)) (And.intro (by first | rfl | exact congrArg (nm _) (by omega) | exact nm_int (by omega) | exact nm_int (by simp [IntKind.wrap, IntKind.bits, IntKind.signed]; omega)) (trivial)))) (And.intro rfl (And.intro (by first | rfl | exact row_ns (by simp) | (exact row_gs (by first | exact cmp1_a rfl (by omega) | exact cmp1_b rfl (by omega) | rfl | (rw [show i = m.code.length by omega]; rfl)))) (trivial)))))
    · refine awp_regionD rfl ?_
      refine o_mv (AV.row 50) rfl ?_
      refine o_loadA [(AV.lit (.int .i64 (m.regs))), (AV.sl 4 (gcells cI (m.code)))] Gd.none Ym_tA24 rfl rfl rfl rfl rfl ?_
      refine o_fieldRef 2 Gd.none Ym_tF88_2 rfl rfl ?_
      refine o_loadS (AV.lit (.int .i64 ((((m.code).getD (i) default)).next))) Gd.none Ym_tS3 rfl rfl rfl ?_
      refine o_ct (c_vCopy m ((((m.code).getD (i) default)).next) (by omega) (by omega) (by omega) (by omega)) Gd.none Ym_tC63 rfl ?_
      refine o_loadA [(AV.lit (.int .i64 (m.regs))), (AV.sl 4 (gcells cI (m.code)))] Gd.none Ym_tA24 rfl rfl rfl rfl rfl ?_
      refine o_mv (nm .i64 (i)) rfl ?_
      refine o_ct (c_vOwn m (((i : Nat) : Int)) (by omega) (by omega) (by omega) (by omega)) Gd.none Ym_tC64 rfl ?_
      refine o_mv (nm .i64 (P30.getD ((((m.code).getD (i) default)).reg).toNat 0)) rfl ?_
      refine n_mul (ownP m (((i : Nat) : Int))) (P30.getD ((((m.code).getD (i) default)).reg).toNat 0) Gd.none rfl rfl (by simp only [topOf]; omega) ?_
      refine o_ct (c_vFrac (twnP m ((((m.code).getD (i) default)).next)) ((ownP m (((i : Nat) : Int))) * (P30.getD ((((m.code).getD (i) default)).reg).toNat 0)) (by omega) (by omega)) Gd.none Ym_tC62 rfl ?_
      refine o_loadA [(AV.lit (.int .i64 (m.regs))), (AV.sl 4 (gcells cI (m.code)))] Gd.none Ym_tA24 rfl rfl rfl rfl rfl ?_
      refine o_fieldRef 3 Gd.none Ym_tF88_3 rfl rfl ?_
      refine o_loadS (AV.lit (.int .i64 ((((m.code).getD (i) default)).els))) Gd.none Ym_tS3 rfl rfl rfl ?_
      refine o_ct (c_vCopy m ((((m.code).getD (i) default)).els) (by omega) (by omega) (by omega) (by omega)) Gd.none Ym_tC63 rfl ?_
      refine o_loadA [(AV.lit (.int .i64 (m.regs))), (AV.sl 4 (gcells cI (m.code)))] Gd.none Ym_tA24 rfl rfl rfl rfl rfl ?_
      refine o_mv (nm .i64 (i)) rfl ?_
      refine o_ct (c_vOwn m (((i : Nat) : Int)) (by omega) (by omega) (by omega) (by omega)) Gd.none Ym_tC64 rfl ?_
      refine o_ct (c_vFrac (twnP m ((((m.code).getD (i) default)).els)) (ownP m (((i : Nat) : Int))) (by omega) (by omega)) Gd.none Ym_tC62 rfl ?_
      refine o_buildSlice 102 (gcells cF ([(Frc.mk (txt ((twnP m ((((m.code).getD (i) default)).next) : Nat) : Int)) (txt (((ownP m (((i : Nat) : Int))) * (P30.getD ((((m.code).getD (i) default)).reg).toNat 0) : Nat) : Int))), (Frc.mk (txt ((twnP m ((((m.code).getD (i) default)).els) : Nat) : Int)) (txt ((ownP m (((i : Nat) : Int)) : Nat) : Int)))])) [(0, [(AV.lit (.string (txt ((twnP m ((((m.code).getD (i) default)).next) : Nat) : Int)))), (AV.lit (.string (txt (((ownP m (((i : Nat) : Int))) * (P30.getD ((((m.code).getD (i) default)).reg).toNat 0) : Nat) : Int))))]), (1, [(AV.lit (.string (txt ((twnP m ((((m.code).getD (i) default)).els) : Nat) : Int)))), (AV.lit (.string (txt ((ownP m (((i : Nat) : Int)) : Nat) : Int))))])] Gd.none Ym_tE26 rfl Ym_tO52 rfl rfl rfl rfl rfl rfl rfl ?_
      refine g_append cF 103 (cmp1 m i) ([(Frc.mk (txt ((twnP m ((((m.code).getD (i) default)).next) : Nat) : Int)) (txt (((ownP m (((i : Nat) : Int))) * (P30.getD ((((m.code).getD (i) default)).reg).toNat 0) : Nat) : Int))), (Frc.mk (txt ((twnP m ((((m.code).getD (i) default)).els) : Nat) : Int)) (txt ((ownP m (((i : Nat) : Int)) : Nat) : Int)))]) [(102, (AO.row 52 2 (gcells cF ([(Frc.mk (txt ((twnP m ((((m.code).getD (i) default)).next) : Nat) : Int)) (txt (((ownP m (((i : Nat) : Int))) * (P30.getD ((((m.code).getD (i) default)).reg).toNat 0) : Nat) : Int))), (Frc.mk (txt ((twnP m ((((m.code).getD (i) default)).els) : Nat) : Int)) (txt ((ownP m (((i : Nat) : Int)) : Nat) : Int)))])))), (101, (AO.var 88 [(AV.lit (.int .i64 ((((m.code).getD (i) default)).kind))), (AV.lit (.int .i64 ((((m.code).getD (i) default)).reg))), (AV.lit (.int .i64 ((((m.code).getD (i) default)).next))), (AV.lit (.int .i64 ((((m.code).getD (i) default)).els)))])), (2, (AO.var 24 [(AV.lit (.int .i64 (m.regs))), (AV.sl 4 (gcells cI (m.code)))]))] cF_len rfl Gd.none Ym_tE26 Ym_tO52 rfl rfl rfl rfl rfl (by simp only [List.length_append, List.length_cons, List.length_nil]; omega) (by simp only [List.length_append, List.length_cons, List.length_nil]; omega) rfl rfl ?_
      refine o_as (AV.row 103) rfl ?_
      refine aops_end ⟨by kernel_rfl, ?_⟩
      refine hK6 _ ?_
      refine awp_region rfl ?_
      refine o_mv (nm .i64 (i)) rfl ?_
      refine n_add (i) (1) Gd.none rfl rfl (by simp only [topOf]; omega) ?_
      refine o_as (nm .i64 ((i) + (1))) rfl ?_
      refine aops_end ?_
      refine ⟨_, _, ?lt, ⟨i + 1, (by omega), rfl, rfl⟩, ?wk⟩
      case lt => omega
      case wk => exact Wk.trans (Wk.sub (σ' := ⟨[(1, (AV.ref 2 (0))), (3, (AV.row 103)), (4, (nm .i64 ((i) + (1))))], [(2, (AO.var 24 [(AV.lit (.int .i64 (m.regs))), (AV.sl 4 (gcells cI (m.code)))])), (103, (AO.row 52 2 (gcells cF ((cmp1 m i) ++ ([(Frc.mk (txt ((twnP m ((((m.code).getD (i) default)).next) : Nat) : Int)) (txt (((ownP m (((i : Nat) : Int))) * (P30.getD ((((m.code).getD (i) default)).reg).toNat 0) : Nat) : Int))), (Frc.mk (txt ((twnP m ((((m.code).getD (i) default)).els) : Nat) : Int)) (txt ((ownP m (((i : Nat) : Int)) : Nat) : Int)))])))))]⟩) (And.intro rfl (And.intro rfl (And.intro rfl (trivial)))) (And.intro rfl (And.intro rfl (trivial)))) (Wk.trans (Wk.ren (id := 103) (id' := 50) rfl) (Wk.sub (And.intro rfl (And.intro (by first | rfl | (simp)) (And.intro (by first | rfl | exact congrArg (nm _) (by omega) | exact nm_int (by omega) | exact nm_int (by simp [IntKind.wrap, IntKind.bits, IntKind.signed]; omega)) (trivial)))) (And.intro rfl (And.intro (by first | rfl | exact row_ns (by simp) | (exact row_gs (by first | exact cmp1_a rfl (by omega) | exact cmp1_b rfl (by omega) | rfl | (rw [show i = m.code.length by omega]; rfl)))) (trivial)))))
  · refine awp_exit ?_
    refine hK2 _ ?_
    refine awp_seq fun K10 hK10 => ?_
    refine awp_seq fun K11 hK11 => ?_
    refine awp_region rfl ?_
    refine o_as (nm .i64 (0)) rfl ?_
    refine aops_end ?_
    refine hK11 _ ?_
    refine awp_block ?_
    refine awp_loopR (fun κ σ => ∃ (j : Nat), (j ≤ m.code.length + 1) ∧ (m.code.length + 1 - j) = κ ∧ σ = ⟨[(1, (AV.ref 2 (0))), (3, (AV.row 50)), (7, (nm .i64 (j)))], [(2, (AO.var 24 [(AV.lit (.int .i64 (m.regs))), (AV.sl 4 (gcells cI (m.code)))])), (50, (AO.row 52 2 (gcells cF (cmp2 m j))))]⟩) ⟨_, _, ⟨0, (by omega), rfl, rfl⟩, ?wk1⟩ ?rd1
    case wk1 =>
      exact Wk.sub (And.intro rfl (And.intro rfl (And.intro (by first | rfl | exact congrArg (nm _) (by omega) | exact nm_int (by omega) | exact nm_int (by simp [IntKind.wrap, IntKind.bits, IntKind.signed]; omega)) (trivial)))) (And.intro rfl (And.intro (by first | rfl | exact row_ns (by simp) | (exact row_gs (by first | exact cmp1_a rfl (by omega) | exact cmp1_b rfl (by omega) | rfl | (rw [show i = m.code.length by omega]; rfl)))) (trivial)))
    rintro κ _ ⟨j, hj, rfl, rfl⟩
    have hle := cmp2_len m j
    refine awp_seq fun K12 hK12 => ?_
    refine awp_seq fun K13 hK13 => ?_
    refine awp_region rfl ?_
    refine o_mv (nm .i64 (j)) rfl ?_
    refine o_fieldRef 1 Gd.none Ym_tF24_1 rfl rfl ?_
    refine o_loadS (AV.sl 4 (gcells cI (m.code))) Gd.none Ym_tS22 rfl rfl rfl ?_
    refine g_len cI (m.code) cI_len Gd.none Ym_tU22 rfl ?_
    refine n_leq (j) ((m.code).length) Gd.none rfl rfl ?_
    refine aops_end ?_
    refine hK13 _ ?_
    refine awp_condQ (q := (j) ≤ ((m.code).length)) rfl (fun h3 => ?_) (fun h3 => ?_)
    · have b7 := ownP_bd m ((j : Nat) : Int)
      have b8 := twnP_bd m ((j : Nat) : Int)
      refine awp_skip ?_
      refine hK12 _ ?_
      refine awp_seq fun K14 hK14 => ?_
      refine awp_block ?_
      refine awp_regionD rfl ?_
      refine o_mv (AV.row 50) rfl ?_
      refine o_loadA [(AV.lit (.int .i64 (m.regs))), (AV.sl 4 (gcells cI (m.code)))] Gd.none Ym_tA24 rfl rfl rfl rfl rfl ?_
      refine o_mv (nm .i64 (j)) rfl ?_
      refine o_ct (c_vOwn m (((j : Nat) : Int)) (by omega) (by omega) (by omega) (by omega)) Gd.none Ym_tC64 rfl ?_
      refine o_loadA [(AV.lit (.int .i64 (m.regs))), (AV.sl 4 (gcells cI (m.code)))] Gd.none Ym_tA24 rfl rfl rfl rfl rfl ?_
      refine o_mv (nm .i64 (j)) rfl ?_
      refine o_ct (c_vCopy m (((j : Nat) : Int)) (by omega) (by omega) (by omega) (by omega)) Gd.none Ym_tC63 rfl ?_
      refine o_ct (c_vFrac (ownP m (((j : Nat) : Int))) (twnP m (((j : Nat) : Int))) (by omega) (by omega)) Gd.none Ym_tC62 rfl ?_
      refine o_buildSlice 201 (gcells cF ([(Frc.mk (txt ((ownP m (((j : Nat) : Int)) : Nat) : Int)) (txt ((twnP m (((j : Nat) : Int)) : Nat) : Int)))])) [(0, [(AV.lit (.string (txt ((ownP m (((j : Nat) : Int)) : Nat) : Int)))), (AV.lit (.string (txt ((twnP m (((j : Nat) : Int)) : Nat) : Int))))])] Gd.none Ym_tE26 rfl Ym_tO52 rfl rfl rfl rfl rfl rfl rfl ?_
      refine g_append cF 202 (cmp2 m j) ([(Frc.mk (txt ((ownP m (((j : Nat) : Int)) : Nat) : Int)) (txt ((twnP m (((j : Nat) : Int)) : Nat) : Int)))]) [(201, (AO.row 52 2 (gcells cF ([(Frc.mk (txt ((ownP m (((j : Nat) : Int)) : Nat) : Int)) (txt ((twnP m (((j : Nat) : Int)) : Nat) : Int)))])))), (2, (AO.var 24 [(AV.lit (.int .i64 (m.regs))), (AV.sl 4 (gcells cI (m.code)))]))] cF_len rfl Gd.none Ym_tE26 Ym_tO52 rfl rfl rfl rfl rfl (by simp only [List.length_append, List.length_cons, List.length_nil]; omega) (by simp only [List.length_append, List.length_cons, List.length_nil]; omega) rfl rfl ?_
      refine o_as (AV.row 202) rfl ?_
      refine aops_end ⟨by kernel_rfl, ?_⟩
      refine hK14 _ ?_
      refine awp_region rfl ?_
      refine o_mv (nm .i64 (j)) rfl ?_
      refine n_add (j) (1) Gd.none rfl rfl (by simp only [topOf]; omega) ?_
      refine o_as (nm .i64 ((j) + (1))) rfl ?_
      refine aops_end ?_
      refine ⟨_, _, ?lt, ⟨j + 1, (by omega), rfl, rfl⟩, ?wk⟩
      case lt => omega
      case wk => exact Wk.trans (Wk.sub (σ' := ⟨[(1, (AV.ref 2 (0))), (3, (AV.row 202)), (7, (nm .i64 ((j) + (1))))], [(2, (AO.var 24 [(AV.lit (.int .i64 (m.regs))), (AV.sl 4 (gcells cI (m.code)))])), (202, (AO.row 52 2 (gcells cF ((cmp2 m j) ++ ([(Frc.mk (txt ((ownP m (((j : Nat) : Int)) : Nat) : Int)) (txt ((twnP m (((j : Nat) : Int)) : Nat) : Int)))])))))]⟩) (And.intro rfl (And.intro rfl (And.intro rfl (trivial)))) (And.intro rfl (And.intro rfl (trivial)))) (Wk.trans (Wk.ren (id := 202) (id' := 50) rfl) (Wk.sub (And.intro rfl (And.intro (by first | rfl | (simp)) (And.intro (by first | rfl | exact congrArg (nm _) (by omega) | exact nm_int (by omega) | exact nm_int (by simp [IntKind.wrap, IntKind.bits, IntKind.signed]; omega)) (trivial)))) (And.intro rfl (And.intro (by first | rfl | exact row_ns (by simp) | (exact row_gs (by first | exact cmp1_a rfl (by omega) | exact cmp1_b rfl (by omega) | rfl | (rw [show i = m.code.length by omega]; rfl)))) (trivial)))))
    · refine awp_exit ?_
      refine hK10 _ ?_
      refine awp_seq fun K15 hK15 => ?_
      refine awp_region rfl ?_
      refine o_mv (AV.row 50) rfl ?_
      refine o_as (AV.row 50) rfl ?_
      refine aops_end ?_
      refine hK15 _ ?_
      refine awp_wk (σ' := ⟨[(2, (AV.row 50))], [(50, (AO.row 52 2 (gcells cF (cmp2 m j))))]⟩) (Wk.sub (And.intro rfl (trivial)) (And.intro rfl (trivial))) ?_
      refine awp_wk (σ' := ⟨[(2, (AV.sl 2 (gcells cF (cmp2 m j))))], []⟩) (Wk.freeze (id := 50) (e := 52) (sz := 2) (cs := (gcells cF (cmp2 m j))) rfl) ?_
      refine awp_ret ?_
      refine post_ret ⟨[(AV.sl 2 (gcells cF (cmp2 m j)))], And.intro (AV.le_refl _) (trivial), rfl, ?_⟩
      rw [show m.code.length + 1 = j by omega]; rfl

end Go.Proofs.YtnejjdcbbminaaaGreatDoor

set_option linter.unusedVariables false
set_option linter.unusedSimpArgs false
namespace Go.Proofs.YtnejjdcbbminaaaGreatDoor
open Go Go.Ab Go.Mth
theorem Yn_tA24 : tyAgg cx.P 24 = some 2 := by kernel_rfl
theorem Yn_tC12 : callable cx.P 12 = true := by kernel_rfl
theorem Yn_tO24 : tyZero cx.P 24 = some [(Go.Value.int IntKind.i64 0), (Go.Value.slice none 0 0)] := by kernel_rfl
theorem Yn_tZ24 : tySize cx.P 24 = some 2 := by kernel_rfl
theorem Yn_tC13 : callable cx.P 13 = true := by kernel_rfl
theorem Yn_tC14 : callable cx.P 14 = true := by kernel_rfl
theorem Yn_tU26 : cx.P.underlying 26 = some (.slice 52) := by kernel_rfl
theorem Yn_tC15 : callable cx.P 15 = true := by kernel_rfl
theorem Yn_tC16 : callable cx.P 16 = true := by kernel_rfl
theorem Yn_tC18 : callable cx.P 18 = true := by kernel_rfl
theorem Yn_tC17 : callable cx.P 17 = true := by kernel_rfl
theorem Yn_tC19 : callable cx.P 19 = true := by kernel_rfl
theorem c_FractionCompiles (m : Mac) (hb : m.code.length ≤ 4398046511104) : ECalls cx 3 [(macV m)] (.lit (.bool true)) := by
  refine ecalls_of_awp Tryz.func3 (c := _) rfl (Nat.le_of_ble_eq_true rfl) ?_
  show awp cx 51 _ (postF cx Tryz.f3 _) ⟨[(0, (macV m))], []⟩
  have hS := cmpR_sz m
  have hlc := cmpR_len m
  refine awp_seq fun K0 hK0 => ?_
  refine awp_region rfl ?_
  refine o_box 2 [(AV.lit (.int .i64 (m.regs))), (AV.sl 4 (gcells cI (m.code)))] Gd.none rfl rfl ?_
  refine o_as (AV.lit (.bool false)) rfl ?_
  refine aops_end ?_
  refine hK0 _ ?_
  refine awp_seq fun K1 hK1 => ?_
  refine awp_region rfl ?_
  refine o_loadA [(AV.lit (.int .i64 (m.regs))), (AV.sl 4 (gcells cI (m.code)))] Gd.none Yn_tA24 rfl rfl rfl rfl rfl ?_
  refine o_ct (c_vTwinMac m (by first | assumption | omega | decide)) Gd.none Yn_tC12 rfl ?_
  refine o_alloc 3 [(nm .i64 (0)), (AV.lit (.slice none 0 0))] Gd.none Yn_tO24 rfl rfl rfl ?_
  refine o_store [(3, (AO.var 24 [(AV.lit (.int .i64 (m.regs))), (AV.sl 4 (gcells cI (m.code)))])), (2, (AO.var 24 [(AV.lit (.int .i64 (m.regs))), (AV.sl 4 (gcells cI (m.code)))]))] Gd.none Yn_tZ24 rfl rfl rfl rfl rfl rfl ?_
  refine aops_end ?_
  refine hK1 _ ?_
  refine awp_seq fun K2 hK2 => ?_
  refine awp_region rfl ?_
  refine o_loadA [(AV.lit (.int .i64 (m.regs))), (AV.sl 4 (gcells cI (m.code)))] Gd.none Yn_tA24 rfl rfl rfl rfl rfl ?_
  refine o_ct (c_Compile m) Gd.none Yn_tC13 rfl ?_
  refine o_mv (AV.tup [(AV.sl 2 (gcells cF (cmpR m))), (nm .i64 (cmpE m))]) rfl ?_
  refine o_extract (AV.sl 2 (gcells cF (cmpR m))) Gd.none rfl rfl ?_
  refine o_extract (nm .i64 (cmpE m)) Gd.none rfl rfl ?_
  refine o_as (AV.sl 2 (gcells cF (cmpR m))) rfl ?_
  refine o_as (nm .i64 (cmpE m)) rfl ?_
  refine aops_end ?_
  refine hK2 _ ?_
  refine awp_seq fun K3 hK3 => ?_
  refine awp_seq fun K4 hK4 => ?_
  refine awp_region rfl ?_
  refine o_loadA [(AV.lit (.int .i64 (m.regs))), (AV.sl 4 (gcells cI (m.code)))] Gd.none Yn_tA24 rfl rfl rfl rfl rfl ?_
  refine o_ct (c_vValid m) Gd.none Yn_tC14 rfl ?_
  refine o_notP (q := okMac m) Gd.none rfl ?_
  refine aops_end ?_
  refine hK4 _ ?_
  refine awp_condQ (q := ¬ (okMac m)) rfl (fun h1 => ?_) (fun h1 => ?_)
  · refine awp_seq fun K5 hK5 => ?_
    refine awp_region rfl ?_
    refine o_mv (nm .i64 (cmpE m)) rfl ?_
    refine n_eql (cmpE m) (1) Gd.none rfl rfl ?_
    refine n_as (v' := (AV.lit (.bool true))) (by exact bpy (if_neg (by assumption))) ?_
    refine o_mv (AV.lit (.bool true)) rfl ?_
    refine o_move (AV.sl 2 (gcells cF (cmpR m))) (Gd.yes rfl rfl rfl) rfl ?_
    refine g_len cF (cmpR m) cF_len (Gd.yes rfl rfl rfl) Yn_tU26 rfl ?_
    refine n_eql ((cmpR m).length) (0) (Gd.yes rfl rfl rfl) rfl rfl ?_
    refine n_as (v' := (AV.lit (.bool true))) (by exact bpy (by rw [cmpR, if_neg (by assumption)]; rfl)) ?_
    refine o_pickT (AV.lit (.bool true)) Gd.none rfl rfl rfl ?_
    refine o_mv (AV.lit (.bool true)) rfl ?_
    refine o_loadA [(AV.lit (.int .i64 (m.regs))), (AV.sl 4 (gcells cI (m.code)))] (Gd.yes rfl rfl rfl) Yn_tA24 rfl rfl rfl rfl rfl ?_
    refine o_loadA [(AV.lit (.int .i64 (m.regs))), (AV.sl 4 (gcells cI (m.code)))] (Gd.yes rfl rfl rfl) Yn_tA24 rfl rfl rfl rfl rfl ?_
    refine o_ct (c_vSameMac m (by first | assumption | omega | decide)) (Gd.yes rfl rfl rfl) Yn_tC15 rfl ?_
    refine o_pickT (AV.lit (.bool true)) Gd.none rfl rfl rfl ?_
    refine o_mv (AV.lit (.bool true)) rfl ?_
    refine o_ct c_awake10 (Gd.yes rfl rfl rfl) Yn_tC16 rfl ?_
    refine o_pickT (AV.lit (.bool true)) Gd.none rfl rfl rfl ?_
    refine o_as (AV.lit (.bool true)) rfl ?_
    refine aops_end ?_
    refine hK5 _ ?_
    refine awp_ret ?_
    refine post_ret ⟨[(AV.lit (.bool true))], And.intro (AV.le_refl _) (trivial), rfl, ?_⟩
    first | rfl | simp [bp]
  · have hM := Decidable.not_not.1 h1
    have hcl : (cmp2 m (m.code.length + 1)).length ≤ 4398046511104 := by have := cmp2_len m (m.code.length + 1); have := hM.2.2.2.1; omega
    have eR : cmpR m = cmp2 m (m.code.length + 1) := if_pos hM
    have hS2 := hS
    rw [eR] at hS2
    refine awp_skip ?_
    refine hK3 _ ?_
    refine awp_seq fun K6 hK6 => ?_
    refine awp_region rfl ?_
    refine o_mv (nm .i64 (cmpE m)) rfl ?_
    refine n_eql (cmpE m) (0) Gd.none rfl rfl ?_
    refine n_as (v' := (AV.lit (.bool true))) (by exact bpy (if_pos hM)) ?_
    refine o_mv (AV.lit (.bool true)) rfl ?_
    refine o_move (AV.sl 2 (gcells cF (cmpR m))) (Gd.yes rfl rfl rfl) rfl ?_
    refine n_as (v' := (AV.sl 2 (gcells cF (cmp2 m (m.code.length + 1))))) (by rw [eR]) ?_
    refine o_loadA [(AV.lit (.int .i64 (m.regs))), (AV.sl 4 (gcells cI (m.code)))] (Gd.yes rfl rfl rfl) Yn_tA24 rfl rfl rfl rfl rfl ?_
    refine o_ct (c_vCompile m (by assumption)) (Gd.yes rfl rfl rfl) Yn_tC18 rfl ?_
    refine o_ct (c_vSameList (cmp2 m (m.code.length + 1)) (by first | assumption | omega | decide)) (Gd.yes rfl rfl rfl) Yn_tC17 rfl ?_
    refine o_pickT (AV.lit (.bool true)) Gd.none rfl rfl rfl ?_
    refine o_mv (AV.lit (.bool true)) rfl ?_
    refine o_move (AV.sl 2 (gcells cF (cmpR m))) (Gd.yes rfl rfl rfl) rfl ?_
    refine n_as (v' := (AV.sl 2 (gcells cF (cmp2 m (m.code.length + 1))))) (by rw [eR]) ?_
    refine o_ct (c_vList (cmp2 m (m.code.length + 1)) (by first | assumption | omega) (by assumption)) (Gd.yes rfl rfl rfl) Yn_tC19 rfl ?_
    refine n_as (v' := (AV.lit (.bool true))) (by exact bpy (by rw [← eR]; exact cmpR_lst m)) ?_
    refine o_pickT (AV.lit (.bool true)) Gd.none rfl rfl rfl ?_
    refine o_mv (AV.lit (.bool true)) rfl ?_
    refine o_loadA [(AV.lit (.int .i64 (m.regs))), (AV.sl 4 (gcells cI (m.code)))] (Gd.yes rfl rfl rfl) Yn_tA24 rfl rfl rfl rfl rfl ?_
    refine o_loadA [(AV.lit (.int .i64 (m.regs))), (AV.sl 4 (gcells cI (m.code)))] (Gd.yes rfl rfl rfl) Yn_tA24 rfl rfl rfl rfl rfl ?_
    refine o_ct (c_vSameMac m (by first | assumption | omega | decide)) (Gd.yes rfl rfl rfl) Yn_tC15 rfl ?_
    refine o_pickT (AV.lit (.bool true)) Gd.none rfl rfl rfl ?_
    refine o_mv (AV.lit (.bool true)) rfl ?_
    refine o_ct c_awake10 (Gd.yes rfl rfl rfl) Yn_tC16 rfl ?_
    refine o_pickT (AV.lit (.bool true)) Gd.none rfl rfl rfl ?_
    refine o_as (AV.lit (.bool true)) rfl ?_
    refine aops_end ?_
    refine hK6 _ ?_
    refine awp_ret ?_
    refine post_ret ⟨[(AV.lit (.bool true))], And.intro (AV.le_refl _) (trivial), rfl, ?_⟩
    first | rfl | simp [bp]

end Go.Proofs.YtnejjdcbbminaaaGreatDoor

set_option linter.unusedVariables false
namespace Go.Proofs.YtnejjdcbbminaaaGreatDoor.fractionCompiles
open Go Go.Ab Go.Mth Go.ChangeShapes Go.WideShapes Go.ChangeAt Go.RowKit
theorem reads (os : Os) {H : Type} (enc : TypeId × Value → H) : ∃ places, DataW.whole enc Tryz.prog ((World.laidAll Tryz.prog os laid5).forCall (fun _ _ => 0) ⟨#[], #[.agg #[.int .i64 0, .slice none 0 0]], []⟩).memory Tryz.f3.params.toList Rows.fractionCompilesSpec.vars false (#[.agg #[.int .i64 0, .slice none 0 0]] : Array Value).toList 8 = some ([.agg [.lit (.int .i64 0), .nil]], [], places) := ⟨[], by kernel_rfl⟩
theorem met (os : Os) : laidMetH Tryz.prog laid5 ((World.laidAll Tryz.prog os laid5).forCall (fun _ _ => 0) ⟨#[], #[.agg #[.int .i64 0, .slice none 0 0]], []⟩).memory := (MakeChecks.laidMetH_plain _ _ _ (by kernel_rfl)).mpr (laidMet_laidAll _ (by kernel_rfl) (by kernel_rfl))
theorem specs {H : Type} (ds : List (DataW H)) (h : ds.length = 1) : (Rows.fractionCompilesSpec.fn H ds).results = [.lit (.bool true)] ∧ (Rows.fractionCompilesSpec.fn H ds).args = ds ∧ (Rows.fractionCompilesSpec.fn H ds).vars = [] := by
  rcases ds with _ | ⟨d0, _ | ⟨e, t⟩⟩ <;> simp at h <;> exact ⟨rfl, rfl, rfl⟩
set_option maxRecDepth 100000 in
theorem opened {H : Type} (enc : TypeId × Value → H) (W : World) (base : Nat) (args : Array Value) (ds : List (DataW H)) (ps : List MemPlace) (hval : ∀ (j : Nat) t v, (#[24] : Array TypeId)[j]? = some t → args[j]? = some v → Value.okWide Tryz.prog W .any base t v)
    (hA : DataW.TrodAll enc Tryz.prog W 0 (fun _ => true) true [24] args.toList ds ps) (hsz : (DataW.weightsEach Tryz.prog [24] ds).all (· ≤ reachBytes) = true) : ∃ xs, RepL (memOf W) xs noLoc args.toList ∧ ECalls cx 3 xs (.lit (.bool true)) := by
  obtain ⟨v0, vs0, d0, ds0, p0, q0, hargs, rfl, rfl, h0, r0⟩ := trodAll_cons hA
  obtain ⟨rfl, rfl, rfl⟩ := trodAll_nil r0
  obtain rfl : args = #[v0] := by cases args; simp_all
  obtain ⟨m0, e0, bq0⟩ := rep_mac (hval 0 24 v0 rfl rfl) h0 (fun n hn => by simpa using List.all_eq_true.1 hsz n (DataW.weights_mem_each (j := 0) rfl rfl n hn))
  exact ⟨[macV m0], RepL.cons e0 (by simp only [RepL]), c_FractionCompiles m0 bq0⟩
set_option maxRecDepth 100000 in
theorem lifted (os : Os) (started : os.Started) (H : Type) (enc : TypeId × Value → H) (F : Stop.Interp) :
    ReturnsInHanded {} Tryz.checked os 3 .any ((OpenSpec.ofChange Rows.fractionCompilesSpec).preRow enc Tryz.prog Tryz.f3 Rows.fractionCompilesRow.domain false Rows.fractionCompilesRow.laid) (((OpenSpec.ofChange Rows.fractionCompilesSpec).at F).post enc Tryz.prog Tryz.f3 false true false false) := by
  obtain ⟨places, hx⟩ := reads os enc
  refine lifted_of (C := Tryz.checked) started cx rfl ownT (by kernel_rfl) Tryz.func3 (witness_laid #[.agg #[.int .i64 0, .slice none 0 0]] (by kernel_rfl) (by kernel_rfl) (by kernel_rfl) (OpenSpec.preRow_of_cond 8 hx (by kernel_rfl) (fun k hk => by cases hk) (by kernel_rfl) (met os))) laidOutT (by kernel_rfl) (tb := 4) (by kernel_rfl) u4T rfl (fun ds h => specs ds (h.trans (by kernel_rfl))) (fun W h => tabG_of h) ?_
  intro W base args ds ps hval hA hsz
  exact opened enc W base args ds ps hval hA hsz
theorem said : Rows.FractionCompilesSaid :=
  OpenClaim.holds_of_cond 3 Tryz.f3 rfl rfl rfl rfl rfl rfl rfl ⟨rfl, rfl, rfl, rfl, rfl⟩ rfl rfl rfl rfl rfl (by kernel_rfl) Tryz.func3 (by kernel_rfl)
    (of_decide_eq_true (by kernel_rfl)) (by unfold Func.isWrapper; first | (rw [if_pos (by decide +kernel)]; kernel_rfl) | (rw [if_neg (by decide +kernel)]; exact ⟨rfl, rfl⟩))
    (fun os started H enc _ F => by rw [OpenClaim.pre_eq_preRow]; exact lifted os started H enc F)
theorem plain (f : FuncId) (fn : Func) (hf : Tryz.pinned.checked.prog.funcNamed "katabasis/katabasislaw10.FractionCompiles" = some f) (hfn : Tryz.pinned.checked.prog.funcs[f]? = some fn) :
    true = Tryz.pinned.checked.prog.looks [] ∧ ∀ (j : Nat) t, fn.params[j]? = some t → Tryz.pinned.checked.prog.wantsStandIn t = false := by
  obtain rfl : f = 3 := Option.some.inj ((show Tryz.prog.funcNamed "katabasis/katabasislaw10.FractionCompiles" = some 3 by kernel_rfl).symm.trans hf) |>.symm
  obtain rfl : fn = Tryz.f3 := (Option.some.inj (Tryz.func3.symm.trans hfn)).symm
  refine ⟨by kernel_rfl, fun j t ht => ?_⟩
  rw [Tryz.params3] at ht
  have : t = 24 := by have h := Array.mem_of_getElem? ht; simp at h; first | exact h | (rcases h with h | h | h | h <;> simp [h]) | (rcases h with h | h | h <;> simp [h]) | (rcases h with h | h <;> simp [h])
  subst this
  exact (show Tryz.prog.wantsStandIn 24 = false by kernel_rfl)
end Go.Proofs.YtnejjdcbbminaaaGreatDoor.fractionCompiles
namespace Go.Proofs.YtnejjdcbbminaaaGreatDoor
open Go
theorem fractionCompiles_holds : Rows.FractionCompilesCardSaid :=
  Claim7.holds_tied_plain_at .later [] _ _ _ _ fractionCompiles.said (fun _ h => by cases h) (by kernel_rfl) (fun _ h => by cases h) fractionCompiles_row_tie rfl ⟨rfl, rfl⟩ (by kernel_rfl) rfl fractionCompiles.plain (by kernel_rfl)
#print axioms fractionCompiles_holds
end Go.Proofs.YtnejjdcbbminaaaGreatDoor

