/- The law 'katabasistop.TopMachine' is true for every machine, configuration and two strings: two steps of the fractions are one step of the machine, the fractions stop exactly where the machine does, and numbers of the same rest have the same first fraction. Its condition: none but the row's own (the listed tables of the library). -/
import Derived.Test.YtpamhblonmpniaaGreatDoorPkTopMachinee
set_option linter.unusedVariables false
set_option linter.unusedSimpArgs false
namespace Go.Proofs.YtpamhblonmpniaaGreatDoor
open Go Go.Ab Go.Mth
theorem Zd_tF27_1 : tyField cx.P 27 1 = some (1, 25) := by kernel_rfl
theorem Zd_tS25 : tySc cx.P 25 = true := by kernel_rfl
theorem Zd_tU25 : cx.P.underlying 25 = some (.slice 3) := by kernel_rfl
theorem Zd_tE25 : tyElem cx.P 25 = some (3, 1, 8) := by kernel_rfl
theorem Zd_tS3 : tySc cx.P 3 = true := by kernel_rfl
theorem Zd_tP57 : tyPlaces cx.P 57 = some (fun i => (#[(0, 1), (1, 1), (2, 1), (3, 1)] : Array (Nat × Nat))[i]?) := by kernel_rfl
theorem Zd_tO57 : tyZero cx.P 57 = some [(Go.Value.int IntKind.i64 0), (Go.Value.int IntKind.i64 0), (Go.Value.int IntKind.i64 0), (Go.Value.int IntKind.i64 0)] := by kernel_rfl
theorem Zd_tE22 : tyElem cx.P 22 = some (57, 4, 32) := by kernel_rfl
theorem Zd_tP24 : tyPlaces cx.P 24 = some (fun i => (#[(0, 1), (1, 1)] : Array (Nat × Nat))[i]?) := by kernel_rfl
theorem Zd_tO24 : tyZero cx.P 24 = some [(Go.Value.int IntKind.i64 0), (Go.Value.slice none 0 0)] := by kernel_rfl
theorem Zd_tC8 : callable cx.P 8 = true := by kernel_rfl
theorem Zd_tC13 : callable cx.P 13 = true := by kernel_rfl
theorem Zd_tU34 : cx.P.underlying 34 = some (.slice 59) := by kernel_rfl
theorem Zd_tE34 : tyElem cx.P 34 = some (59, 2, 32) := by kernel_rfl
theorem Zd_tA59 : tyAgg cx.P 59 = some 2 := by kernel_rfl
theorem Zd_tP59 : tyPlaces cx.P 59 = some (fun i => (#[(0, 1), (1, 1)] : Array (Nat × Nat))[i]?) := by kernel_rfl
theorem Zd_tO59 : tyZero cx.P 59 = some [(Go.Value.string {data := #[]}), (Go.Value.string {data := #[]})] := by kernel_rfl
theorem Zd_tF24_1 : tyField cx.P 24 1 = some (1, 22) := by kernel_rfl
theorem Zd_tS22 : tySc cx.P 22 = true := by kernel_rfl
theorem Zd_tU22 : cx.P.underlying 22 = some (.slice 57) := by kernel_rfl
theorem Zd_tF24_0 : tyField cx.P 24 0 = some (0, 3) := by kernel_rfl
theorem Zd_tF27_0 : tyField cx.P 27 0 = some (0, 3) := by kernel_rfl
theorem Zd_tA57 : tyAgg cx.P 57 = some 4 := by kernel_rfl
theorem Zd_tZ57 : tySize cx.P 57 = some 4 := by kernel_rfl
theorem Zd_tF57_0 : tyField cx.P 57 0 = some (0, 3) := by kernel_rfl
theorem Zd_tF57_1 : tyField cx.P 57 1 = some (1, 3) := by kernel_rfl
theorem Zd_tF57_2 : tyField cx.P 57 2 = some (2, 3) := by kernel_rfl
theorem Zd_tF57_3 : tyField cx.P 57 3 = some (3, 3) := by kernel_rfl
theorem Zd_tO27 : tyZero cx.P 27 = some [(Go.Value.int IntKind.i64 0), (Go.Value.slice none 0 0)] := by kernel_rfl
theorem Zd_tA27 : tyAgg cx.P 27 = some 2 := by kernel_rfl
theorem Zd_tZ27 : tySize cx.P 27 = some 2 := by kernel_rfl
theorem Zd_tO3 : tyZero cx.P 3 = some [(Go.Value.int IntKind.i64 0)] := by kernel_rfl
theorem Zd_tP27 : tyPlaces cx.P 27 = some (fun i => (#[(0, 1), (1, 1)] : Array (Nat × Nat))[i]?) := by kernel_rfl
theorem Zd_tZ3 : tySize cx.P 3 = some 1 := by kernel_rfl
theorem Zd_tO41 : tyZero cx.P 41 = some [(Go.Value.bool false), (Go.Value.slice none 0 0)] := by kernel_rfl
theorem Zd_tC30 : callable cx.P 30 = true := by kernel_rfl
theorem Zd_tZ41 : tySize cx.P 41 = some 2 := by kernel_rfl
theorem Zd_tA41 : tyAgg cx.P 41 = some 2 := by kernel_rfl
theorem Zd_tC31 : callable cx.P 31 = true := by kernel_rfl
theorem Zd_tC20 : callable cx.P 20 = true := by kernel_rfl
theorem c_tModest (m : Mac) (c : Cfg) (hC : okCfg m c) : ECalls cx 6 [(cfgV c)] (bp (sumR c.regs c.regs.length ≤ 200)) := by
  refine ecalls_of_awp Tryz.func6 (c := _) rfl (Nat.le_of_ble_eq_true rfl) ?_
  show awp cx 21 _ (postF cx Tryz.f6 _) ⟨[(0, (cfgV c))], []⟩
  have hC2 := hC
  obtain ⟨⟨o1, o2, o3, o4, o5⟩, q1, q2, q3⟩ := hC2
  unfold plc at q1
  refine awp_seq fun K0 hK0 => ?_
  refine awp_region rfl ?_
  refine o_box 2 [(AV.lit (.int .i64 (c.at'))), (AV.sl 1 (is .i64 (c.regs)))] Gd.none rfl rfl ?_
  refine o_as (AV.lit (.bool false)) rfl ?_
  refine aops_end ?_
  refine hK0 _ ?_
  refine awp_seq fun K1 hK1 => ?_
  refine awp_region rfl ?_
  refine o_as (nm .i64 (0)) rfl ?_
  refine aops_end ?_
  refine hK1 _ ?_
  refine awp_seq fun K2 hK2 => ?_
  refine awp_seq fun K3 hK3 => ?_
  refine awp_region rfl ?_
  refine o_as (nm .i64 (0)) rfl ?_
  refine aops_end ?_
  refine hK3 _ ?_
  refine awp_block ?_
  refine awp_loopR (fun κ σ => ∃ (i : Nat), (i ≤ c.regs.length) ∧ (0 ≤ sumR c.regs i) ∧ (sumR c.regs i ≤ 1000 * ((i : Nat) : Int)) ∧ (c.regs.length - i) = κ ∧ σ = ⟨[(1, (AV.ref 2 (0))), (3, (AV.lit (.int .i64 (sumR c.regs i)))), (4, (nm .i64 (i)))], [(2, (AO.var 27 [(AV.lit (.int .i64 (c.at'))), (AV.sl 1 (is .i64 (c.regs)))]))]⟩) ⟨_, _, ⟨0, (by omega), (Int.le_refl _), (Int.le_refl _), rfl, rfl⟩, ?wk0⟩ ?rd0
  case wk0 =>
    exact Wk.sub (And.intro rfl (And.intro (by first | rfl | exact int_eq (by omega) | exact int_nm (by omega)) (And.intro (by first | rfl | exact congrArg (nm _) (by omega) | exact nm_int (by omega) | exact nm_int (by simp [IntKind.wrap, IntKind.bits, IntKind.signed]; omega)) (trivial)))) (And.intro rfl (trivial))
  rintro κ _ ⟨i, hi, hs0, hs1, rfl, rfl⟩
  refine awp_seq fun K4 hK4 => ?_
  refine awp_seq fun K5 hK5 => ?_
  refine awp_region rfl ?_
  refine o_mv (nm .i64 (i)) rfl ?_
  refine o_fieldRef 1 Gd.none Zd_tF27_1 rfl rfl ?_
  refine o_loadS (AV.sl 1 (is .i64 (c.regs))) Gd.none Zd_tS25 rfl rfl rfl ?_
  refine i_len (c.regs) Gd.none Zd_tU25 rfl ?_
  refine n_lss (i) ((c.regs).length) Gd.none rfl rfl ?_
  refine aops_end ?_
  refine hK5 _ ?_
  refine awp_condQ (q := (i) < ((c.regs).length)) rfl (fun h1 => ?_) (fun h1 => ?_)
  · have hr := q3 _ (gdm (d := 0) h1)
    unfold regP at hr
    refine awp_skip ?_
    refine hK4 _ ?_
    refine awp_seq fun K6 hK6 => ?_
    refine awp_block ?_
    refine awp_region rfl ?_
    refine o_mv (AV.lit (.int .i64 (sumR c.regs i))) rfl ?_
    refine o_fieldRef 1 Gd.none Zd_tF27_1 rfl rfl ?_
    refine o_loadS (AV.sl 1 (is .i64 (c.regs))) Gd.none Zd_tS25 rfl rfl rfl ?_
    refine o_mv (nm .i64 (i)) rfl ?_
    refine i_index (c.regs) (i) Gd.none Zd_tE25 rfl rfl (by omega) ?_
    refine i_loadI (c.regs) (i) Gd.none Zd_tS3 rfl (by omega) ?_
    refine o_add (a := (sumR c.regs i)) (c := ((c.regs).getD (i) 0)) Gd.none rfl rfl (by exact wrap64 (by omega) (by omega)) ?_
    refine o_as (AV.lit (.int .i64 ((sumR c.regs i) + ((c.regs).getD (i) 0)))) rfl ?_
    refine aops_end ?_
    refine hK6 _ ?_
    refine awp_region rfl ?_
    refine o_mv (nm .i64 (i)) rfl ?_
    refine n_add (i) (1) Gd.none rfl rfl (by simp only [topOf]; omega) ?_
    refine o_as (nm .i64 ((i) + (1))) rfl ?_
    refine aops_end ?_
    refine ⟨_, _, ?lt, ⟨i + 1, (by omega), (by show 0 ≤ sumR c.regs i + (c.regs).getD i 0; omega), (by show sumR c.regs i + (c.regs).getD i 0 ≤ 1000 * ((i + 1 : Nat) : Int); omega), rfl, rfl⟩, ?wk⟩
    case lt => omega
    case wk => exact Wk.sub (And.intro rfl (And.intro (by first | rfl | exact int_eq (by omega) | exact int_nm (by omega)) (And.intro (by first | rfl | exact congrArg (nm _) (by omega) | exact nm_int (by omega) | exact nm_int (by simp [IntKind.wrap, IntKind.bits, IntKind.signed]; omega)) (trivial)))) (And.intro rfl (trivial))
  · refine awp_exit ?_
    refine hK2 _ ?_
    refine awp_seq fun K7 hK7 => ?_
    refine awp_region rfl ?_
    refine o_mv (AV.lit (.int .i64 (sumR c.regs i))) rfl ?_
    refine o_leq (a := (sumR c.regs i)) (c := (((200 : Nat) : Int))) Gd.none rfl rfl ?_
    refine o_as (bp ((sumR c.regs i) ≤ (((200 : Nat) : Int)))) rfl ?_
    refine aops_end ?_
    refine hK7 _ ?_
    refine awp_ret ?_
    refine post_ret ⟨[(bp ((sumR c.regs i) ≤ (((200 : Nat) : Int))))], And.intro (AV.le_refl _) (trivial), rfl, ?_⟩
    rw [show c.regs.length = i by omega]; rfl

theorem c_tPlays  : ECalls cx 7 [] (.lit (.bool true)) := by
  refine ecalls_of_awp Tryz.func7 (c := _) rfl (Nat.le_of_ble_eq_true rfl) ?_
  show awp cx 46 _ (postF cx Tryz.f7 _) ⟨[], []⟩
  refine awp_seq fun K0 hK0 => ?_
  refine awp_region rfl ?_
  refine o_as (AV.lit (.bool false)) rfl ?_
  refine aops_end ?_
  refine hK0 _ ?_
  refine awp_seq fun K1 hK1 => ?_
  refine awp_region rfl ?_
  refine o_build [(nm .i64 (1)), (nm .i64 (0)), (nm .i64 (1)), (nm .i64 (2))] [(0, [(nm .i64 (1))]), (2, [(nm .i64 (1))]), (3, [(nm .i64 (2))])] Gd.none Zd_tP57 Zd_tO57 rfl rfl rfl ?_
  refine o_build [(nm .i64 (0)), (nm .i64 (1)), (nm .i64 (0)), (nm .i64 (0))] [(0, [(nm .i64 (0))]), (1, [(nm .i64 (1))])] Gd.none Zd_tP57 Zd_tO57 rfl rfl rfl ?_
  refine o_buildSlice 2 (gcells cI ([(Ins.mk (((1 : Nat) : Int)) (((0 : Nat) : Int)) (((1 : Nat) : Int)) (((2 : Nat) : Int))), (Ins.mk (((0 : Nat) : Int)) (((1 : Nat) : Int)) (((0 : Nat) : Int)) (((0 : Nat) : Int)))])) [(0, [(nm .i64 (1)), (nm .i64 (0)), (nm .i64 (1)), (nm .i64 (2))]), (1, [(nm .i64 (0)), (nm .i64 (1)), (nm .i64 (0)), (nm .i64 (0))])] Gd.none Zd_tE22 rfl Zd_tO57 rfl rfl rfl rfl rfl rfl rfl ?_
  refine o_build [(nm .i64 (2)), (AV.row 2)] [(0, [(nm .i64 (2))]), (1, [(AV.row 2)])] Gd.none Zd_tP24 Zd_tO24 rfl rfl rfl ?_
  refine o_callG [(2, 4, (gcells cI ([(Ins.mk (((1 : Nat) : Int)) (((0 : Nat) : Int)) (((1 : Nat) : Int)) (((2 : Nat) : Int))), (Ins.mk (((0 : Nat) : Int)) (((1 : Nat) : Int)) (((0 : Nat) : Int)) (((0 : Nat) : Int)))])))] [(AV.agg [(nm .i64 (2)), (AV.sl 4 (gcells cI ([(Ins.mk (((1 : Nat) : Int)) (((0 : Nat) : Int)) (((1 : Nat) : Int)) (((2 : Nat) : Int))), (Ins.mk (((0 : Nat) : Int)) (((1 : Nat) : Int)) (((0 : Nat) : Int)) (((0 : Nat) : Int)))])))])] _ (AV.tup [(AV.sl 2 (gcells cF (cmpR adM))), (nm .i64 (cmpE adM))]) [] Gd.none Zd_tC8 rfl (And.intro ⟨_, rfl⟩ (trivial)) rfl rfl (LeL.cons (AV.le_refl _) (LeL.nil)) (c_Compile adM) rfl ?_
  refine o_mv (AV.tup [(AV.sl 2 (gcells cF (cmpR adM))), (nm .i64 (cmpE adM))]) rfl ?_
  refine o_extract (AV.sl 2 (gcells cF (cmpR adM))) Gd.none rfl rfl ?_
  refine n_as (v' := (AV.sl 2 (gcells cF ([(Frc.mk (({data := #[49, 51]} : ByteArray)) (({data := #[49, 48]} : ByteArray))), (Frc.mk (({data := #[49, 57]} : ByteArray)) (({data := #[53]} : ByteArray))), (Frc.mk (({data := #[50, 49]} : ByteArray)) (({data := #[49, 49]} : ByteArray))), (Frc.mk (({data := #[53]} : ByteArray)) (({data := #[55]} : ByteArray))), (Frc.mk (({data := #[49, 49]} : ByteArray)) (({data := #[49, 51]} : ByteArray))), (Frc.mk (({data := #[49, 55]} : ByteArray)) (({data := #[49, 57]} : ByteArray)))])))) (by exact congrArg (fun l => AV.sl 2 (gcells cF l)) ex_cmp.1) ?_
  refine o_extract (nm .i64 (cmpE adM)) Gd.none rfl rfl ?_
  refine n_as (v' := (nm .i64 (0))) (by exact congrArg (nm _) ex_cmp.2) ?_
  refine o_as (AV.sl 2 (gcells cF ([(Frc.mk (({data := #[49, 51]} : ByteArray)) (({data := #[49, 48]} : ByteArray))), (Frc.mk (({data := #[49, 57]} : ByteArray)) (({data := #[53]} : ByteArray))), (Frc.mk (({data := #[50, 49]} : ByteArray)) (({data := #[49, 49]} : ByteArray))), (Frc.mk (({data := #[53]} : ByteArray)) (({data := #[55]} : ByteArray))), (Frc.mk (({data := #[49, 49]} : ByteArray)) (({data := #[49, 51]} : ByteArray))), (Frc.mk (({data := #[49, 55]} : ByteArray)) (({data := #[49, 57]} : ByteArray)))]))) rfl ?_
  refine o_as (nm .i64 (0)) rfl ?_
  refine aops_end ?_
  refine hK1 _ ?_
  refine awp_seq fun K2 hK2 => ?_
  refine awp_region rfl ?_
  refine o_mv (AV.sl 2 (gcells cF ([(Frc.mk (({data := #[49, 51]} : ByteArray)) (({data := #[49, 48]} : ByteArray))), (Frc.mk (({data := #[49, 57]} : ByteArray)) (({data := #[53]} : ByteArray))), (Frc.mk (({data := #[50, 49]} : ByteArray)) (({data := #[49, 49]} : ByteArray))), (Frc.mk (({data := #[53]} : ByteArray)) (({data := #[55]} : ByteArray))), (Frc.mk (({data := #[49, 49]} : ByteArray)) (({data := #[49, 51]} : ByteArray))), (Frc.mk (({data := #[49, 55]} : ByteArray)) (({data := #[49, 57]} : ByteArray)))]))) rfl ?_
  refine o_ct (c_Play ([(Frc.mk (({data := #[49, 51]} : ByteArray)) (({data := #[49, 48]} : ByteArray))), (Frc.mk (({data := #[49, 57]} : ByteArray)) (({data := #[53]} : ByteArray))), (Frc.mk (({data := #[50, 49]} : ByteArray)) (({data := #[49, 49]} : ByteArray))), (Frc.mk (({data := #[53]} : ByteArray)) (({data := #[55]} : ByteArray))), (Frc.mk (({data := #[49, 49]} : ByteArray)) (({data := #[49, 51]} : ByteArray))), (Frc.mk (({data := #[49, 55]} : ByteArray)) (({data := #[49, 57]} : ByteArray)))]) (({data := #[54, 48]} : ByteArray)) ((4 : Int)) (by first | assumption | exact ex_sz) (by first | assumption | decide | omega)) Gd.none Zd_tC13 rfl ?_
  refine o_mv (AV.tup [(AV.lit (.string ((plyA ([(Frc.mk (({data := #[49, 51]} : ByteArray)) (({data := #[49, 48]} : ByteArray))), (Frc.mk (({data := #[49, 57]} : ByteArray)) (({data := #[53]} : ByteArray))), (Frc.mk (({data := #[50, 49]} : ByteArray)) (({data := #[49, 49]} : ByteArray))), (Frc.mk (({data := #[53]} : ByteArray)) (({data := #[55]} : ByteArray))), (Frc.mk (({data := #[49, 49]} : ByteArray)) (({data := #[49, 51]} : ByteArray))), (Frc.mk (({data := #[49, 55]} : ByteArray)) (({data := #[49, 57]} : ByteArray)))]) (({data := #[54, 48]} : ByteArray)) ((4 : Int))).1))), (nm .i64 ((plyA ([(Frc.mk (({data := #[49, 51]} : ByteArray)) (({data := #[49, 48]} : ByteArray))), (Frc.mk (({data := #[49, 57]} : ByteArray)) (({data := #[53]} : ByteArray))), (Frc.mk (({data := #[50, 49]} : ByteArray)) (({data := #[49, 49]} : ByteArray))), (Frc.mk (({data := #[53]} : ByteArray)) (({data := #[55]} : ByteArray))), (Frc.mk (({data := #[49, 49]} : ByteArray)) (({data := #[49, 51]} : ByteArray))), (Frc.mk (({data := #[49, 55]} : ByteArray)) (({data := #[49, 57]} : ByteArray)))]) (({data := #[54, 48]} : ByteArray)) ((4 : Int))).2.1)), (nm .i64 ((plyA ([(Frc.mk (({data := #[49, 51]} : ByteArray)) (({data := #[49, 48]} : ByteArray))), (Frc.mk (({data := #[49, 57]} : ByteArray)) (({data := #[53]} : ByteArray))), (Frc.mk (({data := #[50, 49]} : ByteArray)) (({data := #[49, 49]} : ByteArray))), (Frc.mk (({data := #[53]} : ByteArray)) (({data := #[55]} : ByteArray))), (Frc.mk (({data := #[49, 49]} : ByteArray)) (({data := #[49, 51]} : ByteArray))), (Frc.mk (({data := #[49, 55]} : ByteArray)) (({data := #[49, 57]} : ByteArray)))]) (({data := #[54, 48]} : ByteArray)) ((4 : Int))).2.2))]) rfl ?_
  refine o_extract (AV.lit (.string ((plyA ([(Frc.mk (({data := #[49, 51]} : ByteArray)) (({data := #[49, 48]} : ByteArray))), (Frc.mk (({data := #[49, 57]} : ByteArray)) (({data := #[53]} : ByteArray))), (Frc.mk (({data := #[50, 49]} : ByteArray)) (({data := #[49, 49]} : ByteArray))), (Frc.mk (({data := #[53]} : ByteArray)) (({data := #[55]} : ByteArray))), (Frc.mk (({data := #[49, 49]} : ByteArray)) (({data := #[49, 51]} : ByteArray))), (Frc.mk (({data := #[49, 55]} : ByteArray)) (({data := #[49, 57]} : ByteArray)))]) (({data := #[54, 48]} : ByteArray)) ((4 : Int))).1))) Gd.none rfl rfl ?_
  refine n_as (v' := (AV.lit (.string (({data := #[57, 48]} : ByteArray))))) (by exact str_as2 (congrArg Prod.fst ex_play)) ?_
  refine o_extract (nm .i64 ((plyA ([(Frc.mk (({data := #[49, 51]} : ByteArray)) (({data := #[49, 48]} : ByteArray))), (Frc.mk (({data := #[49, 57]} : ByteArray)) (({data := #[53]} : ByteArray))), (Frc.mk (({data := #[50, 49]} : ByteArray)) (({data := #[49, 49]} : ByteArray))), (Frc.mk (({data := #[53]} : ByteArray)) (({data := #[55]} : ByteArray))), (Frc.mk (({data := #[49, 49]} : ByteArray)) (({data := #[49, 51]} : ByteArray))), (Frc.mk (({data := #[49, 55]} : ByteArray)) (({data := #[49, 57]} : ByteArray)))]) (({data := #[54, 48]} : ByteArray)) ((4 : Int))).2.1)) Gd.none rfl rfl ?_
  refine n_as (v' := (nm .i64 (4))) (by exact congrArg (nm _) (congrArg (fun x => x.2.1) ex_play)) ?_
  refine o_extract (nm .i64 ((plyA ([(Frc.mk (({data := #[49, 51]} : ByteArray)) (({data := #[49, 48]} : ByteArray))), (Frc.mk (({data := #[49, 57]} : ByteArray)) (({data := #[53]} : ByteArray))), (Frc.mk (({data := #[50, 49]} : ByteArray)) (({data := #[49, 49]} : ByteArray))), (Frc.mk (({data := #[53]} : ByteArray)) (({data := #[55]} : ByteArray))), (Frc.mk (({data := #[49, 49]} : ByteArray)) (({data := #[49, 51]} : ByteArray))), (Frc.mk (({data := #[49, 55]} : ByteArray)) (({data := #[49, 57]} : ByteArray)))]) (({data := #[54, 48]} : ByteArray)) ((4 : Int))).2.2)) Gd.none rfl rfl ?_
  refine n_as (v' := (nm .i64 (0))) (by exact congrArg (nm _) (congrArg (fun x => x.2.2) ex_play)) ?_
  refine o_as (AV.lit (.string (({data := #[57, 48]} : ByteArray)))) rfl ?_
  refine o_as (nm .i64 (4)) rfl ?_
  refine o_as (nm .i64 (0)) rfl ?_
  refine aops_end ?_
  refine hK2 _ ?_
  refine awp_seq fun K3 hK3 => ?_
  refine awp_region rfl ?_
  refine o_mv (nm .i64 (0)) rfl ?_
  refine n_eql (0) (0) Gd.none rfl rfl ?_
  refine o_mv (bp ((0) = (0))) rfl ?_
  refine o_move (AV.sl 2 (gcells cF ([(Frc.mk (({data := #[49, 51]} : ByteArray)) (({data := #[49, 48]} : ByteArray))), (Frc.mk (({data := #[49, 57]} : ByteArray)) (({data := #[53]} : ByteArray))), (Frc.mk (({data := #[50, 49]} : ByteArray)) (({data := #[49, 49]} : ByteArray))), (Frc.mk (({data := #[53]} : ByteArray)) (({data := #[55]} : ByteArray))), (Frc.mk (({data := #[49, 49]} : ByteArray)) (({data := #[49, 51]} : ByteArray))), (Frc.mk (({data := #[49, 55]} : ByteArray)) (({data := #[49, 57]} : ByteArray)))]))) (Gd.yes rfl rfl (decide_eq_true (by decide))) rfl ?_
  refine g_len cF ([(Frc.mk (({data := #[49, 51]} : ByteArray)) (({data := #[49, 48]} : ByteArray))), (Frc.mk (({data := #[49, 57]} : ByteArray)) (({data := #[53]} : ByteArray))), (Frc.mk (({data := #[50, 49]} : ByteArray)) (({data := #[49, 49]} : ByteArray))), (Frc.mk (({data := #[53]} : ByteArray)) (({data := #[55]} : ByteArray))), (Frc.mk (({data := #[49, 49]} : ByteArray)) (({data := #[49, 51]} : ByteArray))), (Frc.mk (({data := #[49, 55]} : ByteArray)) (({data := #[49, 57]} : ByteArray)))]) cF_len (Gd.yes rfl rfl (decide_eq_true (by decide))) Zd_tU34 rfl ?_
  refine n_eql (([(Frc.mk (({data := #[49, 51]} : ByteArray)) (({data := #[49, 48]} : ByteArray))), (Frc.mk (({data := #[49, 57]} : ByteArray)) (({data := #[53]} : ByteArray))), (Frc.mk (({data := #[50, 49]} : ByteArray)) (({data := #[49, 49]} : ByteArray))), (Frc.mk (({data := #[53]} : ByteArray)) (({data := #[55]} : ByteArray))), (Frc.mk (({data := #[49, 49]} : ByteArray)) (({data := #[49, 51]} : ByteArray))), (Frc.mk (({data := #[49, 55]} : ByteArray)) (({data := #[49, 57]} : ByteArray)))]).length) (6) (Gd.yes rfl rfl (decide_eq_true (by decide))) rfl rfl ?_
  refine n_as (v' := (AV.lit (.bool true))) (by exact bpy (by decide)) ?_
  refine o_pickT (AV.lit (.bool true)) Gd.none rfl (decide_eq_true (by decide)) rfl ?_
  refine o_mv (AV.lit (.bool true)) rfl ?_
  refine o_move (AV.sl 2 (gcells cF ([(Frc.mk (({data := #[49, 51]} : ByteArray)) (({data := #[49, 48]} : ByteArray))), (Frc.mk (({data := #[49, 57]} : ByteArray)) (({data := #[53]} : ByteArray))), (Frc.mk (({data := #[50, 49]} : ByteArray)) (({data := #[49, 49]} : ByteArray))), (Frc.mk (({data := #[53]} : ByteArray)) (({data := #[55]} : ByteArray))), (Frc.mk (({data := #[49, 49]} : ByteArray)) (({data := #[49, 51]} : ByteArray))), (Frc.mk (({data := #[49, 55]} : ByteArray)) (({data := #[49, 57]} : ByteArray)))]))) (Gd.yes rfl rfl rfl) rfl ?_
  refine g_index cF ([(Frc.mk (({data := #[49, 51]} : ByteArray)) (({data := #[49, 48]} : ByteArray))), (Frc.mk (({data := #[49, 57]} : ByteArray)) (({data := #[53]} : ByteArray))), (Frc.mk (({data := #[50, 49]} : ByteArray)) (({data := #[49, 49]} : ByteArray))), (Frc.mk (({data := #[53]} : ByteArray)) (({data := #[55]} : ByteArray))), (Frc.mk (({data := #[49, 49]} : ByteArray)) (({data := #[49, 51]} : ByteArray))), (Frc.mk (({data := #[49, 55]} : ByteArray)) (({data := #[49, 57]} : ByteArray)))]) (0) cF_len rfl (Gd.yes rfl rfl rfl) Zd_tE34 rfl rfl (by decide) ?_
  refine g_loadA cF ([(Frc.mk (({data := #[49, 51]} : ByteArray)) (({data := #[49, 48]} : ByteArray))), (Frc.mk (({data := #[49, 57]} : ByteArray)) (({data := #[53]} : ByteArray))), (Frc.mk (({data := #[50, 49]} : ByteArray)) (({data := #[49, 49]} : ByteArray))), (Frc.mk (({data := #[53]} : ByteArray)) (({data := #[55]} : ByteArray))), (Frc.mk (({data := #[49, 49]} : ByteArray)) (({data := #[49, 51]} : ByteArray))), (Frc.mk (({data := #[49, 55]} : ByteArray)) (({data := #[49, 57]} : ByteArray)))]) (0) default cF_len (Gd.yes rfl rfl rfl) Zd_tA59 rfl (by decide) ?_
  refine o_build [(AV.lit (.string (({data := #[49, 51]} : ByteArray)))), (AV.lit (.string (({data := #[49, 48]} : ByteArray))))] [(0, [(AV.lit (.string (({data := #[49, 51]} : ByteArray))))]), (1, [(AV.lit (.string (({data := #[49, 48]} : ByteArray))))])] (Gd.yes rfl rfl rfl) Zd_tP59 Zd_tO59 rfl rfl rfl ?_
  refine o_eqlA [.string (((([(Frc.mk (({data := #[49, 51]} : ByteArray)) (({data := #[49, 48]} : ByteArray))), (Frc.mk (({data := #[49, 57]} : ByteArray)) (({data := #[53]} : ByteArray))), (Frc.mk (({data := #[50, 49]} : ByteArray)) (({data := #[49, 49]} : ByteArray))), (Frc.mk (({data := #[53]} : ByteArray)) (({data := #[55]} : ByteArray))), (Frc.mk (({data := #[49, 49]} : ByteArray)) (({data := #[49, 51]} : ByteArray))), (Frc.mk (({data := #[49, 55]} : ByteArray)) (({data := #[49, 57]} : ByteArray)))]).getD (0) default)).num), .string (((([(Frc.mk (({data := #[49, 51]} : ByteArray)) (({data := #[49, 48]} : ByteArray))), (Frc.mk (({data := #[49, 57]} : ByteArray)) (({data := #[53]} : ByteArray))), (Frc.mk (({data := #[50, 49]} : ByteArray)) (({data := #[49, 49]} : ByteArray))), (Frc.mk (({data := #[53]} : ByteArray)) (({data := #[55]} : ByteArray))), (Frc.mk (({data := #[49, 49]} : ByteArray)) (({data := #[49, 51]} : ByteArray))), (Frc.mk (({data := #[49, 55]} : ByteArray)) (({data := #[49, 57]} : ByteArray)))]).getD (0) default)).den)] [.string (({data := #[49, 51]} : ByteArray)), .string (({data := #[49, 48]} : ByteArray))] ((((([(Frc.mk (({data := #[49, 51]} : ByteArray)) (({data := #[49, 48]} : ByteArray))), (Frc.mk (({data := #[49, 57]} : ByteArray)) (({data := #[53]} : ByteArray))), (Frc.mk (({data := #[50, 49]} : ByteArray)) (({data := #[49, 49]} : ByteArray))), (Frc.mk (({data := #[53]} : ByteArray)) (({data := #[55]} : ByteArray))), (Frc.mk (({data := #[49, 49]} : ByteArray)) (({data := #[49, 51]} : ByteArray))), (Frc.mk (({data := #[49, 55]} : ByteArray)) (({data := #[49, 57]} : ByteArray)))]).getD (0) default)).num) = (({data := #[49, 51]} : ByteArray)) ∧ (((([(Frc.mk (({data := #[49, 51]} : ByteArray)) (({data := #[49, 48]} : ByteArray))), (Frc.mk (({data := #[49, 57]} : ByteArray)) (({data := #[53]} : ByteArray))), (Frc.mk (({data := #[50, 49]} : ByteArray)) (({data := #[49, 49]} : ByteArray))), (Frc.mk (({data := #[53]} : ByteArray)) (({data := #[55]} : ByteArray))), (Frc.mk (({data := #[49, 49]} : ByteArray)) (({data := #[49, 51]} : ByteArray))), (Frc.mk (({data := #[49, 55]} : ByteArray)) (({data := #[49, 57]} : ByteArray)))]).getD (0) default)).den) = (({data := #[49, 48]} : ByteArray))) (Gd.yes rfl rfl rfl) rfl rfl (eq_api_Frac _ _ _ _) ?_
  refine n_as (v' := (AV.lit (.bool true))) (by exact bpy ⟨rfl, rfl⟩) ?_
  refine o_pickT (AV.lit (.bool true)) Gd.none rfl rfl rfl ?_
  refine o_mv (AV.lit (.bool true)) rfl ?_
  refine o_move (nm .i64 (0)) (Gd.yes rfl rfl rfl) rfl ?_
  refine n_eql (0) (0) (Gd.yes rfl rfl rfl) rfl rfl ?_
  refine o_pickT (bp ((0) = (0))) Gd.none rfl rfl rfl ?_
  refine o_mv (bp ((0) = (0))) rfl ?_
  refine o_move (AV.lit (.string (({data := #[57, 48]} : ByteArray)))) (Gd.yes rfl rfl (decide_eq_true (by decide))) rfl ?_
  refine o_eqlS (a := (({data := #[57, 48]} : ByteArray))) (c := (({data := #[57, 48]} : ByteArray))) (Gd.yes rfl rfl (decide_eq_true (by decide))) rfl rfl ?_
  refine n_as (v' := (AV.lit (.bool true))) (by exact bpy rfl) ?_
  refine o_pickT (AV.lit (.bool true)) Gd.none rfl (decide_eq_true (by decide)) rfl ?_
  refine o_mv (AV.lit (.bool true)) rfl ?_
  refine o_move (nm .i64 (4)) (Gd.yes rfl rfl rfl) rfl ?_
  refine n_eql (4) (4) (Gd.yes rfl rfl rfl) rfl rfl ?_
  refine o_pickT (bp ((4) = (4))) Gd.none rfl rfl rfl ?_
  refine o_as (bp ((4) = (4))) rfl ?_
  refine aops_end ?_
  refine hK3 _ ?_
  refine awp_ret ?_
  refine post_ret ⟨[(bp ((4) = (4)))], And.intro (AV.le_refl _) (trivial), rfl, ?_⟩
  first | rfl | simp [bp]

theorem c_tFit (m : Mac) (c : Cfg) : ECalls cx 4 [(macV m), (cfgV c)] (bp (okCfg m c)) := by
  refine ecalls_of_awp Tryz.func4 (c := _) rfl (Nat.le_of_ble_eq_true rfl) ?_
  show awp cx 129 _ (postF cx Tryz.f4 _) ⟨[(0, (macV m)), (1, (cfgV c))], []⟩
  refine awp_seq fun K0 hK0 => ?_
  refine awp_region rfl ?_
  refine o_box 2 [(AV.lit (.int .i64 (m.regs))), (AV.sl 4 (gcells cI (m.code)))] Gd.none rfl rfl ?_
  refine o_box 3 [(AV.lit (.int .i64 (c.at'))), (AV.sl 1 (is .i64 (c.regs)))] Gd.none rfl rfl ?_
  refine o_as (AV.lit (.bool false)) rfl ?_
  refine aops_end ?_
  refine hK0 _ ?_
  refine awp_seq fun K1 hK1 => ?_
  refine awp_region rfl ?_
  refine o_fieldRef 1 Gd.none Zd_tF24_1 rfl rfl ?_
  refine o_loadS (AV.sl 4 (gcells cI (m.code))) Gd.none Zd_tS22 rfl rfl rfl ?_
  refine g_len cI (m.code) cI_len Gd.none Zd_tU22 rfl ?_
  refine o_as (nm .i64 ((m.code).length)) rfl ?_
  refine aops_end ?_
  refine hK1 _ ?_
  refine awp_seq fun K2 hK2 => ?_
  refine awp_seq fun K3 hK3 => ?_
  refine awp_region rfl ?_
  refine o_fieldRef 0 Gd.none Zd_tF24_0 rfl rfl ?_
  refine o_loadS (AV.lit (.int .i64 (m.regs))) Gd.none Zd_tS3 rfl rfl rfl ?_
  refine o_lss (a := (m.regs)) (c := (((1 : Nat) : Int))) Gd.none rfl rfl ?_
  refine o_mv (bp ((m.regs) < (((1 : Nat) : Int)))) rfl ?_
  refine o_splitP (q := (m.regs) < (((1 : Nat) : Int))) 15 rfl (fun h1 => ?_) (fun h1 => ?_)
  · refine o_skip rfl rfl (decide_eq_true h1) ?_
    refine o_skip rfl rfl (decide_eq_true h1) ?_
    refine o_skip rfl rfl (decide_eq_true h1) ?_
    refine o_pickT (AV.lit (.bool true)) Gd.none rfl (decide_eq_true h1) rfl ?_
    refine o_mv (AV.lit (.bool true)) rfl ?_
    refine o_skip rfl rfl rfl ?_
    refine o_skip rfl rfl rfl ?_
    refine o_pickT (AV.lit (.bool true)) Gd.none rfl rfl rfl ?_
    refine o_mv (AV.lit (.bool true)) rfl ?_
    refine o_skip rfl rfl rfl ?_
    refine o_skip rfl rfl rfl ?_
    refine o_pickT (AV.lit (.bool true)) Gd.none rfl rfl rfl ?_
    refine o_mv (AV.lit (.bool true)) rfl ?_
    refine o_skip rfl rfl rfl ?_
    refine o_skip rfl rfl rfl ?_
    refine o_skip rfl rfl rfl ?_
    refine o_pickT (AV.lit (.bool true)) Gd.none rfl rfl rfl ?_
    refine o_mv (AV.lit (.bool true)) rfl ?_
    refine o_skip rfl rfl rfl ?_
    refine o_skip rfl rfl rfl ?_
    refine o_skip rfl rfl rfl ?_
    refine o_skip rfl rfl rfl ?_
    refine o_pickT (AV.lit (.bool true)) Gd.none rfl rfl rfl ?_
    refine o_mv (AV.lit (.bool true)) rfl ?_
    refine o_skip rfl rfl rfl ?_
    refine o_skip rfl rfl rfl ?_
    refine o_skip rfl rfl rfl ?_
    refine o_skip rfl rfl rfl ?_
    refine o_skip rfl rfl rfl ?_
    refine o_skip rfl rfl rfl ?_
    refine o_pickT (AV.lit (.bool true)) Gd.none rfl rfl rfl ?_
    refine aops_end ?_
    refine hK3 _ ?_
    refine awp_condB (b := true) rfl (fun _ => ?_) (fun hh => absurd (hh.symm.trans rfl) (by decide))
    refine awp_seq fun K4 hK4 => ?_
    refine awp_region rfl ?_
    refine o_as (AV.lit (.bool false)) rfl ?_
    refine aops_end ?_
    refine hK4 _ ?_
    refine awp_ret ?_
    refine post_ret ⟨[(AV.lit (.bool false))], And.intro (AV.le_refl _) (trivial), rfl, ?_⟩
    first | exact bpy ⟨⟨by omega, by omega, by omega, by omega, fun x hx => by obtain ⟨k, hk, rfl⟩ := List.getElem_of_mem hx; have := hb k (by omega); rwa [List.getD_eq_getElem?_getD, List.getElem?_eq_getElem hk] at this⟩, ⟨by omega, by omega⟩, by omega, fun x hx => by obtain ⟨k, hk, rfl⟩ := List.getElem_of_mem hx; have := hg k (by omega); rwa [List.getD_eq_getElem?_getD, List.getElem?_eq_getElem hk] at this⟩ | exact bpn (fun o => by obtain ⟨⟨o1, o2, o3, o4, o5⟩, q1, q2, q3⟩ := o; unfold plc at q1; omega) | exact bpn (fun o => by have hx := o.1.2.2.2.2 _ (gdm (d := default) (show i < m.code.length by omega)); clear hb o; unfold insP plc at hx; omega) | exact bpn (fun o => by have q := o.2.2.2 _ (gdm (d := 0) (show j < c.regs.length by omega)); unfold regP at q; omega)
  · refine o_fieldRef 0 (Gd.yes rfl rfl (decide_eq_false h1)) Zd_tF24_0 rfl rfl ?_
    refine o_loadS (AV.lit (.int .i64 (m.regs))) (Gd.yes rfl rfl (decide_eq_false h1)) Zd_tS3 rfl rfl rfl ?_
    refine o_gtr (a := (m.regs)) (c := (((4 : Nat) : Int))) (Gd.yes rfl rfl (decide_eq_false h1)) rfl rfl ?_
    refine o_pickF (bp ((((4 : Nat) : Int)) < (m.regs))) Gd.none rfl (decide_eq_false h1) rfl ?_
    refine o_mv (bp ((((4 : Nat) : Int)) < (m.regs))) rfl ?_
    refine o_splitP (q := (((4 : Nat) : Int)) < (m.regs)) 20 rfl (fun h2 => ?_) (fun h2 => ?_)
    · refine o_skip rfl rfl (decide_eq_true h2) ?_
      refine o_skip rfl rfl (decide_eq_true h2) ?_
      refine o_pickT (AV.lit (.bool true)) Gd.none rfl (decide_eq_true h2) rfl ?_
      refine o_mv (AV.lit (.bool true)) rfl ?_
      refine o_skip rfl rfl rfl ?_
      refine o_skip rfl rfl rfl ?_
      refine o_pickT (AV.lit (.bool true)) Gd.none rfl rfl rfl ?_
      refine o_mv (AV.lit (.bool true)) rfl ?_
      refine o_skip rfl rfl rfl ?_
      refine o_skip rfl rfl rfl ?_
      refine o_skip rfl rfl rfl ?_
      refine o_pickT (AV.lit (.bool true)) Gd.none rfl rfl rfl ?_
      refine o_mv (AV.lit (.bool true)) rfl ?_
      refine o_skip rfl rfl rfl ?_
      refine o_skip rfl rfl rfl ?_
      refine o_skip rfl rfl rfl ?_
      refine o_skip rfl rfl rfl ?_
      refine o_pickT (AV.lit (.bool true)) Gd.none rfl rfl rfl ?_
      refine o_mv (AV.lit (.bool true)) rfl ?_
      refine o_skip rfl rfl rfl ?_
      refine o_skip rfl rfl rfl ?_
      refine o_skip rfl rfl rfl ?_
      refine o_skip rfl rfl rfl ?_
      refine o_skip rfl rfl rfl ?_
      refine o_skip rfl rfl rfl ?_
      refine o_pickT (AV.lit (.bool true)) Gd.none rfl rfl rfl ?_
      refine aops_end ?_
      refine hK3 _ ?_
      refine awp_condB (b := true) rfl (fun _ => ?_) (fun hh => absurd (hh.symm.trans rfl) (by decide))
      refine awp_seq fun K5 hK5 => ?_
      refine awp_region rfl ?_
      refine o_as (AV.lit (.bool false)) rfl ?_
      refine aops_end ?_
      refine hK5 _ ?_
      refine awp_ret ?_
      refine post_ret ⟨[(AV.lit (.bool false))], And.intro (AV.le_refl _) (trivial), rfl, ?_⟩
      first | exact bpy ⟨⟨by omega, by omega, by omega, by omega, fun x hx => by obtain ⟨k, hk, rfl⟩ := List.getElem_of_mem hx; have := hb k (by omega); rwa [List.getD_eq_getElem?_getD, List.getElem?_eq_getElem hk] at this⟩, ⟨by omega, by omega⟩, by omega, fun x hx => by obtain ⟨k, hk, rfl⟩ := List.getElem_of_mem hx; have := hg k (by omega); rwa [List.getD_eq_getElem?_getD, List.getElem?_eq_getElem hk] at this⟩ | exact bpn (fun o => by obtain ⟨⟨o1, o2, o3, o4, o5⟩, q1, q2, q3⟩ := o; unfold plc at q1; omega) | exact bpn (fun o => by have hx := o.1.2.2.2.2 _ (gdm (d := default) (show i < m.code.length by omega)); clear hb o; unfold insP plc at hx; omega) | exact bpn (fun o => by have q := o.2.2.2 _ (gdm (d := 0) (show j < c.regs.length by omega)); unfold regP at q; omega)
    · refine o_move (nm .i64 ((m.code).length)) (Gd.yes rfl rfl (decide_eq_false h2)) rfl ?_
      refine n_lss ((m.code).length) (1) (Gd.yes rfl rfl (decide_eq_false h2)) rfl rfl ?_
      refine o_pickF (bp (((m.code).length) < (1))) Gd.none rfl (decide_eq_false h2) rfl ?_
      refine o_mv (bp (((m.code).length) < (1))) rfl ?_
      refine o_splitP (q := ((m.code).length) < (1)) 24 rfl (fun h3 => ?_) (fun h3 => ?_)
      · refine o_skip rfl rfl (decide_eq_true h3) ?_
        refine o_skip rfl rfl (decide_eq_true h3) ?_
        refine o_pickT (AV.lit (.bool true)) Gd.none rfl (decide_eq_true h3) rfl ?_
        refine o_mv (AV.lit (.bool true)) rfl ?_
        refine o_skip rfl rfl rfl ?_
        refine o_skip rfl rfl rfl ?_
        refine o_skip rfl rfl rfl ?_
        refine o_pickT (AV.lit (.bool true)) Gd.none rfl rfl rfl ?_
        refine o_mv (AV.lit (.bool true)) rfl ?_
        refine o_skip rfl rfl rfl ?_
        refine o_skip rfl rfl rfl ?_
        refine o_skip rfl rfl rfl ?_
        refine o_skip rfl rfl rfl ?_
        refine o_pickT (AV.lit (.bool true)) Gd.none rfl rfl rfl ?_
        refine o_mv (AV.lit (.bool true)) rfl ?_
        refine o_skip rfl rfl rfl ?_
        refine o_skip rfl rfl rfl ?_
        refine o_skip rfl rfl rfl ?_
        refine o_skip rfl rfl rfl ?_
        refine o_skip rfl rfl rfl ?_
        refine o_skip rfl rfl rfl ?_
        refine o_pickT (AV.lit (.bool true)) Gd.none rfl rfl rfl ?_
        refine aops_end ?_
        refine hK3 _ ?_
        refine awp_condB (b := true) rfl (fun _ => ?_) (fun hh => absurd (hh.symm.trans rfl) (by decide))
        refine awp_seq fun K6 hK6 => ?_
        refine awp_region rfl ?_
        refine o_as (AV.lit (.bool false)) rfl ?_
        refine aops_end ?_
        refine hK6 _ ?_
        refine awp_ret ?_
        refine post_ret ⟨[(AV.lit (.bool false))], And.intro (AV.le_refl _) (trivial), rfl, ?_⟩
        first | exact bpy ⟨⟨by omega, by omega, by omega, by omega, fun x hx => by obtain ⟨k, hk, rfl⟩ := List.getElem_of_mem hx; have := hb k (by omega); rwa [List.getD_eq_getElem?_getD, List.getElem?_eq_getElem hk] at this⟩, ⟨by omega, by omega⟩, by omega, fun x hx => by obtain ⟨k, hk, rfl⟩ := List.getElem_of_mem hx; have := hg k (by omega); rwa [List.getD_eq_getElem?_getD, List.getElem?_eq_getElem hk] at this⟩ | exact bpn (fun o => by obtain ⟨⟨o1, o2, o3, o4, o5⟩, q1, q2, q3⟩ := o; unfold plc at q1; omega) | exact bpn (fun o => by have hx := o.1.2.2.2.2 _ (gdm (d := default) (show i < m.code.length by omega)); clear hb o; unfold insP plc at hx; omega) | exact bpn (fun o => by have q := o.2.2.2 _ (gdm (d := 0) (show j < c.regs.length by omega)); unfold regP at q; omega)
      · refine o_move (nm .i64 ((m.code).length)) (Gd.yes rfl rfl (decide_eq_false h3)) rfl ?_
        refine n_gtr ((m.code).length) (12) (Gd.yes rfl rfl (decide_eq_false h3)) rfl rfl ?_
        refine o_pickF (bp ((12) < ((m.code).length))) Gd.none rfl (decide_eq_false h3) rfl ?_
        refine o_mv (bp ((12) < ((m.code).length))) rfl ?_
        refine o_splitP (q := (12) < ((m.code).length)) 28 rfl (fun h4 => ?_) (fun h4 => ?_)
        · refine o_skip rfl rfl (decide_eq_true h4) ?_
          refine o_skip rfl rfl (decide_eq_true h4) ?_
          refine o_skip rfl rfl (decide_eq_true h4) ?_
          refine o_pickT (AV.lit (.bool true)) Gd.none rfl (decide_eq_true h4) rfl ?_
          refine o_mv (AV.lit (.bool true)) rfl ?_
          refine o_skip rfl rfl rfl ?_
          refine o_skip rfl rfl rfl ?_
          refine o_skip rfl rfl rfl ?_
          refine o_skip rfl rfl rfl ?_
          refine o_pickT (AV.lit (.bool true)) Gd.none rfl rfl rfl ?_
          refine o_mv (AV.lit (.bool true)) rfl ?_
          refine o_skip rfl rfl rfl ?_
          refine o_skip rfl rfl rfl ?_
          refine o_skip rfl rfl rfl ?_
          refine o_skip rfl rfl rfl ?_
          refine o_skip rfl rfl rfl ?_
          refine o_skip rfl rfl rfl ?_
          refine o_pickT (AV.lit (.bool true)) Gd.none rfl rfl rfl ?_
          refine aops_end ?_
          refine hK3 _ ?_
          refine awp_condB (b := true) rfl (fun _ => ?_) (fun hh => absurd (hh.symm.trans rfl) (by decide))
          refine awp_seq fun K7 hK7 => ?_
          refine awp_region rfl ?_
          refine o_as (AV.lit (.bool false)) rfl ?_
          refine aops_end ?_
          refine hK7 _ ?_
          refine awp_ret ?_
          refine post_ret ⟨[(AV.lit (.bool false))], And.intro (AV.le_refl _) (trivial), rfl, ?_⟩
          first | exact bpy ⟨⟨by omega, by omega, by omega, by omega, fun x hx => by obtain ⟨k, hk, rfl⟩ := List.getElem_of_mem hx; have := hb k (by omega); rwa [List.getD_eq_getElem?_getD, List.getElem?_eq_getElem hk] at this⟩, ⟨by omega, by omega⟩, by omega, fun x hx => by obtain ⟨k, hk, rfl⟩ := List.getElem_of_mem hx; have := hg k (by omega); rwa [List.getD_eq_getElem?_getD, List.getElem?_eq_getElem hk] at this⟩ | exact bpn (fun o => by obtain ⟨⟨o1, o2, o3, o4, o5⟩, q1, q2, q3⟩ := o; unfold plc at q1; omega) | exact bpn (fun o => by have hx := o.1.2.2.2.2 _ (gdm (d := default) (show i < m.code.length by omega)); clear hb o; unfold insP plc at hx; omega) | exact bpn (fun o => by have q := o.2.2.2 _ (gdm (d := 0) (show j < c.regs.length by omega)); unfold regP at q; omega)
        · refine o_fieldRef 0 (Gd.yes rfl rfl (decide_eq_false h4)) Zd_tF27_0 rfl rfl ?_
          refine o_loadS (AV.lit (.int .i64 (c.at'))) (Gd.yes rfl rfl (decide_eq_false h4)) Zd_tS3 rfl rfl rfl ?_
          refine o_lss (a := (c.at')) (c := (((0 : Nat) : Int))) (Gd.yes rfl rfl (decide_eq_false h4)) rfl rfl ?_
          refine o_pickF (bp ((c.at') < (((0 : Nat) : Int)))) Gd.none rfl (decide_eq_false h4) rfl ?_
          refine o_mv (bp ((c.at') < (((0 : Nat) : Int)))) rfl ?_
          refine o_splitP (q := (c.at') < (((0 : Nat) : Int))) 33 rfl (fun h5 => ?_) (fun h5 => ?_)
          · refine o_skip rfl rfl (decide_eq_true h5) ?_
            refine o_skip rfl rfl (decide_eq_true h5) ?_
            refine o_skip rfl rfl (decide_eq_true h5) ?_
            refine o_skip rfl rfl (decide_eq_true h5) ?_
            refine o_pickT (AV.lit (.bool true)) Gd.none rfl (decide_eq_true h5) rfl ?_
            refine o_mv (AV.lit (.bool true)) rfl ?_
            refine o_skip rfl rfl rfl ?_
            refine o_skip rfl rfl rfl ?_
            refine o_skip rfl rfl rfl ?_
            refine o_skip rfl rfl rfl ?_
            refine o_skip rfl rfl rfl ?_
            refine o_skip rfl rfl rfl ?_
            refine o_pickT (AV.lit (.bool true)) Gd.none rfl rfl rfl ?_
            refine aops_end ?_
            refine hK3 _ ?_
            refine awp_condB (b := true) rfl (fun _ => ?_) (fun hh => absurd (hh.symm.trans rfl) (by decide))
            refine awp_seq fun K8 hK8 => ?_
            refine awp_region rfl ?_
            refine o_as (AV.lit (.bool false)) rfl ?_
            refine aops_end ?_
            refine hK8 _ ?_
            refine awp_ret ?_
            refine post_ret ⟨[(AV.lit (.bool false))], And.intro (AV.le_refl _) (trivial), rfl, ?_⟩
            first | exact bpy ⟨⟨by omega, by omega, by omega, by omega, fun x hx => by obtain ⟨k, hk, rfl⟩ := List.getElem_of_mem hx; have := hb k (by omega); rwa [List.getD_eq_getElem?_getD, List.getElem?_eq_getElem hk] at this⟩, ⟨by omega, by omega⟩, by omega, fun x hx => by obtain ⟨k, hk, rfl⟩ := List.getElem_of_mem hx; have := hg k (by omega); rwa [List.getD_eq_getElem?_getD, List.getElem?_eq_getElem hk] at this⟩ | exact bpn (fun o => by obtain ⟨⟨o1, o2, o3, o4, o5⟩, q1, q2, q3⟩ := o; unfold plc at q1; omega) | exact bpn (fun o => by have hx := o.1.2.2.2.2 _ (gdm (d := default) (show i < m.code.length by omega)); clear hb o; unfold insP plc at hx; omega) | exact bpn (fun o => by have q := o.2.2.2 _ (gdm (d := 0) (show j < c.regs.length by omega)); unfold regP at q; omega)
          · refine o_fieldRef 0 (Gd.yes rfl rfl (decide_eq_false h5)) Zd_tF27_0 rfl rfl ?_
            refine o_loadS (AV.lit (.int .i64 (c.at'))) (Gd.yes rfl rfl (decide_eq_false h5)) Zd_tS3 rfl rfl rfl ?_
            refine o_move (nm .i64 ((m.code).length)) (Gd.yes rfl rfl (decide_eq_false h5)) rfl ?_
            refine o_gtr (a := (c.at')) (c := ((((m.code).length : Nat) : Int))) (Gd.yes rfl rfl (decide_eq_false h5)) rfl rfl ?_
            refine o_pickF (bp (((((m.code).length : Nat) : Int)) < (c.at'))) Gd.none rfl (decide_eq_false h5) rfl ?_
            refine o_mv (bp (((((m.code).length : Nat) : Int)) < (c.at'))) rfl ?_
            refine o_splitP (q := ((((m.code).length : Nat) : Int)) < (c.at')) 39 rfl (fun h6 => ?_) (fun h6 => ?_)
            · refine o_skip rfl rfl (decide_eq_true h6) ?_
              refine o_skip rfl rfl (decide_eq_true h6) ?_
              refine o_skip rfl rfl (decide_eq_true h6) ?_
              refine o_skip rfl rfl (decide_eq_true h6) ?_
              refine o_skip rfl rfl (decide_eq_true h6) ?_
              refine o_skip rfl rfl (decide_eq_true h6) ?_
              refine o_pickT (AV.lit (.bool true)) Gd.none rfl (decide_eq_true h6) rfl ?_
              refine aops_end ?_
              refine hK3 _ ?_
              refine awp_condB (b := true) rfl (fun _ => ?_) (fun hh => absurd (hh.symm.trans rfl) (by decide))
              refine awp_seq fun K9 hK9 => ?_
              refine awp_region rfl ?_
              refine o_as (AV.lit (.bool false)) rfl ?_
              refine aops_end ?_
              refine hK9 _ ?_
              refine awp_ret ?_
              refine post_ret ⟨[(AV.lit (.bool false))], And.intro (AV.le_refl _) (trivial), rfl, ?_⟩
              first | exact bpy ⟨⟨by omega, by omega, by omega, by omega, fun x hx => by obtain ⟨k, hk, rfl⟩ := List.getElem_of_mem hx; have := hb k (by omega); rwa [List.getD_eq_getElem?_getD, List.getElem?_eq_getElem hk] at this⟩, ⟨by omega, by omega⟩, by omega, fun x hx => by obtain ⟨k, hk, rfl⟩ := List.getElem_of_mem hx; have := hg k (by omega); rwa [List.getD_eq_getElem?_getD, List.getElem?_eq_getElem hk] at this⟩ | exact bpn (fun o => by obtain ⟨⟨o1, o2, o3, o4, o5⟩, q1, q2, q3⟩ := o; unfold plc at q1; omega) | exact bpn (fun o => by have hx := o.1.2.2.2.2 _ (gdm (d := default) (show i < m.code.length by omega)); clear hb o; unfold insP plc at hx; omega) | exact bpn (fun o => by have q := o.2.2.2 _ (gdm (d := 0) (show j < c.regs.length by omega)); unfold regP at q; omega)
            · refine o_fieldRef 1 (Gd.yes rfl rfl (decide_eq_false h6)) Zd_tF27_1 rfl rfl ?_
              refine o_loadS (AV.sl 1 (is .i64 (c.regs))) (Gd.yes rfl rfl (decide_eq_false h6)) Zd_tS25 rfl rfl rfl ?_
              refine i_len (c.regs) (Gd.yes rfl rfl (decide_eq_false h6)) Zd_tU25 rfl ?_
              refine o_fieldRef 0 (Gd.yes rfl rfl (decide_eq_false h6)) Zd_tF24_0 rfl rfl ?_
              refine o_loadS (AV.lit (.int .i64 (m.regs))) (Gd.yes rfl rfl (decide_eq_false h6)) Zd_tS3 rfl rfl rfl ?_
              refine o_neq (a := ((((c.regs).length : Nat) : Int))) (c := (m.regs)) (Gd.yes rfl rfl (decide_eq_false h6)) rfl rfl ?_
              refine o_pickF (bp (((((c.regs).length : Nat) : Int)) ≠ (m.regs))) Gd.none rfl (decide_eq_false h6) rfl ?_
              refine aops_end ?_
              refine hK3 _ ?_
              refine awp_condQ (q := ((((c.regs).length : Nat) : Int)) ≠ (m.regs)) rfl (fun h7 => ?_) (fun h7 => ?_)
              · refine awp_seq fun K10 hK10 => ?_
                refine awp_region rfl ?_
                refine o_as (AV.lit (.bool false)) rfl ?_
                refine aops_end ?_
                refine hK10 _ ?_
                refine awp_ret ?_
                refine post_ret ⟨[(AV.lit (.bool false))], And.intro (AV.le_refl _) (trivial), rfl, ?_⟩
                first | exact bpy ⟨⟨by omega, by omega, by omega, by omega, fun x hx => by obtain ⟨k, hk, rfl⟩ := List.getElem_of_mem hx; have := hb k (by omega); rwa [List.getD_eq_getElem?_getD, List.getElem?_eq_getElem hk] at this⟩, ⟨by omega, by omega⟩, by omega, fun x hx => by obtain ⟨k, hk, rfl⟩ := List.getElem_of_mem hx; have := hg k (by omega); rwa [List.getD_eq_getElem?_getD, List.getElem?_eq_getElem hk] at this⟩ | exact bpn (fun o => by obtain ⟨⟨o1, o2, o3, o4, o5⟩, q1, q2, q3⟩ := o; unfold plc at q1; omega) | exact bpn (fun o => by have hx := o.1.2.2.2.2 _ (gdm (d := default) (show i < m.code.length by omega)); clear hb o; unfold insP plc at hx; omega) | exact bpn (fun o => by have q := o.2.2.2 _ (gdm (d := 0) (show j < c.regs.length by omega)); unfold regP at q; omega)
              · refine awp_skip ?_
                refine hK2 _ ?_
                refine awp_seq fun K11 hK11 => ?_
                refine awp_seq fun K12 hK12 => ?_
                refine awp_region rfl ?_
                refine o_as (nm .i64 (0)) rfl ?_
                refine aops_end ?_
                refine hK12 _ ?_
                refine awp_block ?_
                refine awp_loopR (fun κ σ => ∃ (i : Nat), (i ≤ m.code.length) ∧ (∀ k, k < i → insP m (m.code.getD k default)) ∧ (m.code.length - i) = κ ∧ σ = ⟨[(2, (AV.ref 2 (0))), (3, (AV.ref 3 (0))), (5, (nm .i64 (m.code.length))), (6, (nm .i64 (i)))], [(2, (AO.var 24 [(AV.lit (.int .i64 (m.regs))), (AV.sl 4 (gcells cI (m.code)))])), (3, (AO.var 27 [(AV.lit (.int .i64 (c.at'))), (AV.sl 1 (is .i64 (c.regs)))]))]⟩) ⟨_, _, ⟨0, (by omega), (fun k hk => by omega), rfl, rfl⟩, ?wk0⟩ ?rd0
                case wk0 =>
                  exact Wk.sub (And.intro rfl (And.intro rfl (And.intro (by first | rfl | exact congrArg (nm _) (by omega) | exact nm_int (by omega) | exact nm_int (by simp [IntKind.wrap, IntKind.bits, IntKind.signed]; omega)) (And.intro (by first | rfl | exact congrArg (nm _) (by omega) | exact nm_int (by omega) | exact nm_int (by simp [IntKind.wrap, IntKind.bits, IntKind.signed]; omega)) (trivial))))) (And.intro rfl (And.intro rfl (trivial)))
                rintro κ _ ⟨i, hi, hb, rfl, rfl⟩
                refine awp_seq fun K13 hK13 => ?_
                refine awp_seq fun K14 hK14 => ?_
                refine awp_region rfl ?_
                refine o_mv (nm .i64 (i)) rfl ?_
                refine o_mv (nm .i64 (m.code.length)) rfl ?_
                refine n_lss (i) (m.code.length) Gd.none rfl rfl ?_
                refine aops_end ?_
                refine hK14 _ ?_
                refine awp_condQ (q := (i) < (m.code.length)) rfl (fun h8 => ?_) (fun h8 => ?_)
                · refine awp_skip ?_
                  refine hK13 _ ?_
                  refine awp_seq fun K15 hK15 => ?_
                  refine awp_block ?_
                  refine awp_seq fun K16 hK16 => ?_
                  refine awp_region rfl ?_
                  refine o_fieldRef 1 Gd.none Zd_tF24_1 rfl rfl ?_
                  refine o_loadS (AV.sl 4 (gcells cI (m.code))) Gd.none Zd_tS22 rfl rfl rfl ?_
                  refine o_mv (nm .i64 (i)) rfl ?_
                  refine g_index cI (m.code) (i) cI_len rfl Gd.none Zd_tE22 rfl rfl (by omega) ?_
                  refine g_loadA cI (m.code) (i) default cI_len Gd.none Zd_tA57 rfl (by omega) ?_
                  refine o_alloc 101 [(nm .i64 (0)), (nm .i64 (0)), (nm .i64 (0)), (nm .i64 (0))] Gd.none Zd_tO57 rfl rfl rfl ?_
                  refine o_store [(101, (AO.var 57 [(AV.lit (.int .i64 ((((m.code).getD (i) default)).kind))), (AV.lit (.int .i64 ((((m.code).getD (i) default)).reg))), (AV.lit (.int .i64 ((((m.code).getD (i) default)).next))), (AV.lit (.int .i64 ((((m.code).getD (i) default)).els)))])), (2, (AO.var 24 [(AV.lit (.int .i64 (m.regs))), (AV.sl 4 (gcells cI (m.code)))])), (3, (AO.var 27 [(AV.lit (.int .i64 (c.at'))), (AV.sl 1 (is .i64 (c.regs)))]))] Gd.none Zd_tZ57 rfl rfl rfl rfl rfl rfl ?_
                  refine aops_end ?_
                  refine hK16 _ ?_
                  refine awp_seq fun K17 hK17 => ?_
                  refine awp_region rfl ?_
                  refine o_fieldRef 0 Gd.none Zd_tF57_0 rfl rfl ?_
                  refine o_loadS (AV.lit (.int .i64 ((((m.code).getD (i) default)).kind))) Gd.none Zd_tS3 rfl rfl rfl ?_
                  refine o_neq (a := ((((m.code).getD (i) default)).kind)) (c := (((0 : Nat) : Int))) Gd.none rfl rfl ?_
                  refine o_mv (bp (((((m.code).getD (i) default)).kind) ≠ (((0 : Nat) : Int)))) rfl ?_
                  refine o_splitP (q := ((((m.code).getD (i) default)).kind) ≠ (((0 : Nat) : Int))) 60 rfl (fun h9 => ?_) (fun h9 => ?_)
                  · refine o_fieldRef 0 (Gd.yes rfl rfl (decide_eq_true h9)) Zd_tF57_0 rfl rfl ?_
                    refine o_loadS (AV.lit (.int .i64 ((((m.code).getD (i) default)).kind))) (Gd.yes rfl rfl (decide_eq_true h9)) Zd_tS3 rfl rfl rfl ?_
                    refine o_neq (a := ((((m.code).getD (i) default)).kind)) (c := (((1 : Nat) : Int))) (Gd.yes rfl rfl (decide_eq_true h9)) rfl rfl ?_
                    refine o_pickT (bp (((((m.code).getD (i) default)).kind) ≠ (((1 : Nat) : Int)))) Gd.none rfl (decide_eq_true h9) rfl ?_
                    refine o_mv (bp (((((m.code).getD (i) default)).kind) ≠ (((1 : Nat) : Int)))) rfl ?_
                    refine o_splitP (q := ((((m.code).getD (i) default)).kind) ≠ (((1 : Nat) : Int))) 65 rfl (fun h10 => ?_) (fun h10 => ?_)
                    · refine o_skip rfl rfl (decide_eq_true h10) ?_
                      refine o_skip rfl rfl (decide_eq_true h10) ?_
                      refine o_skip rfl rfl (decide_eq_true h10) ?_
                      refine o_pickT (AV.lit (.bool true)) Gd.none rfl (decide_eq_true h10) rfl ?_
                      refine o_mv (AV.lit (.bool true)) rfl ?_
                      refine o_skip rfl rfl rfl ?_
                      refine o_skip rfl rfl rfl ?_
                      refine o_skip rfl rfl rfl ?_
                      refine o_skip rfl rfl rfl ?_
                      refine o_skip rfl rfl rfl ?_
                      refine o_pickT (AV.lit (.bool true)) Gd.none rfl rfl rfl ?_
                      refine o_mv (AV.lit (.bool true)) rfl ?_
                      refine o_skip rfl rfl rfl ?_
                      refine o_skip rfl rfl rfl ?_
                      refine o_skip rfl rfl rfl ?_
                      refine o_pickT (AV.lit (.bool true)) Gd.none rfl rfl rfl ?_
                      refine o_mv (AV.lit (.bool true)) rfl ?_
                      refine o_skip rfl rfl rfl ?_
                      refine o_skip rfl rfl rfl ?_
                      refine o_skip rfl rfl rfl ?_
                      refine o_skip rfl rfl rfl ?_
                      refine o_pickT (AV.lit (.bool true)) Gd.none rfl rfl rfl ?_
                      refine o_mv (AV.lit (.bool true)) rfl ?_
                      refine o_skip rfl rfl rfl ?_
                      refine o_skip rfl rfl rfl ?_
                      refine o_skip rfl rfl rfl ?_
                      refine o_pickT (AV.lit (.bool true)) Gd.none rfl rfl rfl ?_
                      refine o_mv (AV.lit (.bool true)) rfl ?_
                      refine o_skip rfl rfl rfl ?_
                      refine o_skip rfl rfl rfl ?_
                      refine o_skip rfl rfl rfl ?_
                      refine o_skip rfl rfl rfl ?_
                      refine o_pickT (AV.lit (.bool true)) Gd.none rfl rfl rfl ?_
                      refine o_mv (AV.lit (.bool true)) rfl ?_
                      refine o_skip rfl rfl rfl ?_
                      refine o_skip rfl rfl rfl ?_
                      refine o_skip rfl rfl rfl ?_
                      refine o_skip rfl rfl rfl ?_
                      refine o_skipU rfl rfl ?_
                      refine o_skipU rfl rfl ?_
                      refine o_skipU rfl rfl ?_
                      refine o_skip rfl rfl rfl ?_
                      refine o_pickT (AV.lit (.bool true)) Gd.none rfl rfl rfl ?_
                      refine aops_end ?_
                      refine hK17 _ ?_
                      refine awp_condB (b := true) rfl (fun _ => ?_) (fun hh => absurd (hh.symm.trans rfl) (by decide))
                      refine awp_seq fun K18 hK18 => ?_
                      refine awp_region rfl ?_
                      refine o_as (AV.lit (.bool false)) rfl ?_
                      refine aops_end ?_
                      refine hK18 _ ?_
                      refine awp_ret ?_
                      refine post_ret ⟨[(AV.lit (.bool false))], And.intro (AV.le_refl _) (trivial), rfl, ?_⟩
                      first | exact bpy ⟨⟨by omega, by omega, by omega, by omega, fun x hx => by obtain ⟨k, hk, rfl⟩ := List.getElem_of_mem hx; have := hb k (by omega); rwa [List.getD_eq_getElem?_getD, List.getElem?_eq_getElem hk] at this⟩, ⟨by omega, by omega⟩, by omega, fun x hx => by obtain ⟨k, hk, rfl⟩ := List.getElem_of_mem hx; have := hg k (by omega); rwa [List.getD_eq_getElem?_getD, List.getElem?_eq_getElem hk] at this⟩ | exact bpn (fun o => by obtain ⟨⟨o1, o2, o3, o4, o5⟩, q1, q2, q3⟩ := o; unfold plc at q1; omega) | exact bpn (fun o => by have hx := o.1.2.2.2.2 _ (gdm (d := default) (show i < m.code.length by omega)); clear hb o; unfold insP plc at hx; omega) | exact bpn (fun o => by have q := o.2.2.2 _ (gdm (d := 0) (show j < c.regs.length by omega)); unfold regP at q; omega)
                    · refine o_fieldRef 1 (Gd.yes rfl rfl (decide_eq_false h10)) Zd_tF57_1 rfl rfl ?_
                      refine o_loadS (AV.lit (.int .i64 ((((m.code).getD (i) default)).reg))) (Gd.yes rfl rfl (decide_eq_false h10)) Zd_tS3 rfl rfl rfl ?_
                      refine o_lss (a := ((((m.code).getD (i) default)).reg)) (c := (((0 : Nat) : Int))) (Gd.yes rfl rfl (decide_eq_false h10)) rfl rfl ?_
                      refine o_pickF (bp (((((m.code).getD (i) default)).reg) < (((0 : Nat) : Int)))) Gd.none rfl (decide_eq_false h10) rfl ?_
                      refine o_mv (bp (((((m.code).getD (i) default)).reg) < (((0 : Nat) : Int)))) rfl ?_
                      refine o_splitP (q := ((((m.code).getD (i) default)).reg) < (((0 : Nat) : Int))) 70 rfl (fun h11 => ?_) (fun h11 => ?_)
                      · refine o_skip rfl rfl (decide_eq_true h11) ?_
                        refine o_skip rfl rfl (decide_eq_true h11) ?_
                        refine o_skip rfl rfl (decide_eq_true h11) ?_
                        refine o_skip rfl rfl (decide_eq_true h11) ?_
                        refine o_skip rfl rfl (decide_eq_true h11) ?_
                        refine o_pickT (AV.lit (.bool true)) Gd.none rfl (decide_eq_true h11) rfl ?_
                        refine o_mv (AV.lit (.bool true)) rfl ?_
                        refine o_skip rfl rfl rfl ?_
                        refine o_skip rfl rfl rfl ?_
                        refine o_skip rfl rfl rfl ?_
                        refine o_pickT (AV.lit (.bool true)) Gd.none rfl rfl rfl ?_
                        refine o_mv (AV.lit (.bool true)) rfl ?_
                        refine o_skip rfl rfl rfl ?_
                        refine o_skip rfl rfl rfl ?_
                        refine o_skip rfl rfl rfl ?_
                        refine o_skip rfl rfl rfl ?_
                        refine o_pickT (AV.lit (.bool true)) Gd.none rfl rfl rfl ?_
                        refine o_mv (AV.lit (.bool true)) rfl ?_
                        refine o_skip rfl rfl rfl ?_
                        refine o_skip rfl rfl rfl ?_
                        refine o_skip rfl rfl rfl ?_
                        refine o_pickT (AV.lit (.bool true)) Gd.none rfl rfl rfl ?_
                        refine o_mv (AV.lit (.bool true)) rfl ?_
                        refine o_skip rfl rfl rfl ?_
                        refine o_skip rfl rfl rfl ?_
                        refine o_skip rfl rfl rfl ?_
                        refine o_skip rfl rfl rfl ?_
                        refine o_pickT (AV.lit (.bool true)) Gd.none rfl rfl rfl ?_
                        refine o_mv (AV.lit (.bool true)) rfl ?_
                        refine o_skip rfl rfl rfl ?_
                        refine o_skip rfl rfl rfl ?_
                        refine o_skip rfl rfl rfl ?_
                        refine o_skip rfl rfl rfl ?_
                        refine o_skipU rfl rfl ?_
                        refine o_skipU rfl rfl ?_
                        refine o_skipU rfl rfl ?_
                        refine o_skip rfl rfl rfl ?_
                        refine o_pickT (AV.lit (.bool true)) Gd.none rfl rfl rfl ?_
                        refine aops_end ?_
                        refine hK17 _ ?_
                        refine awp_condB (b := true) rfl (fun _ => ?_) (fun hh => absurd (hh.symm.trans rfl) (by decide))
                        refine awp_seq fun K19 hK19 => ?_
                        refine awp_region rfl ?_
                        refine o_as (AV.lit (.bool false)) rfl ?_
                        refine aops_end ?_
                        refine hK19 _ ?_
                        refine awp_ret ?_
                        refine post_ret ⟨[(AV.lit (.bool false))], And.intro (AV.le_refl _) (trivial), rfl, ?_⟩
                        first | exact bpy ⟨⟨by omega, by omega, by omega, by omega, fun x hx => by obtain ⟨k, hk, rfl⟩ := List.getElem_of_mem hx; have := hb k (by omega); rwa [List.getD_eq_getElem?_getD, List.getElem?_eq_getElem hk] at this⟩, ⟨by omega, by omega⟩, by omega, fun x hx => by obtain ⟨k, hk, rfl⟩ := List.getElem_of_mem hx; have := hg k (by omega); rwa [List.getD_eq_getElem?_getD, List.getElem?_eq_getElem hk] at this⟩ | exact bpn (fun o => by obtain ⟨⟨o1, o2, o3, o4, o5⟩, q1, q2, q3⟩ := o; unfold plc at q1; omega) | exact bpn (fun o => by have hx := o.1.2.2.2.2 _ (gdm (d := default) (show i < m.code.length by omega)); clear hb o; unfold insP plc at hx; omega) | exact bpn (fun o => by have q := o.2.2.2 _ (gdm (d := 0) (show j < c.regs.length by omega)); unfold regP at q; omega)
                      · refine o_fieldRef 1 (Gd.yes rfl rfl (decide_eq_false h11)) Zd_tF57_1 rfl rfl ?_
                        refine o_loadS (AV.lit (.int .i64 ((((m.code).getD (i) default)).reg))) (Gd.yes rfl rfl (decide_eq_false h11)) Zd_tS3 rfl rfl rfl ?_
                        refine o_fieldRef 0 (Gd.yes rfl rfl (decide_eq_false h11)) Zd_tF24_0 rfl rfl ?_
                        refine o_loadS (AV.lit (.int .i64 (m.regs))) (Gd.yes rfl rfl (decide_eq_false h11)) Zd_tS3 rfl rfl rfl ?_
                        refine o_geq (a := ((((m.code).getD (i) default)).reg)) (c := (m.regs)) (Gd.yes rfl rfl (decide_eq_false h11)) rfl rfl ?_
                        refine o_pickF (bp ((m.regs) ≤ ((((m.code).getD (i) default)).reg))) Gd.none rfl (decide_eq_false h11) rfl ?_
                        refine o_mv (bp ((m.regs) ≤ ((((m.code).getD (i) default)).reg))) rfl ?_
                        refine o_splitP (q := (m.regs) ≤ ((((m.code).getD (i) default)).reg)) 77 rfl (fun h12 => ?_) (fun h12 => ?_)
                        · refine o_skip rfl rfl (decide_eq_true h12) ?_
                          refine o_skip rfl rfl (decide_eq_true h12) ?_
                          refine o_skip rfl rfl (decide_eq_true h12) ?_
                          refine o_pickT (AV.lit (.bool true)) Gd.none rfl (decide_eq_true h12) rfl ?_
                          refine o_mv (AV.lit (.bool true)) rfl ?_
                          refine o_skip rfl rfl rfl ?_
                          refine o_skip rfl rfl rfl ?_
                          refine o_skip rfl rfl rfl ?_
                          refine o_skip rfl rfl rfl ?_
                          refine o_pickT (AV.lit (.bool true)) Gd.none rfl rfl rfl ?_
                          refine o_mv (AV.lit (.bool true)) rfl ?_
                          refine o_skip rfl rfl rfl ?_
                          refine o_skip rfl rfl rfl ?_
                          refine o_skip rfl rfl rfl ?_
                          refine o_pickT (AV.lit (.bool true)) Gd.none rfl rfl rfl ?_
                          refine o_mv (AV.lit (.bool true)) rfl ?_
                          refine o_skip rfl rfl rfl ?_
                          refine o_skip rfl rfl rfl ?_
                          refine o_skip rfl rfl rfl ?_
                          refine o_skip rfl rfl rfl ?_
                          refine o_pickT (AV.lit (.bool true)) Gd.none rfl rfl rfl ?_
                          refine o_mv (AV.lit (.bool true)) rfl ?_
                          refine o_skip rfl rfl rfl ?_
                          refine o_skip rfl rfl rfl ?_
                          refine o_skip rfl rfl rfl ?_
                          refine o_skip rfl rfl rfl ?_
                          refine o_skipU rfl rfl ?_
                          refine o_skipU rfl rfl ?_
                          refine o_skipU rfl rfl ?_
                          refine o_skip rfl rfl rfl ?_
                          refine o_pickT (AV.lit (.bool true)) Gd.none rfl rfl rfl ?_
                          refine aops_end ?_
                          refine hK17 _ ?_
                          refine awp_condB (b := true) rfl (fun _ => ?_) (fun hh => absurd (hh.symm.trans rfl) (by decide))
                          refine awp_seq fun K20 hK20 => ?_
                          refine awp_region rfl ?_
                          refine o_as (AV.lit (.bool false)) rfl ?_
                          refine aops_end ?_
                          refine hK20 _ ?_
                          refine awp_ret ?_
                          refine post_ret ⟨[(AV.lit (.bool false))], And.intro (AV.le_refl _) (trivial), rfl, ?_⟩
                          first | exact bpy ⟨⟨by omega, by omega, by omega, by omega, fun x hx => by obtain ⟨k, hk, rfl⟩ := List.getElem_of_mem hx; have := hb k (by omega); rwa [List.getD_eq_getElem?_getD, List.getElem?_eq_getElem hk] at this⟩, ⟨by omega, by omega⟩, by omega, fun x hx => by obtain ⟨k, hk, rfl⟩ := List.getElem_of_mem hx; have := hg k (by omega); rwa [List.getD_eq_getElem?_getD, List.getElem?_eq_getElem hk] at this⟩ | exact bpn (fun o => by obtain ⟨⟨o1, o2, o3, o4, o5⟩, q1, q2, q3⟩ := o; unfold plc at q1; omega) | exact bpn (fun o => by have hx := o.1.2.2.2.2 _ (gdm (d := default) (show i < m.code.length by omega)); clear hb o; unfold insP plc at hx; omega) | exact bpn (fun o => by have q := o.2.2.2 _ (gdm (d := 0) (show j < c.regs.length by omega)); unfold regP at q; omega)
                        · refine o_fieldRef 2 (Gd.yes rfl rfl (decide_eq_false h12)) Zd_tF57_2 rfl rfl ?_
                          refine o_loadS (AV.lit (.int .i64 ((((m.code).getD (i) default)).next))) (Gd.yes rfl rfl (decide_eq_false h12)) Zd_tS3 rfl rfl rfl ?_
                          refine o_lss (a := ((((m.code).getD (i) default)).next)) (c := (((0 : Nat) : Int))) (Gd.yes rfl rfl (decide_eq_false h12)) rfl rfl ?_
                          refine o_pickF (bp (((((m.code).getD (i) default)).next) < (((0 : Nat) : Int)))) Gd.none rfl (decide_eq_false h12) rfl ?_
                          refine o_mv (bp (((((m.code).getD (i) default)).next) < (((0 : Nat) : Int)))) rfl ?_
                          refine o_splitP (q := ((((m.code).getD (i) default)).next) < (((0 : Nat) : Int))) 82 rfl (fun h13 => ?_) (fun h13 => ?_)
                          · refine o_skip rfl rfl (decide_eq_true h13) ?_
                            refine o_skip rfl rfl (decide_eq_true h13) ?_
                            refine o_skip rfl rfl (decide_eq_true h13) ?_
                            refine o_skip rfl rfl (decide_eq_true h13) ?_
                            refine o_pickT (AV.lit (.bool true)) Gd.none rfl (decide_eq_true h13) rfl ?_
                            refine o_mv (AV.lit (.bool true)) rfl ?_
                            refine o_skip rfl rfl rfl ?_
                            refine o_skip rfl rfl rfl ?_
                            refine o_skip rfl rfl rfl ?_
                            refine o_pickT (AV.lit (.bool true)) Gd.none rfl rfl rfl ?_
                            refine o_mv (AV.lit (.bool true)) rfl ?_
                            refine o_skip rfl rfl rfl ?_
                            refine o_skip rfl rfl rfl ?_
                            refine o_skip rfl rfl rfl ?_
                            refine o_skip rfl rfl rfl ?_
                            refine o_pickT (AV.lit (.bool true)) Gd.none rfl rfl rfl ?_
                            refine o_mv (AV.lit (.bool true)) rfl ?_
                            refine o_skip rfl rfl rfl ?_
                            refine o_skip rfl rfl rfl ?_
                            refine o_skip rfl rfl rfl ?_
                            refine o_skip rfl rfl rfl ?_
                            refine o_skipU rfl rfl ?_
                            refine o_skipU rfl rfl ?_
                            refine o_skipU rfl rfl ?_
                            refine o_skip rfl rfl rfl ?_
                            refine o_pickT (AV.lit (.bool true)) Gd.none rfl rfl rfl ?_
                            refine aops_end ?_
                            refine hK17 _ ?_
                            refine awp_condB (b := true) rfl (fun _ => ?_) (fun hh => absurd (hh.symm.trans rfl) (by decide))
                            refine awp_seq fun K21 hK21 => ?_
                            refine awp_region rfl ?_
                            refine o_as (AV.lit (.bool false)) rfl ?_
                            refine aops_end ?_
                            refine hK21 _ ?_
                            refine awp_ret ?_
                            refine post_ret ⟨[(AV.lit (.bool false))], And.intro (AV.le_refl _) (trivial), rfl, ?_⟩
                            first | exact bpy ⟨⟨by omega, by omega, by omega, by omega, fun x hx => by obtain ⟨k, hk, rfl⟩ := List.getElem_of_mem hx; have := hb k (by omega); rwa [List.getD_eq_getElem?_getD, List.getElem?_eq_getElem hk] at this⟩, ⟨by omega, by omega⟩, by omega, fun x hx => by obtain ⟨k, hk, rfl⟩ := List.getElem_of_mem hx; have := hg k (by omega); rwa [List.getD_eq_getElem?_getD, List.getElem?_eq_getElem hk] at this⟩ | exact bpn (fun o => by obtain ⟨⟨o1, o2, o3, o4, o5⟩, q1, q2, q3⟩ := o; unfold plc at q1; omega) | exact bpn (fun o => by have hx := o.1.2.2.2.2 _ (gdm (d := default) (show i < m.code.length by omega)); clear hb o; unfold insP plc at hx; omega) | exact bpn (fun o => by have q := o.2.2.2 _ (gdm (d := 0) (show j < c.regs.length by omega)); unfold regP at q; omega)
                          · refine o_fieldRef 2 (Gd.yes rfl rfl (decide_eq_false h13)) Zd_tF57_2 rfl rfl ?_
                            refine o_loadS (AV.lit (.int .i64 ((((m.code).getD (i) default)).next))) (Gd.yes rfl rfl (decide_eq_false h13)) Zd_tS3 rfl rfl rfl ?_
                            refine o_move (nm .i64 (m.code.length)) (Gd.yes rfl rfl (decide_eq_false h13)) rfl ?_
                            refine o_gtr (a := ((((m.code).getD (i) default)).next)) (c := (((m.code.length : Nat) : Int))) (Gd.yes rfl rfl (decide_eq_false h13)) rfl rfl ?_
                            refine o_pickF (bp ((((m.code.length : Nat) : Int)) < ((((m.code).getD (i) default)).next))) Gd.none rfl (decide_eq_false h13) rfl ?_
                            refine o_mv (bp ((((m.code.length : Nat) : Int)) < ((((m.code).getD (i) default)).next))) rfl ?_
                            refine o_splitP (q := (((m.code.length : Nat) : Int)) < ((((m.code).getD (i) default)).next)) 88 rfl (fun h14 => ?_) (fun h14 => ?_)
                            · refine o_skip rfl rfl (decide_eq_true h14) ?_
                              refine o_skip rfl rfl (decide_eq_true h14) ?_
                              refine o_skip rfl rfl (decide_eq_true h14) ?_
                              refine o_pickT (AV.lit (.bool true)) Gd.none rfl (decide_eq_true h14) rfl ?_
                              refine o_mv (AV.lit (.bool true)) rfl ?_
                              refine o_skip rfl rfl rfl ?_
                              refine o_skip rfl rfl rfl ?_
                              refine o_skip rfl rfl rfl ?_
                              refine o_skip rfl rfl rfl ?_
                              refine o_pickT (AV.lit (.bool true)) Gd.none rfl rfl rfl ?_
                              refine o_mv (AV.lit (.bool true)) rfl ?_
                              refine o_skip rfl rfl rfl ?_
                              refine o_skip rfl rfl rfl ?_
                              refine o_skip rfl rfl rfl ?_
                              refine o_skip rfl rfl rfl ?_
                              refine o_skipU rfl rfl ?_
                              refine o_skipU rfl rfl ?_
                              refine o_skipU rfl rfl ?_
                              refine o_skip rfl rfl rfl ?_
                              refine o_pickT (AV.lit (.bool true)) Gd.none rfl rfl rfl ?_
                              refine aops_end ?_
                              refine hK17 _ ?_
                              refine awp_condB (b := true) rfl (fun _ => ?_) (fun hh => absurd (hh.symm.trans rfl) (by decide))
                              refine awp_seq fun K22 hK22 => ?_
                              refine awp_region rfl ?_
                              refine o_as (AV.lit (.bool false)) rfl ?_
                              refine aops_end ?_
                              refine hK22 _ ?_
                              refine awp_ret ?_
                              refine post_ret ⟨[(AV.lit (.bool false))], And.intro (AV.le_refl _) (trivial), rfl, ?_⟩
                              first | exact bpy ⟨⟨by omega, by omega, by omega, by omega, fun x hx => by obtain ⟨k, hk, rfl⟩ := List.getElem_of_mem hx; have := hb k (by omega); rwa [List.getD_eq_getElem?_getD, List.getElem?_eq_getElem hk] at this⟩, ⟨by omega, by omega⟩, by omega, fun x hx => by obtain ⟨k, hk, rfl⟩ := List.getElem_of_mem hx; have := hg k (by omega); rwa [List.getD_eq_getElem?_getD, List.getElem?_eq_getElem hk] at this⟩ | exact bpn (fun o => by obtain ⟨⟨o1, o2, o3, o4, o5⟩, q1, q2, q3⟩ := o; unfold plc at q1; omega) | exact bpn (fun o => by have hx := o.1.2.2.2.2 _ (gdm (d := default) (show i < m.code.length by omega)); clear hb o; unfold insP plc at hx; omega) | exact bpn (fun o => by have q := o.2.2.2 _ (gdm (d := 0) (show j < c.regs.length by omega)); unfold regP at q; omega)
                            · refine o_fieldRef 3 (Gd.yes rfl rfl (decide_eq_false h14)) Zd_tF57_3 rfl rfl ?_
                              refine o_loadS (AV.lit (.int .i64 ((((m.code).getD (i) default)).els))) (Gd.yes rfl rfl (decide_eq_false h14)) Zd_tS3 rfl rfl rfl ?_
                              refine o_lss (a := ((((m.code).getD (i) default)).els)) (c := (((0 : Nat) : Int))) (Gd.yes rfl rfl (decide_eq_false h14)) rfl rfl ?_
                              refine o_pickF (bp (((((m.code).getD (i) default)).els) < (((0 : Nat) : Int)))) Gd.none rfl (decide_eq_false h14) rfl ?_
                              refine o_mv (bp (((((m.code).getD (i) default)).els) < (((0 : Nat) : Int)))) rfl ?_
                              refine o_splitP (q := ((((m.code).getD (i) default)).els) < (((0 : Nat) : Int))) 93 rfl (fun h15 => ?_) (fun h15 => ?_)
                              · refine o_skip rfl rfl (decide_eq_true h15) ?_
                                refine o_skip rfl rfl (decide_eq_true h15) ?_
                                refine o_skip rfl rfl (decide_eq_true h15) ?_
                                refine o_skip rfl rfl (decide_eq_true h15) ?_
                                refine o_pickT (AV.lit (.bool true)) Gd.none rfl (decide_eq_true h15) rfl ?_
                                refine o_mv (AV.lit (.bool true)) rfl ?_
                                refine o_skip rfl rfl rfl ?_
                                refine o_skip rfl rfl rfl ?_
                                refine o_skip rfl rfl rfl ?_
                                refine o_skip rfl rfl rfl ?_
                                refine o_skipU rfl rfl ?_
                                refine o_skipU rfl rfl ?_
                                refine o_skipU rfl rfl ?_
                                refine o_skip rfl rfl rfl ?_
                                refine o_pickT (AV.lit (.bool true)) Gd.none rfl rfl rfl ?_
                                refine aops_end ?_
                                refine hK17 _ ?_
                                refine awp_condB (b := true) rfl (fun _ => ?_) (fun hh => absurd (hh.symm.trans rfl) (by decide))
                                refine awp_seq fun K23 hK23 => ?_
                                refine awp_region rfl ?_
                                refine o_as (AV.lit (.bool false)) rfl ?_
                                refine aops_end ?_
                                refine hK23 _ ?_
                                refine awp_ret ?_
                                refine post_ret ⟨[(AV.lit (.bool false))], And.intro (AV.le_refl _) (trivial), rfl, ?_⟩
                                first | exact bpy ⟨⟨by omega, by omega, by omega, by omega, fun x hx => by obtain ⟨k, hk, rfl⟩ := List.getElem_of_mem hx; have := hb k (by omega); rwa [List.getD_eq_getElem?_getD, List.getElem?_eq_getElem hk] at this⟩, ⟨by omega, by omega⟩, by omega, fun x hx => by obtain ⟨k, hk, rfl⟩ := List.getElem_of_mem hx; have := hg k (by omega); rwa [List.getD_eq_getElem?_getD, List.getElem?_eq_getElem hk] at this⟩ | exact bpn (fun o => by obtain ⟨⟨o1, o2, o3, o4, o5⟩, q1, q2, q3⟩ := o; unfold plc at q1; omega) | exact bpn (fun o => by have hx := o.1.2.2.2.2 _ (gdm (d := default) (show i < m.code.length by omega)); clear hb o; unfold insP plc at hx; omega) | exact bpn (fun o => by have q := o.2.2.2 _ (gdm (d := 0) (show j < c.regs.length by omega)); unfold regP at q; omega)
                              · refine o_fieldRef 3 (Gd.yes rfl rfl (decide_eq_false h15)) Zd_tF57_3 rfl rfl ?_
                                refine o_loadS (AV.lit (.int .i64 ((((m.code).getD (i) default)).els))) (Gd.yes rfl rfl (decide_eq_false h15)) Zd_tS3 rfl rfl rfl ?_
                                refine o_move (nm .i64 (m.code.length)) (Gd.yes rfl rfl (decide_eq_false h15)) rfl ?_
                                refine o_gtr (a := ((((m.code).getD (i) default)).els)) (c := (((m.code.length : Nat) : Int))) (Gd.yes rfl rfl (decide_eq_false h15)) rfl rfl ?_
                                refine o_pickF (bp ((((m.code.length : Nat) : Int)) < ((((m.code).getD (i) default)).els))) Gd.none rfl (decide_eq_false h15) rfl ?_
                                refine o_mv (bp ((((m.code.length : Nat) : Int)) < ((((m.code).getD (i) default)).els))) rfl ?_
                                refine o_splitP (q := (((m.code.length : Nat) : Int)) < ((((m.code).getD (i) default)).els)) 99 rfl (fun h16 => ?_) (fun h16 => ?_)
                                · refine o_skip rfl rfl (decide_eq_true h16) ?_
                                  refine o_skip rfl rfl (decide_eq_true h16) ?_
                                  refine o_skip rfl rfl (decide_eq_true h16) ?_
                                  refine o_skip rfl rfl (decide_eq_true h16) ?_
                                  refine o_skipU rfl rfl ?_
                                  refine o_skipU rfl rfl ?_
                                  refine o_skipU rfl rfl ?_
                                  refine o_skip rfl rfl (decide_eq_true h16) ?_
                                  refine o_pickT (AV.lit (.bool true)) Gd.none rfl (decide_eq_true h16) rfl ?_
                                  refine aops_end ?_
                                  refine hK17 _ ?_
                                  refine awp_condB (b := true) rfl (fun _ => ?_) (fun hh => absurd (hh.symm.trans rfl) (by decide))
                                  refine awp_seq fun K24 hK24 => ?_
                                  refine awp_region rfl ?_
                                  refine o_as (AV.lit (.bool false)) rfl ?_
                                  refine aops_end ?_
                                  refine hK24 _ ?_
                                  refine awp_ret ?_
                                  refine post_ret ⟨[(AV.lit (.bool false))], And.intro (AV.le_refl _) (trivial), rfl, ?_⟩
                                  first | exact bpy ⟨⟨by omega, by omega, by omega, by omega, fun x hx => by obtain ⟨k, hk, rfl⟩ := List.getElem_of_mem hx; have := hb k (by omega); rwa [List.getD_eq_getElem?_getD, List.getElem?_eq_getElem hk] at this⟩, ⟨by omega, by omega⟩, by omega, fun x hx => by obtain ⟨k, hk, rfl⟩ := List.getElem_of_mem hx; have := hg k (by omega); rwa [List.getD_eq_getElem?_getD, List.getElem?_eq_getElem hk] at this⟩ | exact bpn (fun o => by obtain ⟨⟨o1, o2, o3, o4, o5⟩, q1, q2, q3⟩ := o; unfold plc at q1; omega) | exact bpn (fun o => by have hx := o.1.2.2.2.2 _ (gdm (d := default) (show i < m.code.length by omega)); clear hb o; unfold insP plc at hx; omega) | exact bpn (fun o => by have q := o.2.2.2 _ (gdm (d := 0) (show j < c.regs.length by omega)); unfold regP at q; omega)
                                · refine o_fieldRef 0 (Gd.yes rfl rfl (decide_eq_false h16)) Zd_tF57_0 rfl rfl ?_
                                  refine o_loadS (AV.lit (.int .i64 ((((m.code).getD (i) default)).kind))) (Gd.yes rfl rfl (decide_eq_false h16)) Zd_tS3 rfl rfl rfl ?_
                                  refine o_eql (a := ((((m.code).getD (i) default)).kind)) (c := (((0 : Nat) : Int))) (Gd.yes rfl rfl (decide_eq_false h16)) rfl rfl ?_
                                  refine o_move (bp (((((m.code).getD (i) default)).kind) = (((0 : Nat) : Int)))) (Gd.yes rfl rfl (decide_eq_false h16)) rfl ?_
                                  refine o_skip rfl rfl (decide_eq_false h9) ?_
                                  refine o_skip rfl rfl (decide_eq_false h9) ?_
                                  refine o_skip rfl rfl (decide_eq_false h9) ?_
                                  refine o_pickF (AV.lit (.bool false)) (Gd.yes rfl rfl (decide_eq_false h16)) rfl (decide_eq_false h9) rfl ?_
                                  refine o_pickF (AV.lit (.bool false)) Gd.none rfl (decide_eq_false h16) rfl ?_
                                  refine aops_end ?_
                                  refine hK17 _ ?_
                                  refine awp_condB (b := false) rfl (fun hh => absurd (hh.symm.trans rfl) (by decide)) (fun _ => ?_)
                                  refine awp_skip ?_
                                  refine hK15 _ ?_
                                  refine awp_region rfl ?_
                                  refine o_mv (nm .i64 (i)) rfl ?_
                                  refine n_add (i) (1) Gd.none rfl rfl (by simp only [topOf]; omega) ?_
                                  refine o_as (nm .i64 ((i) + (1))) rfl ?_
                                  refine aops_end ?_
                                  refine ⟨_, _, ?lt, ⟨i + 1, (by omega), (fun k hk => by rcases Nat.lt_or_ge k i with e | e; exact hb k e; rw [show k = i by omega]; clear hb; unfold insP plc; omega), rfl, rfl⟩, ?wk⟩
                                  case lt => omega
                                  case wk => exact Wk.sub (And.intro rfl (And.intro rfl (And.intro rfl (And.intro (by first | rfl | exact congrArg (nm _) (by omega) | exact nm_int (by omega) | exact nm_int (by simp [IntKind.wrap, IntKind.bits, IntKind.signed]; omega)) (trivial))))) (And.intro rfl (And.intro rfl (trivial)))
                  · refine o_skip rfl rfl (decide_eq_false h9) ?_
                    refine o_skip rfl rfl (decide_eq_false h9) ?_
                    refine o_skip rfl rfl (decide_eq_false h9) ?_
                    refine o_pickF (AV.lit (.bool false)) Gd.none rfl (decide_eq_false h9) rfl ?_
                    refine o_mv (AV.lit (.bool false)) rfl ?_
                    refine o_fieldRef 1 (Gd.yes rfl rfl rfl) Zd_tF57_1 rfl rfl ?_
                    refine o_loadS (AV.lit (.int .i64 ((((m.code).getD (i) default)).reg))) (Gd.yes rfl rfl rfl) Zd_tS3 rfl rfl rfl ?_
                    refine o_lss (a := ((((m.code).getD (i) default)).reg)) (c := (((0 : Nat) : Int))) (Gd.yes rfl rfl rfl) rfl rfl ?_
                    refine o_pickF (bp (((((m.code).getD (i) default)).reg) < (((0 : Nat) : Int)))) Gd.none rfl rfl rfl ?_
                    refine o_mv (bp (((((m.code).getD (i) default)).reg) < (((0 : Nat) : Int)))) rfl ?_
                    refine o_splitP (q := ((((m.code).getD (i) default)).reg) < (((0 : Nat) : Int))) 70 rfl (fun h17 => ?_) (fun h17 => ?_)
                    · refine o_skip rfl rfl (decide_eq_true h17) ?_
                      refine o_skip rfl rfl (decide_eq_true h17) ?_
                      refine o_skip rfl rfl (decide_eq_true h17) ?_
                      refine o_skip rfl rfl (decide_eq_true h17) ?_
                      refine o_skip rfl rfl (decide_eq_true h17) ?_
                      refine o_pickT (AV.lit (.bool true)) Gd.none rfl (decide_eq_true h17) rfl ?_
                      refine o_mv (AV.lit (.bool true)) rfl ?_
                      refine o_skip rfl rfl rfl ?_
                      refine o_skip rfl rfl rfl ?_
                      refine o_skip rfl rfl rfl ?_
                      refine o_pickT (AV.lit (.bool true)) Gd.none rfl rfl rfl ?_
                      refine o_mv (AV.lit (.bool true)) rfl ?_
                      refine o_skip rfl rfl rfl ?_
                      refine o_skip rfl rfl rfl ?_
                      refine o_skip rfl rfl rfl ?_
                      refine o_skip rfl rfl rfl ?_
                      refine o_pickT (AV.lit (.bool true)) Gd.none rfl rfl rfl ?_
                      refine o_mv (AV.lit (.bool true)) rfl ?_
                      refine o_skip rfl rfl rfl ?_
                      refine o_skip rfl rfl rfl ?_
                      refine o_skip rfl rfl rfl ?_
                      refine o_pickT (AV.lit (.bool true)) Gd.none rfl rfl rfl ?_
                      refine o_mv (AV.lit (.bool true)) rfl ?_
                      refine o_skip rfl rfl rfl ?_
                      refine o_skip rfl rfl rfl ?_
                      refine o_skip rfl rfl rfl ?_
                      refine o_skip rfl rfl rfl ?_
                      refine o_pickT (AV.lit (.bool true)) Gd.none rfl rfl rfl ?_
                      refine o_mv (AV.lit (.bool true)) rfl ?_
                      refine o_skip rfl rfl rfl ?_
                      refine o_skip rfl rfl rfl ?_
                      refine o_skip rfl rfl rfl ?_
                      refine o_skip rfl rfl rfl ?_
                      refine o_skipU rfl rfl ?_
                      refine o_skipU rfl rfl ?_
                      refine o_skipU rfl rfl ?_
                      refine o_skip rfl rfl rfl ?_
                      refine o_pickT (AV.lit (.bool true)) Gd.none rfl rfl rfl ?_
                      refine aops_end ?_
                      refine hK17 _ ?_
                      refine awp_condB (b := true) rfl (fun _ => ?_) (fun hh => absurd (hh.symm.trans rfl) (by decide))
                      refine awp_seq fun K25 hK25 => ?_
                      refine awp_region rfl ?_
                      refine o_as (AV.lit (.bool false)) rfl ?_
                      refine aops_end ?_
                      refine hK25 _ ?_
                      refine awp_ret ?_
                      refine post_ret ⟨[(AV.lit (.bool false))], And.intro (AV.le_refl _) (trivial), rfl, ?_⟩
                      first | exact bpy ⟨⟨by omega, by omega, by omega, by omega, fun x hx => by obtain ⟨k, hk, rfl⟩ := List.getElem_of_mem hx; have := hb k (by omega); rwa [List.getD_eq_getElem?_getD, List.getElem?_eq_getElem hk] at this⟩, ⟨by omega, by omega⟩, by omega, fun x hx => by obtain ⟨k, hk, rfl⟩ := List.getElem_of_mem hx; have := hg k (by omega); rwa [List.getD_eq_getElem?_getD, List.getElem?_eq_getElem hk] at this⟩ | exact bpn (fun o => by obtain ⟨⟨o1, o2, o3, o4, o5⟩, q1, q2, q3⟩ := o; unfold plc at q1; omega) | exact bpn (fun o => by have hx := o.1.2.2.2.2 _ (gdm (d := default) (show i < m.code.length by omega)); clear hb o; unfold insP plc at hx; omega) | exact bpn (fun o => by have q := o.2.2.2 _ (gdm (d := 0) (show j < c.regs.length by omega)); unfold regP at q; omega)
                    · refine o_fieldRef 1 (Gd.yes rfl rfl (decide_eq_false h17)) Zd_tF57_1 rfl rfl ?_
                      refine o_loadS (AV.lit (.int .i64 ((((m.code).getD (i) default)).reg))) (Gd.yes rfl rfl (decide_eq_false h17)) Zd_tS3 rfl rfl rfl ?_
                      refine o_fieldRef 0 (Gd.yes rfl rfl (decide_eq_false h17)) Zd_tF24_0 rfl rfl ?_
                      refine o_loadS (AV.lit (.int .i64 (m.regs))) (Gd.yes rfl rfl (decide_eq_false h17)) Zd_tS3 rfl rfl rfl ?_
                      refine o_geq (a := ((((m.code).getD (i) default)).reg)) (c := (m.regs)) (Gd.yes rfl rfl (decide_eq_false h17)) rfl rfl ?_
                      refine o_pickF (bp ((m.regs) ≤ ((((m.code).getD (i) default)).reg))) Gd.none rfl (decide_eq_false h17) rfl ?_
                      refine o_mv (bp ((m.regs) ≤ ((((m.code).getD (i) default)).reg))) rfl ?_
                      refine o_splitP (q := (m.regs) ≤ ((((m.code).getD (i) default)).reg)) 77 rfl (fun h18 => ?_) (fun h18 => ?_)
                      · refine o_skip rfl rfl (decide_eq_true h18) ?_
                        refine o_skip rfl rfl (decide_eq_true h18) ?_
                        refine o_skip rfl rfl (decide_eq_true h18) ?_
                        refine o_pickT (AV.lit (.bool true)) Gd.none rfl (decide_eq_true h18) rfl ?_
                        refine o_mv (AV.lit (.bool true)) rfl ?_
                        refine o_skip rfl rfl rfl ?_
                        refine o_skip rfl rfl rfl ?_
                        refine o_skip rfl rfl rfl ?_
                        refine o_skip rfl rfl rfl ?_
                        refine o_pickT (AV.lit (.bool true)) Gd.none rfl rfl rfl ?_
                        refine o_mv (AV.lit (.bool true)) rfl ?_
                        refine o_skip rfl rfl rfl ?_
                        refine o_skip rfl rfl rfl ?_
                        refine o_skip rfl rfl rfl ?_
                        refine o_pickT (AV.lit (.bool true)) Gd.none rfl rfl rfl ?_
                        refine o_mv (AV.lit (.bool true)) rfl ?_
                        refine o_skip rfl rfl rfl ?_
                        refine o_skip rfl rfl rfl ?_
                        refine o_skip rfl rfl rfl ?_
                        refine o_skip rfl rfl rfl ?_
                        refine o_pickT (AV.lit (.bool true)) Gd.none rfl rfl rfl ?_
                        refine o_mv (AV.lit (.bool true)) rfl ?_
                        refine o_skip rfl rfl rfl ?_
                        refine o_skip rfl rfl rfl ?_
                        refine o_skip rfl rfl rfl ?_
                        refine o_skip rfl rfl rfl ?_
                        refine o_skipU rfl rfl ?_
                        refine o_skipU rfl rfl ?_
                        refine o_skipU rfl rfl ?_
                        refine o_skip rfl rfl rfl ?_
                        refine o_pickT (AV.lit (.bool true)) Gd.none rfl rfl rfl ?_
                        refine aops_end ?_
                        refine hK17 _ ?_
                        refine awp_condB (b := true) rfl (fun _ => ?_) (fun hh => absurd (hh.symm.trans rfl) (by decide))
                        refine awp_seq fun K26 hK26 => ?_
                        refine awp_region rfl ?_
                        refine o_as (AV.lit (.bool false)) rfl ?_
                        refine aops_end ?_
                        refine hK26 _ ?_
                        refine awp_ret ?_
                        refine post_ret ⟨[(AV.lit (.bool false))], And.intro (AV.le_refl _) (trivial), rfl, ?_⟩
                        first | exact bpy ⟨⟨by omega, by omega, by omega, by omega, fun x hx => by obtain ⟨k, hk, rfl⟩ := List.getElem_of_mem hx; have := hb k (by omega); rwa [List.getD_eq_getElem?_getD, List.getElem?_eq_getElem hk] at this⟩, ⟨by omega, by omega⟩, by omega, fun x hx => by obtain ⟨k, hk, rfl⟩ := List.getElem_of_mem hx; have := hg k (by omega); rwa [List.getD_eq_getElem?_getD, List.getElem?_eq_getElem hk] at this⟩ | exact bpn (fun o => by obtain ⟨⟨o1, o2, o3, o4, o5⟩, q1, q2, q3⟩ := o; unfold plc at q1; omega) | exact bpn (fun o => by have hx := o.1.2.2.2.2 _ (gdm (d := default) (show i < m.code.length by omega)); clear hb o; unfold insP plc at hx; omega) | exact bpn (fun o => by have q := o.2.2.2 _ (gdm (d := 0) (show j < c.regs.length by omega)); unfold regP at q; omega)
                      · refine o_fieldRef 2 (Gd.yes rfl rfl (decide_eq_false h18)) Zd_tF57_2 rfl rfl ?_
                        refine o_loadS (AV.lit (.int .i64 ((((m.code).getD (i) default)).next))) (Gd.yes rfl rfl (decide_eq_false h18)) Zd_tS3 rfl rfl rfl ?_
                        refine o_lss (a := ((((m.code).getD (i) default)).next)) (c := (((0 : Nat) : Int))) (Gd.yes rfl rfl (decide_eq_false h18)) rfl rfl ?_
                        refine o_pickF (bp (((((m.code).getD (i) default)).next) < (((0 : Nat) : Int)))) Gd.none rfl (decide_eq_false h18) rfl ?_
                        refine o_mv (bp (((((m.code).getD (i) default)).next) < (((0 : Nat) : Int)))) rfl ?_
                        refine o_splitP (q := ((((m.code).getD (i) default)).next) < (((0 : Nat) : Int))) 82 rfl (fun h19 => ?_) (fun h19 => ?_)
                        · refine o_skip rfl rfl (decide_eq_true h19) ?_
                          refine o_skip rfl rfl (decide_eq_true h19) ?_
                          refine o_skip rfl rfl (decide_eq_true h19) ?_
                          refine o_skip rfl rfl (decide_eq_true h19) ?_
                          refine o_pickT (AV.lit (.bool true)) Gd.none rfl (decide_eq_true h19) rfl ?_
                          refine o_mv (AV.lit (.bool true)) rfl ?_
                          refine o_skip rfl rfl rfl ?_
                          refine o_skip rfl rfl rfl ?_
                          refine o_skip rfl rfl rfl ?_
                          refine o_pickT (AV.lit (.bool true)) Gd.none rfl rfl rfl ?_
                          refine o_mv (AV.lit (.bool true)) rfl ?_
                          refine o_skip rfl rfl rfl ?_
                          refine o_skip rfl rfl rfl ?_
                          refine o_skip rfl rfl rfl ?_
                          refine o_skip rfl rfl rfl ?_
                          refine o_pickT (AV.lit (.bool true)) Gd.none rfl rfl rfl ?_
                          refine o_mv (AV.lit (.bool true)) rfl ?_
                          refine o_skip rfl rfl rfl ?_
                          refine o_skip rfl rfl rfl ?_
                          refine o_skip rfl rfl rfl ?_
                          refine o_skip rfl rfl rfl ?_
                          refine o_skipU rfl rfl ?_
                          refine o_skipU rfl rfl ?_
                          refine o_skipU rfl rfl ?_
                          refine o_skip rfl rfl rfl ?_
                          refine o_pickT (AV.lit (.bool true)) Gd.none rfl rfl rfl ?_
                          refine aops_end ?_
                          refine hK17 _ ?_
                          refine awp_condB (b := true) rfl (fun _ => ?_) (fun hh => absurd (hh.symm.trans rfl) (by decide))
                          refine awp_seq fun K27 hK27 => ?_
                          refine awp_region rfl ?_
                          refine o_as (AV.lit (.bool false)) rfl ?_
                          refine aops_end ?_
                          refine hK27 _ ?_
                          refine awp_ret ?_
                          refine post_ret ⟨[(AV.lit (.bool false))], And.intro (AV.le_refl _) (trivial), rfl, ?_⟩
                          first | exact bpy ⟨⟨by omega, by omega, by omega, by omega, fun x hx => by obtain ⟨k, hk, rfl⟩ := List.getElem_of_mem hx; have := hb k (by omega); rwa [List.getD_eq_getElem?_getD, List.getElem?_eq_getElem hk] at this⟩, ⟨by omega, by omega⟩, by omega, fun x hx => by obtain ⟨k, hk, rfl⟩ := List.getElem_of_mem hx; have := hg k (by omega); rwa [List.getD_eq_getElem?_getD, List.getElem?_eq_getElem hk] at this⟩ | exact bpn (fun o => by obtain ⟨⟨o1, o2, o3, o4, o5⟩, q1, q2, q3⟩ := o; unfold plc at q1; omega) | exact bpn (fun o => by have hx := o.1.2.2.2.2 _ (gdm (d := default) (show i < m.code.length by omega)); clear hb o; unfold insP plc at hx; omega) | exact bpn (fun o => by have q := o.2.2.2 _ (gdm (d := 0) (show j < c.regs.length by omega)); unfold regP at q; omega)
                        · refine o_fieldRef 2 (Gd.yes rfl rfl (decide_eq_false h19)) Zd_tF57_2 rfl rfl ?_
                          refine o_loadS (AV.lit (.int .i64 ((((m.code).getD (i) default)).next))) (Gd.yes rfl rfl (decide_eq_false h19)) Zd_tS3 rfl rfl rfl ?_
                          refine o_move (nm .i64 (m.code.length)) (Gd.yes rfl rfl (decide_eq_false h19)) rfl ?_
                          refine o_gtr (a := ((((m.code).getD (i) default)).next)) (c := (((m.code.length : Nat) : Int))) (Gd.yes rfl rfl (decide_eq_false h19)) rfl rfl ?_
                          refine o_pickF (bp ((((m.code.length : Nat) : Int)) < ((((m.code).getD (i) default)).next))) Gd.none rfl (decide_eq_false h19) rfl ?_
                          refine o_mv (bp ((((m.code.length : Nat) : Int)) < ((((m.code).getD (i) default)).next))) rfl ?_
                          refine o_splitP (q := (((m.code.length : Nat) : Int)) < ((((m.code).getD (i) default)).next)) 88 rfl (fun h20 => ?_) (fun h20 => ?_)
                          · refine o_skip rfl rfl (decide_eq_true h20) ?_
                            refine o_skip rfl rfl (decide_eq_true h20) ?_
                            refine o_skip rfl rfl (decide_eq_true h20) ?_
                            refine o_pickT (AV.lit (.bool true)) Gd.none rfl (decide_eq_true h20) rfl ?_
                            refine o_mv (AV.lit (.bool true)) rfl ?_
                            refine o_skip rfl rfl rfl ?_
                            refine o_skip rfl rfl rfl ?_
                            refine o_skip rfl rfl rfl ?_
                            refine o_skip rfl rfl rfl ?_
                            refine o_pickT (AV.lit (.bool true)) Gd.none rfl rfl rfl ?_
                            refine o_mv (AV.lit (.bool true)) rfl ?_
                            refine o_skip rfl rfl rfl ?_
                            refine o_skip rfl rfl rfl ?_
                            refine o_skip rfl rfl rfl ?_
                            refine o_skip rfl rfl rfl ?_
                            refine o_skipU rfl rfl ?_
                            refine o_skipU rfl rfl ?_
                            refine o_skipU rfl rfl ?_
                            refine o_skip rfl rfl rfl ?_
                            refine o_pickT (AV.lit (.bool true)) Gd.none rfl rfl rfl ?_
                            refine aops_end ?_
                            refine hK17 _ ?_
                            refine awp_condB (b := true) rfl (fun _ => ?_) (fun hh => absurd (hh.symm.trans rfl) (by decide))
                            refine awp_seq fun K28 hK28 => ?_
                            refine awp_region rfl ?_
                            refine o_as (AV.lit (.bool false)) rfl ?_
                            refine aops_end ?_
                            refine hK28 _ ?_
                            refine awp_ret ?_
                            refine post_ret ⟨[(AV.lit (.bool false))], And.intro (AV.le_refl _) (trivial), rfl, ?_⟩
                            first | exact bpy ⟨⟨by omega, by omega, by omega, by omega, fun x hx => by obtain ⟨k, hk, rfl⟩ := List.getElem_of_mem hx; have := hb k (by omega); rwa [List.getD_eq_getElem?_getD, List.getElem?_eq_getElem hk] at this⟩, ⟨by omega, by omega⟩, by omega, fun x hx => by obtain ⟨k, hk, rfl⟩ := List.getElem_of_mem hx; have := hg k (by omega); rwa [List.getD_eq_getElem?_getD, List.getElem?_eq_getElem hk] at this⟩ | exact bpn (fun o => by obtain ⟨⟨o1, o2, o3, o4, o5⟩, q1, q2, q3⟩ := o; unfold plc at q1; omega) | exact bpn (fun o => by have hx := o.1.2.2.2.2 _ (gdm (d := default) (show i < m.code.length by omega)); clear hb o; unfold insP plc at hx; omega) | exact bpn (fun o => by have q := o.2.2.2 _ (gdm (d := 0) (show j < c.regs.length by omega)); unfold regP at q; omega)
                          · refine o_fieldRef 3 (Gd.yes rfl rfl (decide_eq_false h20)) Zd_tF57_3 rfl rfl ?_
                            refine o_loadS (AV.lit (.int .i64 ((((m.code).getD (i) default)).els))) (Gd.yes rfl rfl (decide_eq_false h20)) Zd_tS3 rfl rfl rfl ?_
                            refine o_lss (a := ((((m.code).getD (i) default)).els)) (c := (((0 : Nat) : Int))) (Gd.yes rfl rfl (decide_eq_false h20)) rfl rfl ?_
                            refine o_pickF (bp (((((m.code).getD (i) default)).els) < (((0 : Nat) : Int)))) Gd.none rfl (decide_eq_false h20) rfl ?_
                            refine o_mv (bp (((((m.code).getD (i) default)).els) < (((0 : Nat) : Int)))) rfl ?_
                            refine o_splitP (q := ((((m.code).getD (i) default)).els) < (((0 : Nat) : Int))) 93 rfl (fun h21 => ?_) (fun h21 => ?_)
                            · refine o_skip rfl rfl (decide_eq_true h21) ?_
                              refine o_skip rfl rfl (decide_eq_true h21) ?_
                              refine o_skip rfl rfl (decide_eq_true h21) ?_
                              refine o_skip rfl rfl (decide_eq_true h21) ?_
                              refine o_pickT (AV.lit (.bool true)) Gd.none rfl (decide_eq_true h21) rfl ?_
                              refine o_mv (AV.lit (.bool true)) rfl ?_
                              refine o_skip rfl rfl rfl ?_
                              refine o_skip rfl rfl rfl ?_
                              refine o_skip rfl rfl rfl ?_
                              refine o_skip rfl rfl rfl ?_
                              refine o_skipU rfl rfl ?_
                              refine o_skipU rfl rfl ?_
                              refine o_skipU rfl rfl ?_
                              refine o_skip rfl rfl rfl ?_
                              refine o_pickT (AV.lit (.bool true)) Gd.none rfl rfl rfl ?_
                              refine aops_end ?_
                              refine hK17 _ ?_
                              refine awp_condB (b := true) rfl (fun _ => ?_) (fun hh => absurd (hh.symm.trans rfl) (by decide))
                              refine awp_seq fun K29 hK29 => ?_
                              refine awp_region rfl ?_
                              refine o_as (AV.lit (.bool false)) rfl ?_
                              refine aops_end ?_
                              refine hK29 _ ?_
                              refine awp_ret ?_
                              refine post_ret ⟨[(AV.lit (.bool false))], And.intro (AV.le_refl _) (trivial), rfl, ?_⟩
                              first | exact bpy ⟨⟨by omega, by omega, by omega, by omega, fun x hx => by obtain ⟨k, hk, rfl⟩ := List.getElem_of_mem hx; have := hb k (by omega); rwa [List.getD_eq_getElem?_getD, List.getElem?_eq_getElem hk] at this⟩, ⟨by omega, by omega⟩, by omega, fun x hx => by obtain ⟨k, hk, rfl⟩ := List.getElem_of_mem hx; have := hg k (by omega); rwa [List.getD_eq_getElem?_getD, List.getElem?_eq_getElem hk] at this⟩ | exact bpn (fun o => by obtain ⟨⟨o1, o2, o3, o4, o5⟩, q1, q2, q3⟩ := o; unfold plc at q1; omega) | exact bpn (fun o => by have hx := o.1.2.2.2.2 _ (gdm (d := default) (show i < m.code.length by omega)); clear hb o; unfold insP plc at hx; omega) | exact bpn (fun o => by have q := o.2.2.2 _ (gdm (d := 0) (show j < c.regs.length by omega)); unfold regP at q; omega)
                            · refine o_fieldRef 3 (Gd.yes rfl rfl (decide_eq_false h21)) Zd_tF57_3 rfl rfl ?_
                              refine o_loadS (AV.lit (.int .i64 ((((m.code).getD (i) default)).els))) (Gd.yes rfl rfl (decide_eq_false h21)) Zd_tS3 rfl rfl rfl ?_
                              refine o_move (nm .i64 (m.code.length)) (Gd.yes rfl rfl (decide_eq_false h21)) rfl ?_
                              refine o_gtr (a := ((((m.code).getD (i) default)).els)) (c := (((m.code.length : Nat) : Int))) (Gd.yes rfl rfl (decide_eq_false h21)) rfl rfl ?_
                              refine o_pickF (bp ((((m.code.length : Nat) : Int)) < ((((m.code).getD (i) default)).els))) Gd.none rfl (decide_eq_false h21) rfl ?_
                              refine o_mv (bp ((((m.code.length : Nat) : Int)) < ((((m.code).getD (i) default)).els))) rfl ?_
                              refine o_splitP (q := (((m.code.length : Nat) : Int)) < ((((m.code).getD (i) default)).els)) 99 rfl (fun h22 => ?_) (fun h22 => ?_)
                              · refine o_skip rfl rfl (decide_eq_true h22) ?_
                                refine o_skip rfl rfl (decide_eq_true h22) ?_
                                refine o_skip rfl rfl (decide_eq_true h22) ?_
                                refine o_skip rfl rfl (decide_eq_true h22) ?_
                                refine o_skipU rfl rfl ?_
                                refine o_skipU rfl rfl ?_
                                refine o_skipU rfl rfl ?_
                                refine o_skip rfl rfl (decide_eq_true h22) ?_
                                refine o_pickT (AV.lit (.bool true)) Gd.none rfl (decide_eq_true h22) rfl ?_
                                refine aops_end ?_
                                refine hK17 _ ?_
                                refine awp_condB (b := true) rfl (fun _ => ?_) (fun hh => absurd (hh.symm.trans rfl) (by decide))
                                refine awp_seq fun K30 hK30 => ?_
                                refine awp_region rfl ?_
                                refine o_as (AV.lit (.bool false)) rfl ?_
                                refine aops_end ?_
                                refine hK30 _ ?_
                                refine awp_ret ?_
                                refine post_ret ⟨[(AV.lit (.bool false))], And.intro (AV.le_refl _) (trivial), rfl, ?_⟩
                                first | exact bpy ⟨⟨by omega, by omega, by omega, by omega, fun x hx => by obtain ⟨k, hk, rfl⟩ := List.getElem_of_mem hx; have := hb k (by omega); rwa [List.getD_eq_getElem?_getD, List.getElem?_eq_getElem hk] at this⟩, ⟨by omega, by omega⟩, by omega, fun x hx => by obtain ⟨k, hk, rfl⟩ := List.getElem_of_mem hx; have := hg k (by omega); rwa [List.getD_eq_getElem?_getD, List.getElem?_eq_getElem hk] at this⟩ | exact bpn (fun o => by obtain ⟨⟨o1, o2, o3, o4, o5⟩, q1, q2, q3⟩ := o; unfold plc at q1; omega) | exact bpn (fun o => by have hx := o.1.2.2.2.2 _ (gdm (d := default) (show i < m.code.length by omega)); clear hb o; unfold insP plc at hx; omega) | exact bpn (fun o => by have q := o.2.2.2 _ (gdm (d := 0) (show j < c.regs.length by omega)); unfold regP at q; omega)
                              · refine o_fieldRef 0 (Gd.yes rfl rfl (decide_eq_false h22)) Zd_tF57_0 rfl rfl ?_
                                refine o_loadS (AV.lit (.int .i64 ((((m.code).getD (i) default)).kind))) (Gd.yes rfl rfl (decide_eq_false h22)) Zd_tS3 rfl rfl rfl ?_
                                refine o_eql (a := ((((m.code).getD (i) default)).kind)) (c := (((0 : Nat) : Int))) (Gd.yes rfl rfl (decide_eq_false h22)) rfl rfl ?_
                                refine o_move (bp (((((m.code).getD (i) default)).kind) = (((0 : Nat) : Int)))) (Gd.yes rfl rfl (decide_eq_false h22)) rfl ?_
                                refine o_fieldRef 3 (Gd.yes rfl rfl (decide_eq_true (Decidable.not_not.1 h9))) Zd_tF57_3 rfl rfl ?_
                                refine o_loadS (AV.lit (.int .i64 ((((m.code).getD (i) default)).els))) (Gd.yes rfl rfl (decide_eq_true (Decidable.not_not.1 h9))) Zd_tS3 rfl rfl rfl ?_
                                refine o_neq (a := ((((m.code).getD (i) default)).els)) (c := (((0 : Nat) : Int))) (Gd.yes rfl rfl (decide_eq_true (Decidable.not_not.1 h9))) rfl rfl ?_
                                refine o_pickT (bp (((((m.code).getD (i) default)).els) ≠ (((0 : Nat) : Int)))) (Gd.yes rfl rfl (decide_eq_false h22)) rfl (decide_eq_true (Decidable.not_not.1 h9)) rfl ?_
                                refine o_pickF (bp (((((m.code).getD (i) default)).els) ≠ (((0 : Nat) : Int)))) Gd.none rfl (decide_eq_false h22) rfl ?_
                                refine aops_end ?_
                                refine hK17 _ ?_
                                refine awp_condQ (q := ((((m.code).getD (i) default)).els) ≠ (((0 : Nat) : Int))) rfl (fun h23 => ?_) (fun h23 => ?_)
                                · refine awp_seq fun K31 hK31 => ?_
                                  refine awp_region rfl ?_
                                  refine o_as (AV.lit (.bool false)) rfl ?_
                                  refine aops_end ?_
                                  refine hK31 _ ?_
                                  refine awp_ret ?_
                                  refine post_ret ⟨[(AV.lit (.bool false))], And.intro (AV.le_refl _) (trivial), rfl, ?_⟩
                                  first | exact bpy ⟨⟨by omega, by omega, by omega, by omega, fun x hx => by obtain ⟨k, hk, rfl⟩ := List.getElem_of_mem hx; have := hb k (by omega); rwa [List.getD_eq_getElem?_getD, List.getElem?_eq_getElem hk] at this⟩, ⟨by omega, by omega⟩, by omega, fun x hx => by obtain ⟨k, hk, rfl⟩ := List.getElem_of_mem hx; have := hg k (by omega); rwa [List.getD_eq_getElem?_getD, List.getElem?_eq_getElem hk] at this⟩ | exact bpn (fun o => by obtain ⟨⟨o1, o2, o3, o4, o5⟩, q1, q2, q3⟩ := o; unfold plc at q1; omega) | exact bpn (fun o => by have hx := o.1.2.2.2.2 _ (gdm (d := default) (show i < m.code.length by omega)); clear hb o; unfold insP plc at hx; omega) | exact bpn (fun o => by have q := o.2.2.2 _ (gdm (d := 0) (show j < c.regs.length by omega)); unfold regP at q; omega)
                                · refine awp_skip ?_
                                  refine hK15 _ ?_
                                  refine awp_region rfl ?_
                                  refine o_mv (nm .i64 (i)) rfl ?_
                                  refine n_add (i) (1) Gd.none rfl rfl (by simp only [topOf]; omega) ?_
                                  refine o_as (nm .i64 ((i) + (1))) rfl ?_
                                  refine aops_end ?_
                                  refine ⟨_, _, ?lt, ⟨i + 1, (by omega), (fun k hk => by rcases Nat.lt_or_ge k i with e | e; exact hb k e; rw [show k = i by omega]; clear hb; unfold insP plc; omega), rfl, rfl⟩, ?wk⟩
                                  case lt => omega
                                  case wk => exact Wk.sub (And.intro rfl (And.intro rfl (And.intro rfl (And.intro (by first | rfl | exact congrArg (nm _) (by omega) | exact nm_int (by omega) | exact nm_int (by simp [IntKind.wrap, IntKind.bits, IntKind.signed]; omega)) (trivial))))) (And.intro rfl (And.intro rfl (trivial)))
                · refine awp_exit ?_
                  refine hK11 _ ?_
                  refine awp_seq fun K32 hK32 => ?_
                  refine awp_seq fun K33 hK33 => ?_
                  refine awp_region rfl ?_
                  refine o_as (nm .i64 (0)) rfl ?_
                  refine aops_end ?_
                  refine hK33 _ ?_
                  refine awp_block ?_
                  refine awp_loopR (fun κ σ => ∃ (j : Nat), (j ≤ c.regs.length) ∧ (∀ k, k < j → regP (c.regs.getD k 0)) ∧ (c.regs.length - j) = κ ∧ σ = ⟨[(2, (AV.ref 2 (0))), (3, (AV.ref 3 (0))), (8, (nm .i64 (j)))], [(2, (AO.var 24 [(AV.lit (.int .i64 (m.regs))), (AV.sl 4 (gcells cI (m.code)))])), (3, (AO.var 27 [(AV.lit (.int .i64 (c.at'))), (AV.sl 1 (is .i64 (c.regs)))]))]⟩) ⟨_, _, ⟨0, (by omega), (fun k hk => by omega), rfl, rfl⟩, ?wk1⟩ ?rd1
                  case wk1 =>
                    exact Wk.sub (And.intro rfl (And.intro rfl (And.intro (by first | rfl | exact congrArg (nm _) (by omega) | exact nm_int (by omega) | exact nm_int (by simp [IntKind.wrap, IntKind.bits, IntKind.signed]; omega)) (trivial)))) (And.intro rfl (And.intro rfl (trivial)))
                  rintro κ _ ⟨j, hj, hg, rfl, rfl⟩
                  refine awp_seq fun K34 hK34 => ?_
                  refine awp_seq fun K35 hK35 => ?_
                  refine awp_region rfl ?_
                  refine o_mv (nm .i64 (j)) rfl ?_
                  refine o_fieldRef 0 Gd.none Zd_tF24_0 rfl rfl ?_
                  refine o_loadS (AV.lit (.int .i64 (m.regs))) Gd.none Zd_tS3 rfl rfl rfl ?_
                  refine o_lss (a := (((j : Nat) : Int))) (c := (m.regs)) Gd.none rfl rfl ?_
                  refine aops_end ?_
                  refine hK35 _ ?_
                  refine awp_condQ (q := (((j : Nat) : Int)) < (m.regs)) rfl (fun h24 => ?_) (fun h24 => ?_)
                  · refine awp_skip ?_
                    refine hK34 _ ?_
                    refine awp_seq fun K36 hK36 => ?_
                    refine awp_block ?_
                    refine awp_seq fun K37 hK37 => ?_
                    refine awp_region rfl ?_
                    refine o_fieldRef 1 Gd.none Zd_tF27_1 rfl rfl ?_
                    refine o_loadS (AV.sl 1 (is .i64 (c.regs))) Gd.none Zd_tS25 rfl rfl rfl ?_
                    refine o_mv (nm .i64 (j)) rfl ?_
                    refine i_index (c.regs) (j) Gd.none Zd_tE25 rfl rfl (by omega) ?_
                    refine i_loadI (c.regs) (j) Gd.none Zd_tS3 rfl (by omega) ?_
                    refine o_lss (a := ((c.regs).getD (j) 0)) (c := (((0 : Nat) : Int))) Gd.none rfl rfl ?_
                    refine o_mv (bp (((c.regs).getD (j) 0) < (((0 : Nat) : Int)))) rfl ?_
                    refine o_splitP (q := ((c.regs).getD (j) 0) < (((0 : Nat) : Int))) 121 rfl (fun h25 => ?_) (fun h25 => ?_)
                    · refine o_skip rfl rfl (decide_eq_true h25) ?_
                      refine o_skip rfl rfl (decide_eq_true h25) ?_
                      refine o_skip rfl rfl (decide_eq_true h25) ?_
                      refine o_skip rfl rfl (decide_eq_true h25) ?_
                      refine o_skip rfl rfl (decide_eq_true h25) ?_
                      refine o_skip rfl rfl (decide_eq_true h25) ?_
                      refine o_pickT (AV.lit (.bool true)) Gd.none rfl (decide_eq_true h25) rfl ?_
                      refine aops_end ?_
                      refine hK37 _ ?_
                      refine awp_condB (b := true) rfl (fun _ => ?_) (fun hh => absurd (hh.symm.trans rfl) (by decide))
                      refine awp_seq fun K38 hK38 => ?_
                      refine awp_region rfl ?_
                      refine o_as (AV.lit (.bool false)) rfl ?_
                      refine aops_end ?_
                      refine hK38 _ ?_
                      refine awp_ret ?_
                      refine post_ret ⟨[(AV.lit (.bool false))], And.intro (AV.le_refl _) (trivial), rfl, ?_⟩
                      first | exact bpy ⟨⟨by omega, by omega, by omega, by omega, fun x hx => by obtain ⟨k, hk, rfl⟩ := List.getElem_of_mem hx; have := hb k (by omega); rwa [List.getD_eq_getElem?_getD, List.getElem?_eq_getElem hk] at this⟩, ⟨by omega, by omega⟩, by omega, fun x hx => by obtain ⟨k, hk, rfl⟩ := List.getElem_of_mem hx; have := hg k (by omega); rwa [List.getD_eq_getElem?_getD, List.getElem?_eq_getElem hk] at this⟩ | exact bpn (fun o => by obtain ⟨⟨o1, o2, o3, o4, o5⟩, q1, q2, q3⟩ := o; unfold plc at q1; omega) | exact bpn (fun o => by have hx := o.1.2.2.2.2 _ (gdm (d := default) (show i < m.code.length by omega)); clear hb o; unfold insP plc at hx; omega) | exact bpn (fun o => by have q := o.2.2.2 _ (gdm (d := 0) (show j < c.regs.length by omega)); unfold regP at q; omega)
                    · refine o_fieldRef 1 (Gd.yes rfl rfl (decide_eq_false h25)) Zd_tF27_1 rfl rfl ?_
                      refine o_loadS (AV.sl 1 (is .i64 (c.regs))) (Gd.yes rfl rfl (decide_eq_false h25)) Zd_tS25 rfl rfl rfl ?_
                      refine o_move (nm .i64 (j)) (Gd.yes rfl rfl (decide_eq_false h25)) rfl ?_
                      refine i_index (c.regs) (j) (Gd.yes rfl rfl (decide_eq_false h25)) Zd_tE25 rfl rfl (by omega) ?_
                      refine i_loadI (c.regs) (j) (Gd.yes rfl rfl (decide_eq_false h25)) Zd_tS3 rfl (by omega) ?_
                      refine o_gtr (a := ((c.regs).getD (j) 0)) (c := (((1000 : Nat) : Int))) (Gd.yes rfl rfl (decide_eq_false h25)) rfl rfl ?_
                      refine o_pickF (bp ((((1000 : Nat) : Int)) < ((c.regs).getD (j) 0))) Gd.none rfl (decide_eq_false h25) rfl ?_
                      refine aops_end ?_
                      refine hK37 _ ?_
                      refine awp_condQ (q := (((1000 : Nat) : Int)) < ((c.regs).getD (j) 0)) rfl (fun h26 => ?_) (fun h26 => ?_)
                      · refine awp_seq fun K39 hK39 => ?_
                        refine awp_region rfl ?_
                        refine o_as (AV.lit (.bool false)) rfl ?_
                        refine aops_end ?_
                        refine hK39 _ ?_
                        refine awp_ret ?_
                        refine post_ret ⟨[(AV.lit (.bool false))], And.intro (AV.le_refl _) (trivial), rfl, ?_⟩
                        first | exact bpy ⟨⟨by omega, by omega, by omega, by omega, fun x hx => by obtain ⟨k, hk, rfl⟩ := List.getElem_of_mem hx; have := hb k (by omega); rwa [List.getD_eq_getElem?_getD, List.getElem?_eq_getElem hk] at this⟩, ⟨by omega, by omega⟩, by omega, fun x hx => by obtain ⟨k, hk, rfl⟩ := List.getElem_of_mem hx; have := hg k (by omega); rwa [List.getD_eq_getElem?_getD, List.getElem?_eq_getElem hk] at this⟩ | exact bpn (fun o => by obtain ⟨⟨o1, o2, o3, o4, o5⟩, q1, q2, q3⟩ := o; unfold plc at q1; omega) | exact bpn (fun o => by have hx := o.1.2.2.2.2 _ (gdm (d := default) (show i < m.code.length by omega)); clear hb o; unfold insP plc at hx; omega) | exact bpn (fun o => by have q := o.2.2.2 _ (gdm (d := 0) (show j < c.regs.length by omega)); unfold regP at q; omega)
                      · refine awp_skip ?_
                        refine hK36 _ ?_
                        refine awp_region rfl ?_
                        refine o_mv (nm .i64 (j)) rfl ?_
                        refine n_add (j) (1) Gd.none rfl rfl (by simp only [topOf]; omega) ?_
                        refine o_as (nm .i64 ((j) + (1))) rfl ?_
                        refine aops_end ?_
                        refine ⟨_, _, ?lt, ⟨j + 1, (by omega), (fun k hk => by rcases Nat.lt_or_ge k j with e | e; exact hg k e; rw [show k = j by omega]; exact ⟨by omega, by omega⟩), rfl, rfl⟩, ?wk⟩
                        case lt => omega
                        case wk => exact Wk.sub (And.intro rfl (And.intro rfl (And.intro (by first | rfl | exact congrArg (nm _) (by omega) | exact nm_int (by omega) | exact nm_int (by simp [IntKind.wrap, IntKind.bits, IntKind.signed]; omega)) (trivial)))) (And.intro rfl (And.intro rfl (trivial)))
                  · refine awp_exit ?_
                    refine hK32 _ ?_
                    refine awp_seq fun K40 hK40 => ?_
                    refine awp_region rfl ?_
                    refine o_as (AV.lit (.bool true)) rfl ?_
                    refine aops_end ?_
                    refine hK40 _ ?_
                    refine awp_ret ?_
                    refine post_ret ⟨[(AV.lit (.bool true))], And.intro (AV.le_refl _) (trivial), rfl, ?_⟩
                    first | exact bpy ⟨⟨by omega, by omega, by omega, by omega, fun x hx => by obtain ⟨k, hk, rfl⟩ := List.getElem_of_mem hx; have := hb k (by omega); rwa [List.getD_eq_getElem?_getD, List.getElem?_eq_getElem hk] at this⟩, ⟨by omega, by omega⟩, by omega, fun x hx => by obtain ⟨k, hk, rfl⟩ := List.getElem_of_mem hx; have := hg k (by omega); rwa [List.getD_eq_getElem?_getD, List.getElem?_eq_getElem hk] at this⟩ | exact bpn (fun o => by obtain ⟨⟨o1, o2, o3, o4, o5⟩, q1, q2, q3⟩ := o; unfold plc at q1; omega) | exact bpn (fun o => by have hx := o.1.2.2.2.2 _ (gdm (d := default) (show i < m.code.length by omega)); clear hb o; unfold insP plc at hx; omega) | exact bpn (fun o => by have q := o.2.2.2 _ (gdm (d := 0) (show j < c.regs.length by omega)); unfold regP at q; omega)

theorem c_tAct (m : Mac) (c : Cfg) (hC : okCfg m c) : ECalls cx 12 [(macV m), (cfgV c)] (.tup [cfgV (actC m c), bp (stpE m c = 0)]) := by
  refine ecalls_of_awp Tryz.func12 (c := _) rfl (Nat.le_of_ble_eq_true rfl) ?_
  show awp cx 72 _ (postF cx Tryz.f12 _) ⟨[(0, (macV m)), (1, (cfgV c))], []⟩
  have hC2 := hC
  obtain ⟨⟨o1, o2, o3, o4, o5⟩, q1, q2, q3⟩ := hC2
  unfold plc at q1
  refine awp_seq fun K0 hK0 => ?_
  refine awp_region rfl ?_
  refine o_box 2 [(AV.lit (.int .i64 (m.regs))), (AV.sl 4 (gcells cI (m.code)))] Gd.none rfl rfl ?_
  refine o_box 3 [(AV.lit (.int .i64 (c.at'))), (AV.sl 1 (is .i64 (c.regs)))] Gd.none rfl rfl ?_
  refine o_alloc 4 [(nm .i64 (0)), (AV.lit (.slice none 0 0))] Gd.none Zd_tO27 rfl rfl rfl ?_
  refine o_as (AV.lit (.bool false)) rfl ?_
  refine aops_end ?_
  refine hK0 _ ?_
  refine awp_seq fun K1 hK1 => ?_
  refine awp_seq fun K2 hK2 => ?_
  refine awp_region rfl ?_
  refine o_fieldRef 0 Gd.none Zd_tF27_0 rfl rfl ?_
  refine o_loadS (AV.lit (.int .i64 (c.at'))) Gd.none Zd_tS3 rfl rfl rfl ?_
  refine o_fieldRef 1 Gd.none Zd_tF24_1 rfl rfl ?_
  refine o_loadS (AV.sl 4 (gcells cI (m.code))) Gd.none Zd_tS22 rfl rfl rfl ?_
  refine g_len cI (m.code) cI_len Gd.none Zd_tU22 rfl ?_
  refine o_geq (a := (c.at')) (c := ((((m.code).length : Nat) : Int))) Gd.none rfl rfl ?_
  refine aops_end ?_
  refine hK2 _ ?_
  refine awp_condQ (q := ((((m.code).length : Nat) : Int)) ≤ (c.at')) rfl (fun h1 => ?_) (fun h1 => ?_)
  · have he : c.at' = (m.code.length : Int) := by omega
    refine awp_seq fun K3 hK3 => ?_
    refine awp_region rfl ?_
    refine o_loadA [(AV.lit (.int .i64 (c.at'))), (AV.sl 1 (is .i64 (c.regs)))] Gd.none Zd_tA27 rfl rfl rfl rfl rfl ?_
    refine o_store [(4, (AO.var 27 [(AV.lit (.int .i64 (c.at'))), (AV.sl 1 (is .i64 (c.regs)))])), (3, (AO.var 27 [(AV.lit (.int .i64 (c.at'))), (AV.sl 1 (is .i64 (c.regs)))])), (2, (AO.var 24 [(AV.lit (.int .i64 (m.regs))), (AV.sl 4 (gcells cI (m.code)))]))] Gd.none Zd_tZ27 rfl rfl rfl rfl rfl rfl ?_
    refine o_as (AV.lit (.bool false)) rfl ?_
    refine aops_end ?_
    refine hK3 _ ?_
    refine awp_ret ?_
    refine post_ret ⟨[(AV.agg [(AV.lit (.int .i64 (c.at'))), (AV.sl 1 (is .i64 (c.regs)))]), (AV.lit (.bool false))], And.intro ⟨4, (AO.var 27 [(AV.lit (.int .i64 (c.at'))), (AV.sl 1 (is .i64 (c.regs)))]), rfl, rfl, rfl, Or.inl ⟨Zd_tA27, AV.le_refl _⟩⟩ (And.intro (AV.le_refl _) (trivial)), rfl, ?_⟩
    first | (rw [show actC m c = c from if_pos he, bpn (show ¬ stpE m c = 0 by rw [stp_e he]; decide)]; rfl) | (rw [act_go hn]; exact tup_eq2 (congrArg cfgV (show stpC m c = _ from if_pos (show (insAt m c).kind = 0 by assumption))) (bpc (act_a hn (by assumption) a5).symm)) | (rw [act_go hn]; exact tup_eq2 (congrArg cfgV (stp_b hn (by assumption) (by assumption)).2) (bpy (stp_b hn (by assumption) (by assumption)).1)) | (rw [act_go hn]; exact tup_eq2 (congrArg cfgV (stp_c hn (by assumption) (by assumption)).2) (bpy (stp_c hn (by assumption) (by assumption)).1))
  · have hn : ¬ c.at' = (m.code.length : Int) := by omega
    have ha := okC_at hC (by omega)
    obtain ⟨a1, a2, a3, a4, a5⟩ := ha
    have a6 : 0 ≤ (insAt m c).reg := a2.1.1
    have hl4 : c.regs.length ≤ 4 := by omega
    have z3 : ((m.code).getD (c.at'.toNat) default).reg.toNat < c.regs.length := a3
    have z4 : 0 ≤ (c.regs).getD (((m.code).getD (c.at'.toNat) default).reg.toNat) 0 := a4
    have z5 : (c.regs).getD (((m.code).getD (c.at'.toNat) default).reg.toNat) 0 ≤ 1000 := a5
    have z6 : 0 ≤ ((m.code).getD (c.at'.toNat) default).reg := a6
    refine awp_skip ?_
    refine hK1 _ ?_
    refine awp_seq fun K4 hK4 => ?_
    refine awp_region rfl ?_
    refine o_fieldRef 1 Gd.none Zd_tF24_1 rfl rfl ?_
    refine o_loadS (AV.sl 4 (gcells cI (m.code))) Gd.none Zd_tS22 rfl rfl rfl ?_
    refine o_fieldRef 0 Gd.none Zd_tF27_0 rfl rfl ?_
    refine o_loadS (AV.lit (.int .i64 (c.at'))) Gd.none Zd_tS3 rfl rfl rfl ?_
    refine n_as (v' := (nm .i64 (c.at'.toNat))) (nm_int (by omega)) ?_
    refine g_index cI (m.code) (c.at'.toNat) cI_len rfl Gd.none Zd_tE22 rfl rfl (by omega) ?_
    refine g_loadA cI (m.code) (c.at'.toNat) default cI_len Gd.none Zd_tA57 rfl (by omega) ?_
    refine o_alloc 5 [(nm .i64 (0)), (nm .i64 (0)), (nm .i64 (0)), (nm .i64 (0))] Gd.none Zd_tO57 rfl rfl rfl ?_
    refine o_store [(5, (AO.var 57 [(AV.lit (.int .i64 ((((m.code).getD (c.at'.toNat) default)).kind))), (AV.lit (.int .i64 ((((m.code).getD (c.at'.toNat) default)).reg))), (AV.lit (.int .i64 ((((m.code).getD (c.at'.toNat) default)).next))), (AV.lit (.int .i64 ((((m.code).getD (c.at'.toNat) default)).els)))])), (4, (AO.var 27 [(nm .i64 (0)), (AV.lit (.slice none 0 0))])), (3, (AO.var 27 [(AV.lit (.int .i64 (c.at'))), (AV.sl 1 (is .i64 (c.regs)))])), (2, (AO.var 24 [(AV.lit (.int .i64 (m.regs))), (AV.sl 4 (gcells cI (m.code)))]))] Gd.none Zd_tZ57 rfl rfl rfl rfl rfl rfl ?_
    refine aops_end ?_
    refine hK4 _ ?_
    refine awp_seq fun K5 hK5 => ?_
    refine awp_regionD rfl ?_
    refine o_fieldRef 2 Gd.none Zd_tF57_2 rfl rfl ?_
    refine o_loadS (AV.lit (.int .i64 ((((m.code).getD (c.at'.toNat) default)).next))) Gd.none Zd_tS3 rfl rfl rfl ?_
    refine o_buildSlice 6 (is .i64 ([])) [] Gd.none Zd_tE25 rfl Zd_tO3 rfl rfl rfl rfl rfl rfl rfl ?_
    refine o_fieldRef 1 Gd.none Zd_tF27_1 rfl rfl ?_
    refine o_loadS (AV.sl 1 (is .i64 (c.regs))) Gd.none Zd_tS25 rfl rfl rfl ?_
    refine i_appendSl 7 ([]) (c.regs) [(5, (AO.var 57 [(AV.lit (.int .i64 ((((m.code).getD (c.at'.toNat) default)).kind))), (AV.lit (.int .i64 ((((m.code).getD (c.at'.toNat) default)).reg))), (AV.lit (.int .i64 ((((m.code).getD (c.at'.toNat) default)).next))), (AV.lit (.int .i64 ((((m.code).getD (c.at'.toNat) default)).els)))])), (4, (AO.var 27 [(nm .i64 (0)), (AV.lit (.slice none 0 0))])), (3, (AO.var 27 [(AV.lit (.int .i64 (c.at'))), (AV.sl 1 (is .i64 (c.regs)))])), (2, (AO.var 24 [(AV.lit (.int .i64 (m.regs))), (AV.sl 4 (gcells cI (m.code)))]))] Gd.none Zd_tE25 Zd_tO3 rfl rfl rfl rfl (by simp only [List.length_append, List.length_cons, List.length_nil]; omega) (by decide) rfl rfl ?_
    refine o_build [(AV.lit (.int .i64 ((((m.code).getD (c.at'.toNat) default)).next))), (AV.row 7)] [(0, [(AV.lit (.int .i64 ((((m.code).getD (c.at'.toNat) default)).next)))]), (1, [(AV.row 7)])] Gd.none Zd_tP27 Zd_tO27 rfl rfl rfl ?_
    refine o_alloc 8 [(nm .i64 (0)), (AV.lit (.slice none 0 0))] Gd.none Zd_tO27 rfl rfl rfl ?_
    refine o_store [(8, (AO.var 27 [(AV.lit (.int .i64 ((((m.code).getD (c.at'.toNat) default)).next))), (AV.row 7)])), (7, (AO.row 3 1 (is .i64 (c.regs)))), (5, (AO.var 57 [(AV.lit (.int .i64 ((((m.code).getD (c.at'.toNat) default)).kind))), (AV.lit (.int .i64 ((((m.code).getD (c.at'.toNat) default)).reg))), (AV.lit (.int .i64 ((((m.code).getD (c.at'.toNat) default)).next))), (AV.lit (.int .i64 ((((m.code).getD (c.at'.toNat) default)).els)))])), (4, (AO.var 27 [(nm .i64 (0)), (AV.lit (.slice none 0 0))])), (3, (AO.var 27 [(AV.lit (.int .i64 (c.at'))), (AV.sl 1 (is .i64 (c.regs)))])), (2, (AO.var 24 [(AV.lit (.int .i64 (m.regs))), (AV.sl 4 (gcells cI (m.code)))]))] Gd.none Zd_tZ27 rfl rfl rfl rfl rfl rfl ?_
    refine aops_end ⟨by kernel_rfl, ?_⟩
    refine hK5 _ ?_
    refine awp_seq fun K6 hK6 => ?_
    refine awp_block ?_
    refine awp_seq fun K7 hK7 => ?_
    refine awp_region rfl ?_
    refine o_fieldRef 0 Gd.none Zd_tF57_0 rfl rfl ?_
    refine o_loadS (AV.lit (.int .i64 ((((m.code).getD (c.at'.toNat) default)).kind))) Gd.none Zd_tS3 rfl rfl rfl ?_
    refine o_eql (a := ((((m.code).getD (c.at'.toNat) default)).kind)) (c := (((0 : Nat) : Int))) Gd.none rfl rfl ?_
    refine o_as (bp (((((m.code).getD (c.at'.toNat) default)).kind) = (((0 : Nat) : Int)))) rfl ?_
    refine aops_end ?_
    refine hK7 _ ?_
    refine awp_condQ (q := ((((m.code).getD (c.at'.toNat) default)).kind) = (((0 : Nat) : Int))) rfl (fun h2 => ?_) (fun h2 => ?_)
    · refine awp_region rfl ?_
      refine o_fieldRef 1 Gd.none Zd_tF27_1 rfl rfl ?_
      refine o_loadS (AV.row 7) Gd.none Zd_tS25 rfl rfl rfl ?_
      refine o_fieldRef 1 Gd.none Zd_tF57_1 rfl rfl ?_
      refine o_loadS (AV.lit (.int .i64 ((((m.code).getD (c.at'.toNat) default)).reg))) Gd.none Zd_tS3 rfl rfl rfl ?_
      refine n_as (v' := (nm .i64 (((m.code).getD (c.at'.toNat) default).reg.toNat))) (nm_int (by omega)) ?_
      refine i_indexRow (c.regs) (((m.code).getD (c.at'.toNat) default).reg.toNat) Gd.none Zd_tE25 rfl rfl rfl (by omega) ?_
      refine i_loadRow (c.regs) (((m.code).getD (c.at'.toNat) default).reg.toNat) Gd.none Zd_tS3 rfl rfl (by omega) ?_
      refine o_add (a := ((c.regs).getD (((m.code).getD (c.at'.toNat) default).reg.toNat) 0)) (c := (((1 : Nat) : Int))) Gd.none rfl rfl (by exact wrap64 (by omega) (by omega)) ?_
      refine i_indexRow (c.regs) (((m.code).getD (c.at'.toNat) default).reg.toNat) Gd.none Zd_tE25 rfl rfl rfl (by omega) ?_
      refine i_storeRow (c.regs) (((m.code).getD (c.at'.toNat) default).reg.toNat) (((c.regs).getD (((m.code).getD (c.at'.toNat) default).reg.toNat) 0) + (((1 : Nat) : Int))) [(8, (AO.var 27 [(AV.lit (.int .i64 ((((m.code).getD (c.at'.toNat) default)).next))), (AV.row 7)])), (7, (AO.row 3 1 (is .i64 ((c.regs).set (((m.code).getD (c.at'.toNat) default).reg.toNat) (((c.regs).getD (((m.code).getD (c.at'.toNat) default).reg.toNat) 0) + (((1 : Nat) : Int))))))), (5, (AO.var 57 [(AV.lit (.int .i64 ((((m.code).getD (c.at'.toNat) default)).kind))), (AV.lit (.int .i64 ((((m.code).getD (c.at'.toNat) default)).reg))), (AV.lit (.int .i64 ((((m.code).getD (c.at'.toNat) default)).next))), (AV.lit (.int .i64 ((((m.code).getD (c.at'.toNat) default)).els)))])), (4, (AO.var 27 [(nm .i64 (0)), (AV.lit (.slice none 0 0))])), (3, (AO.var 27 [(AV.lit (.int .i64 (c.at'))), (AV.sl 1 (is .i64 (c.regs)))])), (2, (AO.var 24 [(AV.lit (.int .i64 (m.regs))), (AV.sl 4 (gcells cI (m.code)))]))] Gd.none Zd_tZ3 rfl rfl rfl (by omega) rfl ?_
      refine aops_end ?_
      refine hK6 _ ?_
      refine awp_seq fun K8 hK8 => ?_
      refine awp_regionD rfl ?_
      refine o_loadA [(AV.lit (.int .i64 ((((m.code).getD (c.at'.toNat) default)).next))), (AV.row 7)] Gd.none Zd_tA27 rfl rfl rfl rfl rfl ?_
      refine o_fieldRef 0 Gd.none Zd_tF57_0 rfl rfl ?_
      refine o_loadS (AV.lit (.int .i64 ((((m.code).getD (c.at'.toNat) default)).kind))) Gd.none Zd_tS3 rfl rfl rfl ?_
      refine o_neq (a := ((((m.code).getD (c.at'.toNat) default)).kind)) (c := (((0 : Nat) : Int))) Gd.none rfl rfl ?_
      refine o_mv (bp (((((m.code).getD (c.at'.toNat) default)).kind) ≠ (((0 : Nat) : Int)))) rfl ?_
      refine o_fieldRef 1 (Gd.yes rfl rfl (decide_eq_false (fun hh => hh h2))) Zd_tF27_1 rfl rfl ?_
      refine o_loadS (AV.row 7) (Gd.yes rfl rfl (decide_eq_false (fun hh => hh h2))) Zd_tS25 rfl rfl rfl ?_
      refine o_fieldRef 1 (Gd.yes rfl rfl (decide_eq_false (fun hh => hh h2))) Zd_tF57_1 rfl rfl ?_
      refine o_loadS (AV.lit (.int .i64 ((((m.code).getD (c.at'.toNat) default)).reg))) (Gd.yes rfl rfl (decide_eq_false (fun hh => hh h2))) Zd_tS3 rfl rfl rfl ?_
      refine n_as (v' := (nm .i64 (((m.code).getD (c.at'.toNat) default).reg.toNat))) (nm_int (by omega)) ?_
      refine i_indexRow ((c.regs).set (((m.code).getD (c.at'.toNat) default).reg.toNat) (((c.regs).getD (((m.code).getD (c.at'.toNat) default).reg.toNat) 0) + (((1 : Nat) : Int)))) (((m.code).getD (c.at'.toNat) default).reg.toNat) (Gd.yes rfl rfl (decide_eq_false (fun hh => hh h2))) Zd_tE25 rfl rfl rfl (by first | omega | (simp only [List.length_set]; omega)) ?_
      refine i_loadRow ((c.regs).set (((m.code).getD (c.at'.toNat) default).reg.toNat) (((c.regs).getD (((m.code).getD (c.at'.toNat) default).reg.toNat) 0) + (((1 : Nat) : Int)))) (((m.code).getD (c.at'.toNat) default).reg.toNat) (Gd.yes rfl rfl (decide_eq_false (fun hh => hh h2))) Zd_tS3 rfl rfl (by first | omega | (simp only [List.length_set]; omega)) ?_
      refine n_as (v' := (AV.lit (.int .i64 (((c.regs).getD (((m.code).getD (c.at'.toNat) default).reg.toNat) 0) + (((1 : Nat) : Int)))))) (by exact congrArg (fun q => AV.lit (.int .i64 q)) (getD_set (by omega))) ?_
      refine o_leq (a := (((c.regs).getD (((m.code).getD (c.at'.toNat) default).reg.toNat) 0) + (((1 : Nat) : Int)))) (c := (((1000 : Nat) : Int))) (Gd.yes rfl rfl (decide_eq_false (fun hh => hh h2))) rfl rfl ?_
      refine o_pickF (bp ((((c.regs).getD (((m.code).getD (c.at'.toNat) default).reg.toNat) 0) + (((1 : Nat) : Int))) ≤ (((1000 : Nat) : Int)))) Gd.none rfl (decide_eq_false (fun hh => hh h2)) rfl ?_
      refine o_store [(8, (AO.var 27 [(AV.lit (.int .i64 ((((m.code).getD (c.at'.toNat) default)).next))), (AV.row 7)])), (7, (AO.row 3 1 (is .i64 ((c.regs).set (((m.code).getD (c.at'.toNat) default).reg.toNat) (((c.regs).getD (((m.code).getD (c.at'.toNat) default).reg.toNat) 0) + (((1 : Nat) : Int))))))), (5, (AO.var 57 [(AV.lit (.int .i64 ((((m.code).getD (c.at'.toNat) default)).kind))), (AV.lit (.int .i64 ((((m.code).getD (c.at'.toNat) default)).reg))), (AV.lit (.int .i64 ((((m.code).getD (c.at'.toNat) default)).next))), (AV.lit (.int .i64 ((((m.code).getD (c.at'.toNat) default)).els)))])), (4, (AO.var 27 [(AV.lit (.int .i64 ((((m.code).getD (c.at'.toNat) default)).next))), (AV.row 7)])), (3, (AO.var 27 [(AV.lit (.int .i64 (c.at'))), (AV.sl 1 (is .i64 (c.regs)))])), (2, (AO.var 24 [(AV.lit (.int .i64 (m.regs))), (AV.sl 4 (gcells cI (m.code)))]))] Gd.none Zd_tZ27 rfl rfl rfl rfl rfl rfl ?_
      refine o_as (bp ((((c.regs).getD (((m.code).getD (c.at'.toNat) default).reg.toNat) 0) + (((1 : Nat) : Int))) ≤ (((1000 : Nat) : Int)))) rfl ?_
      refine aops_end ⟨by kernel_rfl, ?_⟩
      refine hK8 _ ?_
      refine awp_wk (σ' := ⟨[(4, (AV.ref 4 (0))), (5, (bp ((((c.regs).getD (((m.code).getD (c.at'.toNat) default).reg.toNat) 0) + (((1 : Nat) : Int))) ≤ (((1000 : Nat) : Int)))))], [(4, (AO.var 27 [(AV.lit (.int .i64 ((((m.code).getD (c.at'.toNat) default)).next))), (AV.row 7)])), (7, (AO.row 3 1 (is .i64 ((c.regs).set (((m.code).getD (c.at'.toNat) default).reg.toNat) (((c.regs).getD (((m.code).getD (c.at'.toNat) default).reg.toNat) 0) + (((1 : Nat) : Int)))))))]⟩) (Wk.sub (And.intro rfl (And.intro rfl (trivial))) (And.intro rfl (And.intro rfl (trivial)))) ?_
      refine awp_wk (σ' := ⟨[(4, (AV.ref 4 (0))), (5, (bp ((((c.regs).getD (((m.code).getD (c.at'.toNat) default).reg.toNat) 0) + (((1 : Nat) : Int))) ≤ (((1000 : Nat) : Int)))))], [(4, (AO.var 27 [(AV.lit (.int .i64 ((((m.code).getD (c.at'.toNat) default)).next))), (AV.sl 1 (is .i64 ((c.regs).set (((m.code).getD (c.at'.toNat) default).reg.toNat) (((c.regs).getD (((m.code).getD (c.at'.toNat) default).reg.toNat) 0) + (((1 : Nat) : Int))))))]))]⟩) (Wk.freeze (id := 7) (e := 3) (sz := 1) (cs := (is .i64 ((c.regs).set (((m.code).getD (c.at'.toNat) default).reg.toNat) (((c.regs).getD (((m.code).getD (c.at'.toNat) default).reg.toNat) 0) + (((1 : Nat) : Int)))))) rfl) ?_
      refine awp_ret ?_
      refine post_ret ⟨[(AV.agg [(AV.lit (.int .i64 ((((m.code).getD (c.at'.toNat) default)).next))), (AV.sl 1 (is .i64 ((c.regs).set (((m.code).getD (c.at'.toNat) default).reg.toNat) (((c.regs).getD (((m.code).getD (c.at'.toNat) default).reg.toNat) 0) + (((1 : Nat) : Int))))))]), (bp ((((c.regs).getD (((m.code).getD (c.at'.toNat) default).reg.toNat) 0) + (((1 : Nat) : Int))) ≤ (((1000 : Nat) : Int))))], And.intro ⟨4, (AO.var 27 [(AV.lit (.int .i64 ((((m.code).getD (c.at'.toNat) default)).next))), (AV.sl 1 (is .i64 ((c.regs).set (((m.code).getD (c.at'.toNat) default).reg.toNat) (((c.regs).getD (((m.code).getD (c.at'.toNat) default).reg.toNat) 0) + (((1 : Nat) : Int))))))]), rfl, rfl, rfl, Or.inl ⟨Zd_tA27, AV.le_refl _⟩⟩ (And.intro (AV.le_refl _) (trivial)), rfl, ?_⟩
      first | (rw [show actC m c = c from if_pos he, bpn (show ¬ stpE m c = 0 by rw [stp_e he]; decide)]; rfl) | (rw [act_go hn]; exact tup_eq2 (congrArg cfgV (show stpC m c = _ from if_pos (show (insAt m c).kind = 0 by assumption))) (bpc (act_a hn (by assumption) a5).symm)) | (rw [act_go hn]; exact tup_eq2 (congrArg cfgV (stp_b hn (by assumption) (by assumption)).2) (bpy (stp_b hn (by assumption) (by assumption)).1)) | (rw [act_go hn]; exact tup_eq2 (congrArg cfgV (stp_c hn (by assumption) (by assumption)).2) (bpy (stp_c hn (by assumption) (by assumption)).1))
    · refine awp_seq fun K9 hK9 => ?_
      refine awp_region rfl ?_
      refine o_fieldRef 1 Gd.none Zd_tF27_1 rfl rfl ?_
      refine o_loadS (AV.sl 1 (is .i64 (c.regs))) Gd.none Zd_tS25 rfl rfl rfl ?_
      refine o_fieldRef 1 Gd.none Zd_tF57_1 rfl rfl ?_
      refine o_loadS (AV.lit (.int .i64 ((((m.code).getD (c.at'.toNat) default)).reg))) Gd.none Zd_tS3 rfl rfl rfl ?_
      refine n_as (v' := (nm .i64 (((m.code).getD (c.at'.toNat) default).reg.toNat))) (nm_int (by omega)) ?_
      refine i_index (c.regs) (((m.code).getD (c.at'.toNat) default).reg.toNat) Gd.none Zd_tE25 rfl rfl (by omega) ?_
      refine i_loadI (c.regs) (((m.code).getD (c.at'.toNat) default).reg.toNat) Gd.none Zd_tS3 rfl (by omega) ?_
      refine o_gtr (a := ((c.regs).getD (((m.code).getD (c.at'.toNat) default).reg.toNat) 0)) (c := (((0 : Nat) : Int))) Gd.none rfl rfl ?_
      refine o_as (bp ((((0 : Nat) : Int)) < ((c.regs).getD (((m.code).getD (c.at'.toNat) default).reg.toNat) 0))) rfl ?_
      refine aops_end ?_
      refine hK9 _ ?_
      refine awp_condQ (q := (((0 : Nat) : Int)) < ((c.regs).getD (((m.code).getD (c.at'.toNat) default).reg.toNat) 0)) rfl (fun h3 => ?_) (fun h3 => ?_)
      · refine awp_region rfl ?_
        refine o_fieldRef 1 Gd.none Zd_tF27_1 rfl rfl ?_
        refine o_loadS (AV.row 7) Gd.none Zd_tS25 rfl rfl rfl ?_
        refine o_fieldRef 1 Gd.none Zd_tF57_1 rfl rfl ?_
        refine o_loadS (AV.lit (.int .i64 ((((m.code).getD (c.at'.toNat) default)).reg))) Gd.none Zd_tS3 rfl rfl rfl ?_
        refine n_as (v' := (nm .i64 (((m.code).getD (c.at'.toNat) default).reg.toNat))) (nm_int (by omega)) ?_
        refine i_indexRow (c.regs) (((m.code).getD (c.at'.toNat) default).reg.toNat) Gd.none Zd_tE25 rfl rfl rfl (by omega) ?_
        refine i_loadRow (c.regs) (((m.code).getD (c.at'.toNat) default).reg.toNat) Gd.none Zd_tS3 rfl rfl (by omega) ?_
        refine o_sub (a := ((c.regs).getD (((m.code).getD (c.at'.toNat) default).reg.toNat) 0)) (c := (((1 : Nat) : Int))) Gd.none rfl rfl (by exact wrap64 (by omega) (by omega)) ?_
        refine i_indexRow (c.regs) (((m.code).getD (c.at'.toNat) default).reg.toNat) Gd.none Zd_tE25 rfl rfl rfl (by omega) ?_
        refine i_storeRow (c.regs) (((m.code).getD (c.at'.toNat) default).reg.toNat) (((c.regs).getD (((m.code).getD (c.at'.toNat) default).reg.toNat) 0) - (((1 : Nat) : Int))) [(8, (AO.var 27 [(AV.lit (.int .i64 ((((m.code).getD (c.at'.toNat) default)).next))), (AV.row 7)])), (7, (AO.row 3 1 (is .i64 ((c.regs).set (((m.code).getD (c.at'.toNat) default).reg.toNat) (((c.regs).getD (((m.code).getD (c.at'.toNat) default).reg.toNat) 0) - (((1 : Nat) : Int))))))), (5, (AO.var 57 [(AV.lit (.int .i64 ((((m.code).getD (c.at'.toNat) default)).kind))), (AV.lit (.int .i64 ((((m.code).getD (c.at'.toNat) default)).reg))), (AV.lit (.int .i64 ((((m.code).getD (c.at'.toNat) default)).next))), (AV.lit (.int .i64 ((((m.code).getD (c.at'.toNat) default)).els)))])), (4, (AO.var 27 [(nm .i64 (0)), (AV.lit (.slice none 0 0))])), (3, (AO.var 27 [(AV.lit (.int .i64 (c.at'))), (AV.sl 1 (is .i64 (c.regs)))])), (2, (AO.var 24 [(AV.lit (.int .i64 (m.regs))), (AV.sl 4 (gcells cI (m.code)))]))] Gd.none Zd_tZ3 rfl rfl rfl (by omega) rfl ?_
        refine aops_end ?_
        refine hK6 _ ?_
        refine awp_seq fun K10 hK10 => ?_
        refine awp_regionD rfl ?_
        refine o_loadA [(AV.lit (.int .i64 ((((m.code).getD (c.at'.toNat) default)).next))), (AV.row 7)] Gd.none Zd_tA27 rfl rfl rfl rfl rfl ?_
        refine o_fieldRef 0 Gd.none Zd_tF57_0 rfl rfl ?_
        refine o_loadS (AV.lit (.int .i64 ((((m.code).getD (c.at'.toNat) default)).kind))) Gd.none Zd_tS3 rfl rfl rfl ?_
        refine o_neq (a := ((((m.code).getD (c.at'.toNat) default)).kind)) (c := (((0 : Nat) : Int))) Gd.none rfl rfl ?_
        refine o_mv (bp (((((m.code).getD (c.at'.toNat) default)).kind) ≠ (((0 : Nat) : Int)))) rfl ?_
        refine o_skip rfl rfl (decide_eq_true h2) ?_
        refine o_skip rfl rfl (decide_eq_true h2) ?_
        refine o_skip rfl rfl (decide_eq_true h2) ?_
        refine o_skip rfl rfl (decide_eq_true h2) ?_
        refine o_skip rfl rfl (decide_eq_true h2) ?_
        refine o_skip rfl rfl (decide_eq_true h2) ?_
        refine o_skip rfl rfl (decide_eq_true h2) ?_
        refine o_pickT (AV.lit (.bool true)) Gd.none rfl (decide_eq_true h2) rfl ?_
        refine o_store [(8, (AO.var 27 [(AV.lit (.int .i64 ((((m.code).getD (c.at'.toNat) default)).next))), (AV.row 7)])), (7, (AO.row 3 1 (is .i64 ((c.regs).set (((m.code).getD (c.at'.toNat) default).reg.toNat) (((c.regs).getD (((m.code).getD (c.at'.toNat) default).reg.toNat) 0) - (((1 : Nat) : Int))))))), (5, (AO.var 57 [(AV.lit (.int .i64 ((((m.code).getD (c.at'.toNat) default)).kind))), (AV.lit (.int .i64 ((((m.code).getD (c.at'.toNat) default)).reg))), (AV.lit (.int .i64 ((((m.code).getD (c.at'.toNat) default)).next))), (AV.lit (.int .i64 ((((m.code).getD (c.at'.toNat) default)).els)))])), (4, (AO.var 27 [(AV.lit (.int .i64 ((((m.code).getD (c.at'.toNat) default)).next))), (AV.row 7)])), (3, (AO.var 27 [(AV.lit (.int .i64 (c.at'))), (AV.sl 1 (is .i64 (c.regs)))])), (2, (AO.var 24 [(AV.lit (.int .i64 (m.regs))), (AV.sl 4 (gcells cI (m.code)))]))] Gd.none Zd_tZ27 rfl rfl rfl rfl rfl rfl ?_
        refine o_as (AV.lit (.bool true)) rfl ?_
        refine aops_end ⟨by kernel_rfl, ?_⟩
        refine hK10 _ ?_
        refine awp_wk (σ' := ⟨[(4, (AV.ref 4 (0))), (5, (AV.lit (.bool true)))], [(4, (AO.var 27 [(AV.lit (.int .i64 ((((m.code).getD (c.at'.toNat) default)).next))), (AV.row 7)])), (7, (AO.row 3 1 (is .i64 ((c.regs).set (((m.code).getD (c.at'.toNat) default).reg.toNat) (((c.regs).getD (((m.code).getD (c.at'.toNat) default).reg.toNat) 0) - (((1 : Nat) : Int)))))))]⟩) (Wk.sub (And.intro rfl (And.intro rfl (trivial))) (And.intro rfl (And.intro rfl (trivial)))) ?_
        refine awp_wk (σ' := ⟨[(4, (AV.ref 4 (0))), (5, (AV.lit (.bool true)))], [(4, (AO.var 27 [(AV.lit (.int .i64 ((((m.code).getD (c.at'.toNat) default)).next))), (AV.sl 1 (is .i64 ((c.regs).set (((m.code).getD (c.at'.toNat) default).reg.toNat) (((c.regs).getD (((m.code).getD (c.at'.toNat) default).reg.toNat) 0) - (((1 : Nat) : Int))))))]))]⟩) (Wk.freeze (id := 7) (e := 3) (sz := 1) (cs := (is .i64 ((c.regs).set (((m.code).getD (c.at'.toNat) default).reg.toNat) (((c.regs).getD (((m.code).getD (c.at'.toNat) default).reg.toNat) 0) - (((1 : Nat) : Int)))))) rfl) ?_
        refine awp_ret ?_
        refine post_ret ⟨[(AV.agg [(AV.lit (.int .i64 ((((m.code).getD (c.at'.toNat) default)).next))), (AV.sl 1 (is .i64 ((c.regs).set (((m.code).getD (c.at'.toNat) default).reg.toNat) (((c.regs).getD (((m.code).getD (c.at'.toNat) default).reg.toNat) 0) - (((1 : Nat) : Int))))))]), (AV.lit (.bool true))], And.intro ⟨4, (AO.var 27 [(AV.lit (.int .i64 ((((m.code).getD (c.at'.toNat) default)).next))), (AV.sl 1 (is .i64 ((c.regs).set (((m.code).getD (c.at'.toNat) default).reg.toNat) (((c.regs).getD (((m.code).getD (c.at'.toNat) default).reg.toNat) 0) - (((1 : Nat) : Int))))))]), rfl, rfl, rfl, Or.inl ⟨Zd_tA27, AV.le_refl _⟩⟩ (And.intro (AV.le_refl _) (trivial)), rfl, ?_⟩
        first | (rw [show actC m c = c from if_pos he, bpn (show ¬ stpE m c = 0 by rw [stp_e he]; decide)]; rfl) | (rw [act_go hn]; exact tup_eq2 (congrArg cfgV (show stpC m c = _ from if_pos (show (insAt m c).kind = 0 by assumption))) (bpc (act_a hn (by assumption) a5).symm)) | (rw [act_go hn]; exact tup_eq2 (congrArg cfgV (stp_b hn (by assumption) (by assumption)).2) (bpy (stp_b hn (by assumption) (by assumption)).1)) | (rw [act_go hn]; exact tup_eq2 (congrArg cfgV (stp_c hn (by assumption) (by assumption)).2) (bpy (stp_c hn (by assumption) (by assumption)).1))
      · refine awp_region rfl ?_
        refine o_fieldRef 3 Gd.none Zd_tF57_3 rfl rfl ?_
        refine o_loadS (AV.lit (.int .i64 ((((m.code).getD (c.at'.toNat) default)).els))) Gd.none Zd_tS3 rfl rfl rfl ?_
        refine o_fieldRef 0 Gd.none Zd_tF27_0 rfl rfl ?_
        refine o_store [(8, (AO.var 27 [(AV.lit (.int .i64 ((((m.code).getD (c.at'.toNat) default)).els))), (AV.row 7)])), (7, (AO.row 3 1 (is .i64 (c.regs)))), (5, (AO.var 57 [(AV.lit (.int .i64 ((((m.code).getD (c.at'.toNat) default)).kind))), (AV.lit (.int .i64 ((((m.code).getD (c.at'.toNat) default)).reg))), (AV.lit (.int .i64 ((((m.code).getD (c.at'.toNat) default)).next))), (AV.lit (.int .i64 ((((m.code).getD (c.at'.toNat) default)).els)))])), (4, (AO.var 27 [(nm .i64 (0)), (AV.lit (.slice none 0 0))])), (3, (AO.var 27 [(AV.lit (.int .i64 (c.at'))), (AV.sl 1 (is .i64 (c.regs)))])), (2, (AO.var 24 [(AV.lit (.int .i64 (m.regs))), (AV.sl 4 (gcells cI (m.code)))]))] Gd.none Zd_tZ3 rfl rfl rfl rfl rfl rfl ?_
        refine aops_end ?_
        refine hK6 _ ?_
        refine awp_seq fun K11 hK11 => ?_
        refine awp_regionD rfl ?_
        refine o_loadA [(AV.lit (.int .i64 ((((m.code).getD (c.at'.toNat) default)).els))), (AV.row 7)] Gd.none Zd_tA27 rfl rfl rfl rfl rfl ?_
        refine o_fieldRef 0 Gd.none Zd_tF57_0 rfl rfl ?_
        refine o_loadS (AV.lit (.int .i64 ((((m.code).getD (c.at'.toNat) default)).kind))) Gd.none Zd_tS3 rfl rfl rfl ?_
        refine o_neq (a := ((((m.code).getD (c.at'.toNat) default)).kind)) (c := (((0 : Nat) : Int))) Gd.none rfl rfl ?_
        refine o_mv (bp (((((m.code).getD (c.at'.toNat) default)).kind) ≠ (((0 : Nat) : Int)))) rfl ?_
        refine o_skip rfl rfl (decide_eq_true h2) ?_
        refine o_skip rfl rfl (decide_eq_true h2) ?_
        refine o_skip rfl rfl (decide_eq_true h2) ?_
        refine o_skip rfl rfl (decide_eq_true h2) ?_
        refine o_skip rfl rfl (decide_eq_true h2) ?_
        refine o_skip rfl rfl (decide_eq_true h2) ?_
        refine o_skip rfl rfl (decide_eq_true h2) ?_
        refine o_pickT (AV.lit (.bool true)) Gd.none rfl (decide_eq_true h2) rfl ?_
        refine o_store [(8, (AO.var 27 [(AV.lit (.int .i64 ((((m.code).getD (c.at'.toNat) default)).els))), (AV.row 7)])), (7, (AO.row 3 1 (is .i64 (c.regs)))), (5, (AO.var 57 [(AV.lit (.int .i64 ((((m.code).getD (c.at'.toNat) default)).kind))), (AV.lit (.int .i64 ((((m.code).getD (c.at'.toNat) default)).reg))), (AV.lit (.int .i64 ((((m.code).getD (c.at'.toNat) default)).next))), (AV.lit (.int .i64 ((((m.code).getD (c.at'.toNat) default)).els)))])), (4, (AO.var 27 [(AV.lit (.int .i64 ((((m.code).getD (c.at'.toNat) default)).els))), (AV.row 7)])), (3, (AO.var 27 [(AV.lit (.int .i64 (c.at'))), (AV.sl 1 (is .i64 (c.regs)))])), (2, (AO.var 24 [(AV.lit (.int .i64 (m.regs))), (AV.sl 4 (gcells cI (m.code)))]))] Gd.none Zd_tZ27 rfl rfl rfl rfl rfl rfl ?_
        refine o_as (AV.lit (.bool true)) rfl ?_
        refine aops_end ⟨by kernel_rfl, ?_⟩
        refine hK11 _ ?_
        refine awp_wk (σ' := ⟨[(4, (AV.ref 4 (0))), (5, (AV.lit (.bool true)))], [(4, (AO.var 27 [(AV.lit (.int .i64 ((((m.code).getD (c.at'.toNat) default)).els))), (AV.row 7)])), (7, (AO.row 3 1 (is .i64 (c.regs))))]⟩) (Wk.sub (And.intro rfl (And.intro rfl (trivial))) (And.intro rfl (And.intro rfl (trivial)))) ?_
        refine awp_wk (σ' := ⟨[(4, (AV.ref 4 (0))), (5, (AV.lit (.bool true)))], [(4, (AO.var 27 [(AV.lit (.int .i64 ((((m.code).getD (c.at'.toNat) default)).els))), (AV.sl 1 (is .i64 (c.regs)))]))]⟩) (Wk.freeze (id := 7) (e := 3) (sz := 1) (cs := (is .i64 (c.regs))) rfl) ?_
        refine awp_ret ?_
        refine post_ret ⟨[(AV.agg [(AV.lit (.int .i64 ((((m.code).getD (c.at'.toNat) default)).els))), (AV.sl 1 (is .i64 (c.regs)))]), (AV.lit (.bool true))], And.intro ⟨4, (AO.var 27 [(AV.lit (.int .i64 ((((m.code).getD (c.at'.toNat) default)).els))), (AV.sl 1 (is .i64 (c.regs)))]), rfl, rfl, rfl, Or.inl ⟨Zd_tA27, AV.le_refl _⟩⟩ (And.intro (AV.le_refl _) (trivial)), rfl, ?_⟩
        first | (rw [show actC m c = c from if_pos he, bpn (show ¬ stpE m c = 0 by rw [stp_e he]; decide)]; rfl) | (rw [act_go hn]; exact tup_eq2 (congrArg cfgV (show stpC m c = _ from if_pos (show (insAt m c).kind = 0 by assumption))) (bpc (act_a hn (by assumption) a5).symm)) | (rw [act_go hn]; exact tup_eq2 (congrArg cfgV (stp_b hn (by assumption) (by assumption)).2) (bpy (stp_b hn (by assumption) (by assumption)).1)) | (rw [act_go hn]; exact tup_eq2 (congrArg cfgV (stp_c hn (by assumption) (by assumption)).2) (bpy (stp_c hn (by assumption) (by assumption)).1))

theorem c_tCode (m : Mac) (c : Cfg) (hC : okCfg m c) : ECalls cx 10 [(macV m), (cfgV c)] (intR (numC m c)) := by
  refine ecalls_of_awp Tryz.func10 (c := _) rfl (Nat.le_of_ble_eq_true rfl) ?_
  show awp cx 74 _ (postF cx Tryz.f10 _) ⟨[(0, (macV m)), (1, (cfgV c))], []⟩
  have hC2 := hC
  obtain ⟨⟨o1, o2, o3, o4, o5⟩, q1, q2, q3⟩ := hC2
  unfold plc at q1
  have b0 := ownP_bd m c.at'
  have l0 := small_len (z := ((ownP m c.at' : Nat) : Int)) (by omega)
  refine awp_seq fun K0 hK0 => ?_
  refine awp_region rfl ?_
  refine o_box 2 [(AV.lit (.int .i64 (m.regs))), (AV.sl 4 (gcells cI (m.code)))] Gd.none rfl rfl ?_
  refine o_box 3 [(AV.lit (.int .i64 (c.at'))), (AV.sl 1 (is .i64 (c.regs)))] Gd.none rfl rfl ?_
  refine o_alloc 4 [(AV.lit (.bool false)), (AV.lit (.slice none 0 0))] Gd.none Zd_tO41 rfl rfl rfl ?_
  refine aops_end ?_
  refine hK0 _ ?_
  refine awp_seq fun K1 hK1 => ?_
  refine awp_region rfl ?_
  refine o_as (AV.lit (.slice none 0 0)) rfl ?_
  refine aops_end ?_
  refine hK1 _ ?_
  refine awp_seq fun K2 hK2 => ?_
  refine awp_seq fun K3 hK3 => ?_
  refine awp_region rfl ?_
  refine o_as (nm .i64 (2)) rfl ?_
  refine aops_end ?_
  refine hK3 _ ?_
  refine awp_block ?_
  refine awp_loopR (fun κ σ => ∃ (j : Nat), ∃ (n : Nat), (((j : Nat) : Int) ≤ m.regs + 2 * (((m.code.length : Nat) : Int) + 1)) ∧ (prv j < n) ∧ (j < 30 → n ≤ P30.getD j 0) ∧ (n ≤ 114) ∧ (114 - n) = κ ∧ σ = ⟨[(2, (AV.ref 2 (0))), (3, (AV.ref 3 (0))), (4, (AV.ref 4 (0))), (5, (AV.row 50)), (6, (nm .i64 (n)))], [(2, (AO.var 24 [(AV.lit (.int .i64 (m.regs))), (AV.sl 4 (gcells cI (m.code)))])), (3, (AO.var 27 [(AV.lit (.int .i64 (c.at'))), (AV.sl 1 (is .i64 (c.regs)))])), (4, (AO.var 41 [(AV.lit (.bool false)), (AV.lit (.slice none 0 0))])), (50, (AO.row 3 1 (ns .i64 (P30.take (j)))))]⟩) ⟨_, _, ⟨0, 2, (by omega), (by decide), (by decide), (by decide), rfl, rfl⟩, ?wk0⟩ ?rd0
  case wk0 =>
    exact Wk.trans (Wk.newNil (i := 5) (id := 505) (e := 3) (sz := 1) rfl rfl (by decide)) (Wk.trans (Wk.sub (σ' := ⟨[(2, (AV.ref 2 (0))), (3, (AV.ref 3 (0))), (4, (AV.ref 4 (0))), (5, (AV.row 505)), (6, (nm .i64 (2)))], [(2, (AO.var 24 [(AV.lit (.int .i64 (m.regs))), (AV.sl 4 (gcells cI (m.code)))])), (3, (AO.var 27 [(AV.lit (.int .i64 (c.at'))), (AV.sl 1 (is .i64 (c.regs)))])), (4, (AO.var 41 [(AV.lit (.bool false)), (AV.lit (.slice none 0 0))])), (505, (AO.row 3 1 (ns .i64 ([]))))]⟩) (And.intro rfl (And.intro rfl (And.intro rfl (And.intro rfl (And.intro rfl (trivial)))))) (And.intro rfl (And.intro rfl (And.intro rfl (And.intro rfl (trivial)))))) (Wk.trans (Wk.ren (id := 505) (id' := 50) rfl) (Wk.sub (And.intro rfl (And.intro rfl (And.intro rfl (And.intro (by first | rfl | (simp)) (And.intro (by first | rfl | exact congrArg (nm _) (by omega) | exact nm_int (by omega) | exact nm_int (by simp [IntKind.wrap, IntKind.bits, IntKind.signed]; omega)) (trivial)))))) (And.intro rfl (And.intro rfl (And.intro rfl (And.intro (by first | rfl | exact row_ns (by first | rfl | exact tk_snoc (by omega) (hnd.1 (by assumption)))) (trivial))))))))
  rintro κ _ ⟨j, n, hj, hp1, hp2, hn, rfl, rfl⟩
  have htl := take_p30 (j := j) (by omega)
  refine awp_seq fun K4 hK4 => ?_
  refine awp_seq fun K5 hK5 => ?_
  refine awp_region rfl ?_
  refine o_mv (AV.row 50) rfl ?_
  refine n_lenRow (P30.take (j)) Gd.none Zd_tU25 rfl rfl ?_
  refine o_fieldRef 0 Gd.none Zd_tF24_0 rfl rfl ?_
  refine o_loadS (AV.lit (.int .i64 (m.regs))) Gd.none Zd_tS3 rfl rfl rfl ?_
  refine o_fieldRef 1 Gd.none Zd_tF24_1 rfl rfl ?_
  refine o_loadS (AV.sl 4 (gcells cI (m.code))) Gd.none Zd_tS22 rfl rfl rfl ?_
  refine g_len cI (m.code) cI_len Gd.none Zd_tU22 rfl ?_
  refine n_add ((m.code).length) (1) Gd.none rfl rfl (by simp only [topOf]; omega) ?_
  refine n_mul (2) (((m.code).length) + (1)) Gd.none rfl rfl (by simp only [topOf]; omega) ?_
  refine o_add (a := (m.regs)) (c := ((((2) * (((m.code).length) + (1)) : Nat) : Int))) Gd.none rfl rfl (by exact wrap64 (by omega) (by omega)) ?_
  refine o_lss (a := ((((P30.take (j)).length : Nat) : Int))) (c := ((m.regs) + ((((2) * (((m.code).length) + (1)) : Nat) : Int)))) Gd.none rfl rfl ?_
  refine aops_end ?_
  refine hK5 _ ?_
  refine awp_condQ (q := ((((P30.take (j)).length : Nat) : Int)) < ((m.regs) + ((((2) * (((m.code).length) + (1)) : Nat) : Int)))) rfl (fun h1 => ?_) (fun h1 => ?_)
  · have hj30 : j < 30 := by omega
    have hq2 := hp2 hj30
    have hu := (p30_up j hj30).2
    have hnd0 := nd_p30 hj30 hp1 hq2
    refine awp_skip ?_
    refine hK4 _ ?_
    refine awp_seq fun K6 hK6 => ?_
    refine awp_block ?_
    refine awp_seq fun K7 hK7 => ?_
    refine awp_region rfl ?_
    refine o_as (AV.lit (.bool true)) rfl ?_
    refine n_as (v' := (bp (ndv n 0))) (by exact (bpy (ndv_zero n)).symm) ?_
    refine aops_end ?_
    refine hK7 _ ?_
    refine awp_seq fun K8 hK8 => ?_
    refine awp_seq fun K9 hK9 => ?_
    refine awp_region rfl ?_
    refine o_as (nm .i64 (0)) rfl ?_
    refine aops_end ?_
    refine hK9 _ ?_
    refine awp_block ?_
    refine awp_loopR (fun κ σ => ∃ (k : Nat), (k ≤ j) ∧ (j - k) = κ ∧ σ = ⟨[(2, (AV.ref 2 (0))), (3, (AV.ref 3 (0))), (4, (AV.ref 4 (0))), (5, (AV.row 50)), (6, (nm .i64 (n))), (7, (bp (ndv n k))), (8, (nm .i64 (k)))], [(2, (AO.var 24 [(AV.lit (.int .i64 (m.regs))), (AV.sl 4 (gcells cI (m.code)))])), (3, (AO.var 27 [(AV.lit (.int .i64 (c.at'))), (AV.sl 1 (is .i64 (c.regs)))])), (4, (AO.var 41 [(AV.lit (.bool false)), (AV.lit (.slice none 0 0))])), (50, (AO.row 3 1 (ns .i64 (P30.take (j)))))]⟩) ⟨_, _, ⟨0, (by omega), rfl, rfl⟩, ?wk1⟩ ?rd1
    case wk1 =>
      exact Wk.sub (And.intro rfl (And.intro rfl (And.intro rfl (And.intro rfl (And.intro rfl (And.intro (by first | rfl | exact bp_congr (by first | omega | simp) | exact bl_bp (by first | omega | simp)) (And.intro (by first | rfl | exact congrArg (nm _) (by omega) | exact nm_int (by omega) | exact nm_int (by simp [IntKind.wrap, IntKind.bits, IntKind.signed]; omega)) (trivial)))))))) (And.intro rfl (And.intro rfl (And.intro rfl (And.intro rfl (trivial)))))
    rintro κ _ ⟨k, hk, rfl, rfl⟩
    refine awp_seq fun K10 hK10 => ?_
    refine awp_seq fun K11 hK11 => ?_
    refine awp_region rfl ?_
    refine o_mv (nm .i64 (k)) rfl ?_
    refine o_mv (AV.row 50) rfl ?_
    refine n_lenRow (P30.take (j)) Gd.none Zd_tU25 rfl rfl ?_
    refine n_lss (k) ((P30.take (j)).length) Gd.none rfl rfl ?_
    refine aops_end ?_
    refine hK11 _ ?_
    refine awp_condQ (q := (k) < ((P30.take (j)).length)) rfl (fun h2 => ?_) (fun h2 => ?_)
    · have hk2 := p30_ge k (by omega)
      refine awp_skip ?_
      refine hK10 _ ?_
      refine awp_seq fun K12 hK12 => ?_
      refine awp_block ?_
      refine awp_region rfl ?_
      refine o_mv (bp (ndv n k)) rfl ?_
      refine o_mv (bp (ndv n k)) rfl ?_
      refine o_splitP (q := ndv n k) 31 rfl (fun h3 => ?_) (fun h3 => ?_)
      · refine o_move (nm .i64 (n)) (Gd.yes rfl rfl (decide_eq_true h3)) rfl ?_
        refine o_move (AV.row 50) (Gd.yes rfl rfl (decide_eq_true h3)) rfl ?_
        refine o_move (nm .i64 (k)) (Gd.yes rfl rfl (decide_eq_true h3)) rfl ?_
        refine n_indexRow (P30.take (j)) (k) (Gd.yes rfl rfl (decide_eq_true h3)) Zd_tE25 rfl rfl rfl (by omega) ?_
        refine n_loadRow (P30.take (j)) (k) (Gd.yes rfl rfl (decide_eq_true h3)) Zd_tS3 rfl rfl (by omega) ?_
        refine n_as (v' := (nm .i64 (P30.getD (k) 0))) (congrArg (nm _) (by exact take_get (by omega))) ?_
        refine n_rem (n) (P30.getD (k) 0) (Gd.yes rfl rfl (decide_eq_true h3)) rfl rfl (by omega) ?_
        refine n_neq ((n) % (P30.getD (k) 0)) (0) (Gd.yes rfl rfl (decide_eq_true h3)) rfl rfl ?_
        refine o_pickT (bp (((n) % (P30.getD (k) 0)) ≠ (0))) Gd.none rfl (decide_eq_true h3) rfl ?_
        refine n_as (v' := (bp (ndv n (k + 1)))) (by first | exact bpc (ndv_step (by assumption)) | exact (bpn (ndv_mono (by assumption))).symm) ?_
        refine o_as (bp (ndv n (k + 1))) rfl ?_
        refine aops_end ?_
        refine hK12 _ ?_
        refine awp_region rfl ?_
        refine o_mv (nm .i64 (k)) rfl ?_
        refine n_add (k) (1) Gd.none rfl rfl (by simp only [topOf]; omega) ?_
        refine o_as (nm .i64 ((k) + (1))) rfl ?_
        refine aops_end ?_
        refine ⟨_, _, ?lt, ⟨k + 1, (by omega), rfl, rfl⟩, ?wk⟩
        case lt => omega
        case wk => exact Wk.sub (And.intro rfl (And.intro rfl (And.intro rfl (And.intro rfl (And.intro rfl (And.intro (by first | rfl | exact bp_congr (by first | omega | simp) | exact bl_bp (by first | omega | simp)) (And.intro (by first | rfl | exact congrArg (nm _) (by omega) | exact nm_int (by omega) | exact nm_int (by simp [IntKind.wrap, IntKind.bits, IntKind.signed]; omega)) (trivial)))))))) (And.intro rfl (And.intro rfl (And.intro rfl (And.intro rfl (trivial)))))
      · refine o_skip rfl rfl (decide_eq_false h3) ?_
        refine o_skip rfl rfl (decide_eq_false h3) ?_
        refine o_skip rfl rfl (decide_eq_false h3) ?_
        refine o_skip rfl rfl (decide_eq_false h3) ?_
        refine o_skip rfl rfl (decide_eq_false h3) ?_
        refine o_skip rfl rfl (decide_eq_false h3) ?_
        refine o_skip rfl rfl (decide_eq_false h3) ?_
        refine o_pickF (AV.lit (.bool false)) Gd.none rfl (decide_eq_false h3) rfl ?_
        refine n_as (v' := (bp (ndv n (k + 1)))) (by first | exact bpc (ndv_step (by assumption)) | exact (bpn (ndv_mono (by assumption))).symm) ?_
        refine o_as (bp (ndv n (k + 1))) rfl ?_
        refine aops_end ?_
        refine hK12 _ ?_
        refine awp_region rfl ?_
        refine o_mv (nm .i64 (k)) rfl ?_
        refine n_add (k) (1) Gd.none rfl rfl (by simp only [topOf]; omega) ?_
        refine o_as (nm .i64 ((k) + (1))) rfl ?_
        refine aops_end ?_
        refine ⟨_, _, ?lt, ⟨k + 1, (by omega), rfl, rfl⟩, ?wk⟩
        case lt => omega
        case wk => exact Wk.sub (And.intro rfl (And.intro rfl (And.intro rfl (And.intro rfl (And.intro rfl (And.intro (by first | rfl | exact bp_congr (by first | omega | simp) | exact bl_bp (by first | omega | simp)) (And.intro (by first | rfl | exact congrArg (nm _) (by omega) | exact nm_int (by omega) | exact nm_int (by simp [IntKind.wrap, IntKind.bits, IntKind.signed]; omega)) (trivial)))))))) (And.intro rfl (And.intro rfl (And.intro rfl (And.intro rfl (trivial)))))
    · have hkj : k = j := by omega
      have hnd : ndv n k ↔ n = P30.getD j 0 := by rw [hkj]; exact hnd0
      refine awp_exit ?_
      refine hK8 _ ?_
      refine awp_seq fun K13 hK13 => ?_
      refine awp_region rfl ?_
      refine o_mv (bp (ndv n k)) rfl ?_
      refine aops_end ?_
      refine hK13 _ ?_
      refine awp_condQ (q := ndv n k) rfl (fun h4 => ?_) (fun h4 => ?_)
      · refine awp_region rfl ?_
        refine o_mv (AV.row 50) rfl ?_
        refine o_mv (nm .i64 (n)) rfl ?_
        refine o_buildSlice 201 (ns .i64 ([n])) [(0, [(nm .i64 (n))])] Gd.none Zd_tE25 rfl Zd_tO3 rfl rfl rfl rfl rfl rfl rfl ?_
        refine n_append 202 (P30.take (j)) ([n]) [(201, (AO.row 3 1 (ns .i64 ([n])))), (2, (AO.var 24 [(AV.lit (.int .i64 (m.regs))), (AV.sl 4 (gcells cI (m.code)))])), (3, (AO.var 27 [(AV.lit (.int .i64 (c.at'))), (AV.sl 1 (is .i64 (c.regs)))])), (4, (AO.var 41 [(AV.lit (.bool false)), (AV.lit (.slice none 0 0))]))] Gd.none Zd_tE25 Zd_tO3 rfl rfl rfl rfl rfl (by simp only [List.length_append, List.length_cons, List.length_nil]; omega) (by decide) rfl rfl ?_
        refine o_as (AV.row 202) rfl ?_
        refine aops_end ?_
        refine hK6 _ ?_
        refine awp_region rfl ?_
        refine o_mv (nm .i64 (n)) rfl ?_
        refine n_add (n) (1) Gd.none rfl rfl (by simp only [topOf]; omega) ?_
        refine o_as (nm .i64 ((n) + (1))) rfl ?_
        refine aops_end ?_
        refine ⟨_, _, ?lt, ⟨j + 1, n + 1, (by omega), (by have q := hnd.1 (by assumption); rw [prv_succ]; omega), (fun hx => by have q := hnd.1 (by assumption); have := (p30_up (j + 1) hx).1; rw [prv_succ] at this; omega), (by omega), rfl, rfl⟩, ?wk⟩
        case lt => omega
        case wk => exact Wk.trans (Wk.sub (σ' := ⟨[(2, (AV.ref 2 (0))), (3, (AV.ref 3 (0))), (4, (AV.ref 4 (0))), (5, (AV.row 202)), (6, (nm .i64 ((n) + (1))))], [(2, (AO.var 24 [(AV.lit (.int .i64 (m.regs))), (AV.sl 4 (gcells cI (m.code)))])), (3, (AO.var 27 [(AV.lit (.int .i64 (c.at'))), (AV.sl 1 (is .i64 (c.regs)))])), (4, (AO.var 41 [(AV.lit (.bool false)), (AV.lit (.slice none 0 0))])), (202, (AO.row 3 1 (ns .i64 ((P30.take (j)) ++ ([n])))))]⟩) (And.intro rfl (And.intro rfl (And.intro rfl (And.intro rfl (And.intro rfl (trivial)))))) (And.intro rfl (And.intro rfl (And.intro rfl (And.intro rfl (trivial)))))) (Wk.trans (Wk.ren (id := 202) (id' := 50) rfl) (Wk.sub (And.intro rfl (And.intro rfl (And.intro rfl (And.intro (by first | rfl | (simp)) (And.intro (by first | rfl | exact congrArg (nm _) (by omega) | exact nm_int (by omega) | exact nm_int (by simp [IntKind.wrap, IntKind.bits, IntKind.signed]; omega)) (trivial)))))) (And.intro rfl (And.intro rfl (And.intro rfl (And.intro (by first | rfl | exact row_ns (by first | rfl | exact tk_snoc (by omega) (hnd.1 (by assumption)))) (trivial)))))))
      · refine awp_skip ?_
        refine hK6 _ ?_
        refine awp_region rfl ?_
        refine o_mv (nm .i64 (n)) rfl ?_
        refine n_add (n) (1) Gd.none rfl rfl (by simp only [topOf]; omega) ?_
        refine o_as (nm .i64 ((n) + (1))) rfl ?_
        refine aops_end ?_
        refine ⟨_, _, ?lt, ⟨j, n + 1, (by omega), (by omega), (fun hx => by have q : ¬ n = P30.getD j 0 := fun e => absurd (hnd.2 e) (by assumption); have := hp2 hx; omega), (by omega), rfl, rfl⟩, ?wk⟩
        case lt => omega
        case wk => exact Wk.sub (And.intro rfl (And.intro rfl (And.intro rfl (And.intro rfl (And.intro (by first | rfl | exact congrArg (nm _) (by omega) | exact nm_int (by omega) | exact nm_int (by simp [IntKind.wrap, IntKind.bits, IntKind.signed]; omega)) (trivial)))))) (And.intro rfl (And.intro rfl (And.intro rfl (And.intro rfl (trivial)))))
  · refine awp_exit ?_
    refine hK2 _ ?_
    refine awp_seq fun K14 hK14 => ?_
    refine awp_region rfl ?_
    refine o_mv (AV.row 50) rfl ?_
    refine o_fieldRef 0 Gd.none Zd_tF24_0 rfl rfl ?_
    refine o_loadS (AV.lit (.int .i64 (m.regs))) Gd.none Zd_tS3 rfl rfl rfl ?_
    refine o_fieldRef 0 Gd.none Zd_tF27_0 rfl rfl ?_
    refine o_loadS (AV.lit (.int .i64 (c.at'))) Gd.none Zd_tS3 rfl rfl rfl ?_
    refine o_mul (a := (((2 : Nat) : Int))) (c := (c.at')) Gd.none rfl rfl (by exact wrap64 (by omega) (by omega)) ?_
    refine o_add (a := (m.regs)) (c := ((((2 : Nat) : Int)) * (c.at'))) Gd.none rfl rfl (by exact wrap64 (by omega) (by omega)) ?_
    refine n_as (v' := (nm .i64 ((m.regs + 2 * c.at').toNat))) (nm_int (by omega)) ?_
    refine n_indexRow (P30.take (j)) ((m.regs + 2 * c.at').toNat) Gd.none Zd_tE25 rfl rfl rfl (by omega) ?_
    refine n_loadRow (P30.take (j)) ((m.regs + 2 * c.at').toNat) Gd.none Zd_tS3 rfl rfl (by omega) ?_
    refine n_as (v' := (nm .i64 (ownP m c.at'))) (by exact congrArg (nm _) (take_get (by omega))) ?_
    refine o_ct (c_rOf (((ownP m c.at' : Nat) : Int)) (by first | decide | omega) (by first | decide | omega)) Gd.none Zd_tC30 rfl ?_
    refine o_alloc 101 [(AV.lit (.bool false)), (AV.lit (.slice none 0 0))] Gd.none Zd_tO41 rfl rfl rfl ?_
    refine o_store [(101, (oZ 41 .i64 (((ownP m c.at' : Nat) : Int)))), (2, (AO.var 24 [(AV.lit (.int .i64 (m.regs))), (AV.sl 4 (gcells cI (m.code)))])), (3, (AO.var 27 [(AV.lit (.int .i64 (c.at'))), (AV.sl 1 (is .i64 (c.regs)))])), (4, (AO.var 41 [(AV.lit (.bool false)), (AV.lit (.slice none 0 0))])), (50, (AO.row 3 1 (ns .i64 (P30.take (j)))))] Gd.none Zd_tZ41 rfl rfl rfl rfl rfl rfl ?_
    refine aops_end ?_
    refine hK14 _ ?_
    refine awp_seq fun K15 hK15 => ?_
    refine awp_seq fun K16 hK16 => ?_
    refine awp_region rfl ?_
    refine o_as (nm .i64 (0)) rfl ?_
    refine aops_end ?_
    refine hK16 _ ?_
    refine awp_block ?_
    refine awp_loopR (fun κ σ => ∃ (i : Nat), ∃ (z : Int), (i ≤ c.regs.length) ∧ (numC m c = z * prdZ i (c.regs.drop i)) ∧ ((digs z.natAbs).length ≤ 1 + 1001 * i) ∧ (c.regs.length - i) = κ ∧ σ = ⟨[(2, (AV.ref 2 (0))), (3, (AV.ref 3 (0))), (4, (AV.ref 4 (0))), (5, (AV.row 50)), (9, (AV.ref 5 (0))), (10, (nm .i64 (i)))], [(2, (AO.var 24 [(AV.lit (.int .i64 (m.regs))), (AV.sl 4 (gcells cI (m.code)))])), (3, (AO.var 27 [(AV.lit (.int .i64 (c.at'))), (AV.sl 1 (is .i64 (c.regs)))])), (4, (AO.var 41 [(AV.lit (.bool false)), (AV.lit (.slice none 0 0))])), (50, (AO.row 3 1 (ns .i64 (P30.take (j))))), (5, (oZ 41 .i64 (z)))]⟩) ⟨_, _, ⟨0, ((ownP m c.at' : Nat) : Int), (by omega), rfl, (by omega), rfl, rfl⟩, ?wk2⟩ ?rd2
    case wk2 =>
      exact Wk.trans (Wk.sub (σ' := ⟨[(2, (AV.ref 2 (0))), (3, (AV.ref 3 (0))), (4, (AV.ref 4 (0))), (5, (AV.row 50)), (9, (AV.ref 101 (0))), (10, (nm .i64 (0)))], [(2, (AO.var 24 [(AV.lit (.int .i64 (m.regs))), (AV.sl 4 (gcells cI (m.code)))])), (3, (AO.var 27 [(AV.lit (.int .i64 (c.at'))), (AV.sl 1 (is .i64 (c.regs)))])), (4, (AO.var 41 [(AV.lit (.bool false)), (AV.lit (.slice none 0 0))])), (50, (AO.row 3 1 (ns .i64 (P30.take (j))))), (101, (oZ 41 .i64 (((ownP m c.at' : Nat) : Int))))]⟩) (And.intro rfl (And.intro rfl (And.intro rfl (And.intro rfl (And.intro rfl (And.intro rfl (trivial))))))) (And.intro rfl (And.intro rfl (And.intro rfl (And.intro rfl (And.intro rfl (trivial))))))) (Wk.trans (Wk.ren (id := 101) (id' := 5) rfl) (Wk.sub (And.intro rfl (And.intro rfl (And.intro rfl (And.intro rfl (And.intro (by first | rfl | (simp)) (And.intro (by first | rfl | exact congrArg (nm _) (by omega) | exact nm_int (by omega) | exact nm_int (by simp [IntKind.wrap, IntKind.bits, IntKind.signed]; omega)) (trivial))))))) (And.intro rfl (And.intro rfl (And.intro rfl (And.intro (by first | rfl | exact row_ns (by first | rfl | exact tk_snoc (by omega) (hnd.1 (by assumption)))) (And.intro rfl (trivial))))))))
    rintro κ _ ⟨i, z, hi, hp, hl, rfl, rfl⟩
    refine awp_seq fun K17 hK17 => ?_
    refine awp_seq fun K18 hK18 => ?_
    refine awp_region rfl ?_
    refine o_mv (nm .i64 (i)) rfl ?_
    refine o_fieldRef 0 Gd.none Zd_tF24_0 rfl rfl ?_
    refine o_loadS (AV.lit (.int .i64 (m.regs))) Gd.none Zd_tS3 rfl rfl rfl ?_
    refine o_lss (a := (((i : Nat) : Int))) (c := (m.regs)) Gd.none rfl rfl ?_
    refine aops_end ?_
    refine hK18 _ ?_
    refine awp_condQ (q := (((i : Nat) : Int)) < (m.regs)) rfl (fun h5 => ?_) (fun h5 => ?_)
    · have hr := q3 _ (gdm (d := 0) (show i < c.regs.length by omega))
      unfold regP at hr
      have hpb := p30_bd i
      have hpg := p30_ge i (by omega)
      have lw := len_pw hpb (((c.regs).getD (i) 0).toNat)
      have lm := len_mulZ z (((P30.getD (i) 0 : Nat) : Int) ^ (((c.regs).getD (i) 0).toNat))
      refine awp_skip ?_
      refine hK17 _ ?_
      refine awp_seq fun K19 hK19 => ?_
      refine awp_block ?_
      refine awp_regionD rfl ?_
      refine o_loadA [(bp (z < 0)), (AV.sl 1 (ns .i64 (digs (z).natAbs)))] Gd.none Zd_tA41 rfl rfl rfl rfl rfl ?_
      refine o_mv (AV.row 50) rfl ?_
      refine o_mv (nm .i64 (i)) rfl ?_
      refine n_indexRow (P30.take (j)) (i) Gd.none Zd_tE25 rfl rfl rfl (by omega) ?_
      refine n_loadRow (P30.take (j)) (i) Gd.none Zd_tS3 rfl rfl (by omega) ?_
      refine n_as (v' := (nm .i64 (P30.getD (i) 0))) (congrArg (nm _) (by exact take_get (by omega))) ?_
      refine o_fieldRef 1 Gd.none Zd_tF27_1 rfl rfl ?_
      refine o_loadS (AV.sl 1 (is .i64 (c.regs))) Gd.none Zd_tS25 rfl rfl rfl ?_
      refine o_mv (nm .i64 (i)) rfl ?_
      refine i_index (c.regs) (i) Gd.none Zd_tE25 rfl rfl (by omega) ?_
      refine i_loadI (c.regs) (i) Gd.none Zd_tS3 rfl (by omega) ?_
      refine n_as (v' := (nm .i64 (((c.regs).getD (i) 0).toNat))) (nm_int (by omega)) ?_
      refine o_ct (c_tPower ((P30.getD (i) 0 : Nat) : Int) (((c.regs).getD (i) 0).toNat) (by omega) (by omega) (by omega)) Gd.none Zd_tC31 rfl ?_
      refine o_ct (c_rMul (z) ((((P30.getD (i) 0 : Nat) : Int) ^ (((c.regs).getD (i) 0).toNat))) (by first | omega | assumption | (simp only [Int.natAbs_neg]; omega)) (by first | omega | assumption | (simp only [Int.natAbs_neg]; omega))) Gd.none Zd_tC20 rfl ?_
      refine o_store [(2, (AO.var 24 [(AV.lit (.int .i64 (m.regs))), (AV.sl 4 (gcells cI (m.code)))])), (3, (AO.var 27 [(AV.lit (.int .i64 (c.at'))), (AV.sl 1 (is .i64 (c.regs)))])), (4, (AO.var 41 [(AV.lit (.bool false)), (AV.lit (.slice none 0 0))])), (50, (AO.row 3 1 (ns .i64 (P30.take (j))))), (5, (oZ 41 .i64 ((z * (((P30.getD (i) 0 : Nat) : Int) ^ (((c.regs).getD (i) 0).toNat))))))] Gd.none Zd_tZ41 rfl rfl rfl rfl rfl rfl ?_
      refine aops_end ⟨by kernel_rfl, ?_⟩
      refine hK19 _ ?_
      refine awp_region rfl ?_
      refine o_mv (nm .i64 (i)) rfl ?_
      refine n_add (i) (1) Gd.none rfl rfl (by simp only [topOf]; omega) ?_
      refine o_as (nm .i64 ((i) + (1))) rfl ?_
      refine aops_end ?_
      refine ⟨_, _, ?lt, ⟨i + 1, (z * (((P30.getD (i) 0 : Nat) : Int) ^ (((c.regs).getD (i) 0).toNat))), (by omega), (by rw [hp, prd_drop (by omega), Int.mul_assoc]), (by omega), rfl, rfl⟩, ?wk⟩
      case lt => omega
      case wk => exact Wk.sub (And.intro rfl (And.intro rfl (And.intro rfl (And.intro rfl (And.intro rfl (And.intro (by first | rfl | exact congrArg (nm _) (by omega) | exact nm_int (by omega) | exact nm_int (by simp [IntKind.wrap, IntKind.bits, IntKind.signed]; omega)) (trivial))))))) (And.intro rfl (And.intro rfl (And.intro rfl (And.intro rfl (And.intro rfl (trivial))))))
    · refine awp_exit ?_
      refine hK15 _ ?_
      refine awp_seq fun K20 hK20 => ?_
      refine awp_region rfl ?_
      refine o_loadA [(bp (z < 0)), (AV.sl 1 (ns .i64 (digs (z).natAbs)))] Gd.none Zd_tA41 rfl rfl rfl rfl rfl ?_
      refine o_store [(2, (AO.var 24 [(AV.lit (.int .i64 (m.regs))), (AV.sl 4 (gcells cI (m.code)))])), (3, (AO.var 27 [(AV.lit (.int .i64 (c.at'))), (AV.sl 1 (is .i64 (c.regs)))])), (4, (oZ 41 .i64 (z))), (50, (AO.row 3 1 (ns .i64 (P30.take (j))))), (5, (oZ 41 .i64 (z)))] Gd.none Zd_tZ41 rfl rfl rfl rfl rfl rfl ?_
      refine aops_end ?_
      refine hK20 _ ?_
      refine awp_ret ?_
      refine post_ret ⟨[(intR (z))], And.intro ⟨4, (oZ 41 .i64 (z)), rfl, rfl, rfl, Or.inl ⟨Zd_tA41, AV.le_refl _⟩⟩ (trivial), rfl, ?_⟩
      rw [hp, List.drop_of_length_le (by omega)]; exact congrArg intR (Int.mul_one z)

end Go.Proofs.YtpamhblonmpniaaGreatDoor

set_option linter.unusedVariables false
set_option linter.unusedSimpArgs false
namespace Go.Proofs.YtpamhblonmpniaaGreatDoor
open Go Go.Ab Go.Mth
theorem Zc_tA24 : tyAgg cx.P 24 = some 2 := by kernel_rfl
theorem Zc_tA27 : tyAgg cx.P 27 = some 2 := by kernel_rfl
theorem Zc_tC4 : callable cx.P 4 = true := by kernel_rfl
theorem Zc_tC7 : callable cx.P 7 = true := by kernel_rfl
theorem Zc_tR28 : tyArr cx.P 28 = some (2, 9, 1) := by kernel_rfl
theorem Zc_tC5 : callable cx.P 5 = true := by kernel_rfl
theorem Zc_tC6 : callable cx.P 6 = true := by kernel_rfl
theorem Zc_tC8 : callable cx.P 8 = true := by kernel_rfl
theorem Zc_tC9 : callable cx.P 9 = true := by kernel_rfl
theorem Zc_tC10 : callable cx.P 10 = true := by kernel_rfl
theorem Zc_tO41 : tyZero cx.P 41 = some [(Go.Value.bool false), (Go.Value.slice none 0 0)] := by kernel_rfl
theorem Zc_tZ41 : tySize cx.P 41 = some 2 := by kernel_rfl
theorem Zc_tA41 : tyAgg cx.P 41 = some 2 := by kernel_rfl
theorem Zc_tC11 : callable cx.P 11 = true := by kernel_rfl
theorem Zc_tC12 : callable cx.P 12 = true := by kernel_rfl
theorem Zc_tO27 : tyZero cx.P 27 = some [(Go.Value.int IntKind.i64 0), (Go.Value.slice none 0 0)] := by kernel_rfl
theorem Zc_tZ27 : tySize cx.P 27 = some 2 := by kernel_rfl
theorem Zc_tC13 : callable cx.P 13 = true := by kernel_rfl
theorem Zc_tF27_0 : tyField cx.P 27 0 = some (0, 3) := by kernel_rfl
theorem Zc_tS3 : tySc cx.P 3 = true := by kernel_rfl
theorem Zc_tF24_1 : tyField cx.P 24 1 = some (1, 22) := by kernel_rfl
theorem Zc_tS22 : tySc cx.P 22 = true := by kernel_rfl
theorem Zc_tU22 : cx.P.underlying 22 = some (.slice 57) := by kernel_rfl
theorem Zc_tC14 : callable cx.P 14 = true := by kernel_rfl
theorem Zc_tC15 : callable cx.P 15 = true := by kernel_rfl
theorem Zc_tS9 : tySc cx.P 9 = true := by kernel_rfl
theorem Zc_tC16 : callable cx.P 16 = true := by kernel_rfl
theorem Zc_tC17 : callable cx.P 17 = true := by kernel_rfl
theorem Zc_tC18 : callable cx.P 18 = true := by kernel_rfl
theorem Zc_tC20 : callable cx.P 20 = true := by kernel_rfl
theorem Zc_tC19 : callable cx.P 19 = true := by kernel_rfl
set_option maxRecDepth 100000 in
theorem c_TopMachine (m : Mac) (c : Cfg) (a b : ByteArray) (hb : m.code.length ≤ 4398046511104) (hc : c.regs.length ≤ 17592186044416) (ha : a.size ≤ 9223372036854775807) (hb9 : b.size ≤ 9223372036854775807) : ECalls cx 3 [(macV m), (cfgV c), (AV.agg [(AV.lit (.string (a))), (AV.lit (.string (b)))])] (.lit (.bool true)) := by
  refine ecalls_of_awp Tryz.func3 (c := _) rfl (Nat.le_of_ble_eq_true rfl) ?_
  show awp cx 193 _ (postF cx Tryz.f3 _) ⟨[(0, (macV m)), (1, (cfgV c)), (2, (AV.agg [(AV.lit (.string (a))), (AV.lit (.string (b)))]))], []⟩
  have hS := cmpR_sz m
  have hco := comA_mac m
  have lC := fit_len hco.2.2.1
  have sC := txt_sz2 hco.2.2.1
  have oC := okS_iff.2 (okS_txt hco.2.2.1)
  refine awp_seq fun K0 hK0 => ?_
  refine awp_region rfl ?_
  refine o_box 2 [(AV.lit (.int .i64 (m.regs))), (AV.sl 4 (gcells cI (m.code)))] Gd.none rfl rfl ?_
  refine o_box 3 [(AV.lit (.int .i64 (c.at'))), (AV.sl 1 (is .i64 (c.regs)))] Gd.none rfl rfl ?_
  refine o_box 4 [(AV.lit (.string (a))), (AV.lit (.string (b)))] Gd.none rfl rfl ?_
  refine o_as (AV.lit (.bool false)) rfl ?_
  refine aops_end ?_
  refine hK0 _ ?_
  refine awp_seq fun K1 hK1 => ?_
  refine awp_seq fun K2 hK2 => ?_
  refine awp_region rfl ?_
  refine o_loadA [(AV.lit (.int .i64 (m.regs))), (AV.sl 4 (gcells cI (m.code)))] Gd.none Zc_tA24 rfl rfl rfl rfl rfl ?_
  refine o_loadA [(AV.lit (.int .i64 (c.at'))), (AV.sl 1 (is .i64 (c.regs)))] Gd.none Zc_tA27 rfl rfl rfl rfl rfl ?_
  refine o_ct (c_tFit m c) Gd.none Zc_tC4 rfl ?_
  refine o_notP (q := okCfg m c) Gd.none rfl ?_
  refine o_mv (bp (¬ (okCfg m c))) rfl ?_
  refine o_splitP (q := ¬ (okCfg m c)) 30 rfl (fun h1 => ?_) (fun h1 => ?_)
  · refine o_skip rfl rfl (decide_eq_true h1) ?_
    refine o_skip rfl rfl (decide_eq_true h1) ?_
    refine o_skip rfl rfl (decide_eq_true h1) ?_
    refine o_pickT (AV.lit (.bool true)) Gd.none rfl (decide_eq_true h1) rfl ?_
    refine o_mv (AV.lit (.bool true)) rfl ?_
    refine o_skip rfl rfl rfl ?_
    refine o_skip rfl rfl rfl ?_
    refine o_skip rfl rfl rfl ?_
    refine o_pickT (AV.lit (.bool true)) Gd.none rfl rfl rfl ?_
    refine aops_end ?_
    refine hK2 _ ?_
    refine awp_condB (b := true) rfl (fun _ => ?_) (fun hh => absurd (hh.symm.trans rfl) (by decide))
    refine awp_seq fun K3 hK3 => ?_
    refine awp_region rfl ?_
    refine o_ct c_tPlays Gd.none Zc_tC7 rfl ?_
    refine o_as (AV.lit (.bool true)) rfl ?_
    refine aops_end ?_
    refine hK3 _ ?_
    refine awp_ret ?_
    refine post_ret ⟨[(AV.lit (.bool true))], And.intro (AV.le_refl _) (trivial), rfl, ?_⟩
    first | rfl | simp [bp]
  · have hC := Decidable.not_not.1 h1
    refine n_sliceArr (0) (2) (0) (2) (Gd.yes rfl rfl (decide_eq_false h1)) Zc_tR28 rfl rfl rfl rfl rfl (by omega) (by omega) (by first | rfl | simp) (by first | rfl | omega) ?_
    refine o_callV [(4, (AO.var 28 [(AV.lit (.string (a))), (AV.lit (.string (b)))]))] [(AV.sl 1 (sbs ([a, b])))] (.bool (decide (ShortS ([a, b])))) (Gd.yes rfl rfl (decide_eq_false h1)) Zc_tC5 rfl (And.intro rfl (And.intro rfl (trivial))) rfl (by rfl) (c_tShort ([a, b]) (by simp) (by intro x hx; simp only [List.mem_cons, List.not_mem_nil, or_false] at hx; rcases hx with rfl | rfl <;> assumption)) ?_
    refine o_notP (q := ShortS ([a, b])) (Gd.yes rfl rfl (decide_eq_false h1)) rfl ?_
    refine o_pickF (bp (¬ (ShortS ([a, b])))) Gd.none rfl (decide_eq_false h1) rfl ?_
    refine o_mv (bp (¬ (ShortS ([a, b])))) rfl ?_
    refine o_splitP (q := ¬ (ShortS ([a, b]))) 35 rfl (fun h2 => ?_) (fun h2 => ?_)
    · refine o_skip rfl rfl (decide_eq_true h2) ?_
      refine o_skip rfl rfl (decide_eq_true h2) ?_
      refine o_skip rfl rfl (decide_eq_true h2) ?_
      refine o_pickT (AV.lit (.bool true)) Gd.none rfl (decide_eq_true h2) rfl ?_
      refine aops_end ?_
      refine hK2 _ ?_
      refine awp_condB (b := true) rfl (fun _ => ?_) (fun hh => absurd (hh.symm.trans rfl) (by decide))
      refine awp_seq fun K4 hK4 => ?_
      refine awp_region rfl ?_
      refine o_ct c_tPlays Gd.none Zc_tC7 rfl ?_
      refine o_as (AV.lit (.bool true)) rfl ?_
      refine aops_end ?_
      refine hK4 _ ?_
      refine awp_ret ?_
      refine post_ret ⟨[(AV.lit (.bool true))], And.intro (AV.le_refl _) (trivial), rfl, ?_⟩
      first | rfl | simp [bp]
    · have hsh := Decidable.not_not.1 h2
      have ha0 : shortB a = true := hsh 0 (by simp)
      have hb0 : shortB b = true := hsh 1 (by simp)
      have ha' := shortB_ok ha0
      have hb' := shortB_ok hb0
      refine o_loadA [(AV.lit (.int .i64 (c.at'))), (AV.sl 1 (is .i64 (c.regs)))] (Gd.yes rfl rfl (decide_eq_false h2)) Zc_tA27 rfl rfl rfl rfl rfl ?_
      refine o_ct (c_tModest m c hC) (Gd.yes rfl rfl (decide_eq_false h2)) Zc_tC6 rfl ?_
      refine o_notP (q := sumR c.regs c.regs.length ≤ 200) (Gd.yes rfl rfl (decide_eq_false h2)) rfl ?_
      refine o_pickF (bp (¬ (sumR c.regs c.regs.length ≤ 200))) Gd.none rfl (decide_eq_false h2) rfl ?_
      refine aops_end ?_
      refine hK2 _ ?_
      refine awp_condQ (q := ¬ (sumR c.regs c.regs.length ≤ 200)) rfl (fun h3 => ?_) (fun h3 => ?_)
      · refine awp_seq fun K5 hK5 => ?_
        refine awp_region rfl ?_
        refine o_ct c_tPlays Gd.none Zc_tC7 rfl ?_
        refine o_as (AV.lit (.bool true)) rfl ?_
        refine aops_end ?_
        refine hK5 _ ?_
        refine awp_ret ?_
        refine post_ret ⟨[(AV.lit (.bool true))], And.intro (AV.le_refl _) (trivial), rfl, ?_⟩
        first | rfl | simp [bp]
      · have hB0 := sum_reg hC (Decidable.not_not.1 h3)
        have hF0 := num_fit hC hB0 (by omega)
        have hen := ask_cfg hC hF0
        have lF := fit_len hF0
        refine awp_skip ?_
        refine hK1 _ ?_
        refine awp_seq fun K6 hK6 => ?_
        refine awp_region rfl ?_
        refine o_loadA [(AV.lit (.int .i64 (m.regs))), (AV.sl 4 (gcells cI (m.code)))] Gd.none Zc_tA24 rfl rfl rfl rfl rfl ?_
        refine o_ct (c_Compile m) Gd.none Zc_tC8 rfl ?_
        refine o_mv (AV.tup [(AV.sl 2 (gcells cF (cmpR m))), (nm .i64 (cmpE m))]) rfl ?_
        refine o_extract (AV.sl 2 (gcells cF (cmpR m))) Gd.none rfl rfl ?_
        refine o_extract (nm .i64 (cmpE m)) Gd.none rfl rfl ?_
        refine n_as (v' := (nm .i64 (0))) (by exact congrArg (nm _) (cmpE_0 hC)) ?_
        refine o_as (AV.sl 2 (gcells cF (cmpR m))) rfl ?_
        refine o_as (nm .i64 (0)) rfl ?_
        refine aops_end ?_
        refine hK6 _ ?_
        refine awp_seq fun K7 hK7 => ?_
        refine awp_region rfl ?_
        refine o_loadA [(AV.lit (.int .i64 (m.regs))), (AV.sl 4 (gcells cI (m.code)))] Gd.none Zc_tA24 rfl rfl rfl rfl rfl ?_
        refine o_loadA [(AV.lit (.int .i64 (c.at'))), (AV.sl 1 (is .i64 (c.regs)))] Gd.none Zc_tA27 rfl rfl rfl rfl rfl ?_
        refine o_ct (c_Encode m c) Gd.none Zc_tC9 rfl ?_
        refine o_mv (AV.tup [(AV.lit (.string (encS m c))), (nm .i64 (encE m c))]) rfl ?_
        refine o_extract (AV.lit (.string (encS m c))) Gd.none rfl rfl ?_
        refine n_as (v' := (AV.lit (.string (txt (numC m c))))) (by exact str_as2 hen.1) ?_
        refine o_extract (nm .i64 (encE m c)) Gd.none rfl rfl ?_
        refine n_as (v' := (nm .i64 (0))) (by exact congrArg (nm _) hen.2.1) ?_
        refine o_as (AV.lit (.string (txt (numC m c)))) rfl ?_
        refine o_as (nm .i64 (0)) rfl ?_
        refine aops_end ?_
        refine hK7 _ ?_
        refine awp_seq fun K8 hK8 => ?_
        refine awp_region rfl ?_
        refine o_loadA [(AV.lit (.int .i64 (m.regs))), (AV.sl 4 (gcells cI (m.code)))] Gd.none Zc_tA24 rfl rfl rfl rfl rfl ?_
        refine o_loadA [(AV.lit (.int .i64 (c.at'))), (AV.sl 1 (is .i64 (c.regs)))] Gd.none Zc_tA27 rfl rfl rfl rfl rfl ?_
        refine o_ct (c_tCode m c hC) Gd.none Zc_tC10 rfl ?_
        refine o_alloc 5 [(AV.lit (.bool false)), (AV.lit (.slice none 0 0))] Gd.none Zc_tO41 rfl rfl rfl ?_
        refine o_store [(5, (oZ 41 .i64 ((numC m c)))), (4, (AO.var 28 [(AV.lit (.string (a))), (AV.lit (.string (b)))])), (3, (AO.var 27 [(AV.lit (.int .i64 (c.at'))), (AV.sl 1 (is .i64 (c.regs)))])), (2, (AO.var 24 [(AV.lit (.int .i64 (m.regs))), (AV.sl 4 (gcells cI (m.code)))]))] Gd.none Zc_tZ41 rfl rfl rfl rfl rfl rfl ?_
        refine aops_end ?_
        refine hK8 _ ?_
        refine awp_seq fun K9 hK9 => ?_
        refine awp_seq fun K10 hK10 => ?_
        refine awp_region rfl ?_
        refine o_mv (nm .i64 (0)) rfl ?_
        refine n_neq (0) (0) Gd.none rfl rfl ?_
        refine o_mv (bp ((0) ≠ (0))) rfl ?_
        refine o_move (nm .i64 (0)) (Gd.yes rfl rfl (decide_eq_false (by decide))) rfl ?_
        refine n_neq (0) (0) (Gd.yes rfl rfl (decide_eq_false (by decide))) rfl rfl ?_
        refine o_pickF (bp ((0) ≠ (0))) Gd.none rfl (decide_eq_false (by decide)) rfl ?_
        refine o_mv (bp ((0) ≠ (0))) rfl ?_
        refine o_move (AV.lit (.string (txt (numC m c)))) (Gd.yes rfl rfl (decide_eq_false (by decide))) rfl ?_
        refine o_loadA [(bp ((numC m c) < 0)), (AV.sl 1 (ns .i64 (digs ((numC m c)).natAbs)))] (Gd.yes rfl rfl (decide_eq_false (by decide))) Zc_tA41 rfl rfl rfl rfl rfl ?_
        refine o_ct (c_rText ((numC m c)) (by first | omega | assumption | (simp only [Int.natAbs_neg]; omega))) (Gd.yes rfl rfl (decide_eq_false (by decide))) Zc_tC11 rfl ?_
        refine o_neqS (a := (txt (numC m c))) (c := (txt ((numC m c)))) (Gd.yes rfl rfl (decide_eq_false (by decide))) rfl rfl ?_
        refine n_as (v' := (AV.lit (.bool false))) (by exact bpn (fun e => e rfl)) ?_
        refine o_pickF (AV.lit (.bool false)) Gd.none rfl (decide_eq_false (by decide)) rfl ?_
        refine aops_end ?_
        refine hK10 _ ?_
        refine awp_condB (b := false) rfl (fun hh => absurd (hh.symm.trans rfl) (by decide)) (fun _ => ?_)
        refine awp_skip ?_
        refine hK9 _ ?_
        refine awp_seq fun K11 hK11 => ?_
        refine awp_seq fun K12 hK12 => ?_
        refine awp_region rfl ?_
        refine o_as (nm .i64 (0)) rfl ?_
        refine aops_end ?_
        refine hK12 _ ?_
        refine awp_block ?_
        refine awp_loopR (fun κ σ => ∃ (i : Nat), ∃ (d : Cfg), (i ≤ 20) ∧ (okCfg m d) ∧ (∀ n ∈ d.regs, n.toNat ≤ 200 + i) ∧ (20 - i) = κ ∧ σ = ⟨[(3, (AV.ref 2 (0))), (4, (AV.ref 3 (0))), (5, (AV.ref 4 (0))), (7, (AV.sl 2 (gcells cF (cmpR m)))), (9, (AV.lit (.string (txt (numC m d))))), (12, (nm .i64 (i)))], [(2, (AO.var 24 [(AV.lit (.int .i64 (m.regs))), (AV.sl 4 (gcells cI (m.code)))])), (3, (AO.var 27 [(AV.lit (.int .i64 (d.at'))), (AV.sl 1 (is .i64 (d.regs)))])), (4, (AO.var 28 [(AV.lit (.string (a))), (AV.lit (.string (b)))]))]⟩) ⟨_, _, ⟨0, c, (by omega), hC, hB0, rfl, rfl⟩, ?wk0⟩ ?rd0
        case wk0 =>
          exact Wk.sub (And.intro rfl (And.intro rfl (And.intro rfl (And.intro rfl (And.intro (by first | rfl | (simp)) (And.intro (by first | rfl | exact congrArg (nm _) (by omega) | exact nm_int (by omega) | exact nm_int (by simp [IntKind.wrap, IntKind.bits, IntKind.signed]; omega)) (trivial))))))) (And.intro rfl (And.intro rfl (And.intro rfl (trivial))))
        rintro κ _ ⟨i, d, hi, hd, hBd, rfl, rfl⟩
        have hFd := num_fit hd hBd (by omega)
        have lFd := fit_len hFd
        have hsd := txt_sz2 hFd
        refine awp_seq fun K13 hK13 => ?_
        refine awp_seq fun K14 hK14 => ?_
        refine awp_region rfl ?_
        refine o_mv (nm .i64 (i)) rfl ?_
        refine n_lss (i) (20) Gd.none rfl rfl ?_
        refine aops_end ?_
        refine hK14 _ ?_
        refine awp_condQ (q := (i) < (20)) rfl (fun h4 => ?_) (fun h4 => ?_)
        · refine awp_skip ?_
          refine hK13 _ ?_
          refine awp_seq fun K15 hK15 => ?_
          refine awp_block ?_
          refine awp_seq fun K16 hK16 => ?_
          refine awp_region rfl ?_
          refine o_loadA [(AV.lit (.int .i64 (m.regs))), (AV.sl 4 (gcells cI (m.code)))] Gd.none Zc_tA24 rfl rfl rfl rfl rfl ?_
          refine o_loadA [(AV.lit (.int .i64 (d.at'))), (AV.sl 1 (is .i64 (d.regs)))] Gd.none Zc_tA27 rfl rfl rfl rfl rfl ?_
          refine o_ct (c_tAct m d hd) Gd.none Zc_tC12 rfl ?_
          refine o_mv (AV.tup [(cfgV (actC m d)), (bp (stpE m d = 0))]) rfl ?_
          refine o_extract (cfgV (actC m d)) Gd.none rfl rfl ?_
          refine o_extract (bp (stpE m d = 0)) Gd.none rfl rfl ?_
          refine o_alloc 101 [(nm .i64 (0)), (AV.lit (.slice none 0 0))] Gd.none Zc_tO27 rfl rfl rfl ?_
          refine o_store [(101, (AO.var 27 [(AV.lit (.int .i64 ((actC m d).at'))), (AV.sl 1 (is .i64 ((actC m d).regs)))])), (2, (AO.var 24 [(AV.lit (.int .i64 (m.regs))), (AV.sl 4 (gcells cI (m.code)))])), (3, (AO.var 27 [(AV.lit (.int .i64 (d.at'))), (AV.sl 1 (is .i64 (d.regs)))])), (4, (AO.var 28 [(AV.lit (.string (a))), (AV.lit (.string (b)))]))] Gd.none Zc_tZ27 rfl rfl rfl rfl rfl rfl ?_
          refine o_as (bp (stpE m d = 0)) rfl ?_
          refine aops_end ?_
          refine hK16 _ ?_
          refine awp_seq fun K17 hK17 => ?_
          refine awp_region rfl ?_
          refine o_mv (AV.sl 2 (gcells cF (cmpR m))) rfl ?_
          refine o_mv (AV.lit (.string (txt (numC m d)))) rfl ?_
          refine o_ct (c_Play (cmpR m) (txt (numC m d)) ((2 : Int)) (by first | assumption | exact ex_sz) (by first | assumption | decide | omega)) Gd.none Zc_tC13 rfl ?_
          refine o_mv (AV.tup [(AV.lit (.string ((plyA (cmpR m) (txt (numC m d)) ((2 : Int))).1))), (nm .i64 ((plyA (cmpR m) (txt (numC m d)) ((2 : Int))).2.1)), (nm .i64 ((plyA (cmpR m) (txt (numC m d)) ((2 : Int))).2.2))]) rfl ?_
          refine o_extract (AV.lit (.string ((plyA (cmpR m) (txt (numC m d)) ((2 : Int))).1))) Gd.none rfl rfl ?_
          refine o_extract (nm .i64 ((plyA (cmpR m) (txt (numC m d)) ((2 : Int))).2.1)) Gd.none rfl rfl ?_
          refine o_extract (nm .i64 ((plyA (cmpR m) (txt (numC m d)) ((2 : Int))).2.2)) Gd.none rfl rfl ?_
          refine o_as (AV.lit (.string ((plyA (cmpR m) (txt (numC m d)) ((2 : Int))).1))) rfl ?_
          refine o_as (nm .i64 ((plyA (cmpR m) (txt (numC m d)) ((2 : Int))).2.1)) rfl ?_
          refine o_as (nm .i64 ((plyA (cmpR m) (txt (numC m d)) ((2 : Int))).2.2)) rfl ?_
          refine aops_end ?_
          refine hK17 _ ?_
          refine awp_seq fun K18 hK18 => ?_
          refine awp_seq fun K19 hK19 => ?_
          refine awp_region rfl ?_
          refine o_fieldRef 0 Gd.none Zc_tF27_0 rfl rfl ?_
          refine o_loadS (AV.lit (.int .i64 (d.at'))) Gd.none Zc_tS3 rfl rfl rfl ?_
          refine o_fieldRef 1 Gd.none Zc_tF24_1 rfl rfl ?_
          refine o_loadS (AV.sl 4 (gcells cI (m.code))) Gd.none Zc_tS22 rfl rfl rfl ?_
          refine g_len cI (m.code) cI_len Gd.none Zc_tU22 rfl ?_
          refine o_eql (a := (d.at')) (c := ((((m.code).length : Nat) : Int))) Gd.none rfl rfl ?_
          refine aops_end ?_
          refine hK19 _ ?_
          refine awp_condQ (q := (d.at') = ((((m.code).length : Nat) : Int))) rfl (fun h5 => ?_) (fun h5 => ?_)
          · have te := top_end hd hBd (by omega) h5
            refine awp_seq fun K20 hK20 => ?_
            refine awp_region rfl ?_
            refine o_mv (AV.sl 2 (gcells cF (cmpR m))) rfl ?_
            refine o_mv (AV.lit (.string (txt (numC m d)))) rfl ?_
            refine o_ct (c_First (cmpR m) (txt (numC m d)) (by assumption) (by first | assumption | decide | omega)) Gd.none Zc_tC14 rfl ?_
            refine o_mv (AV.tup [(AV.lit (.int .i64 (firI (cmpR m) (txt (numC m d))))), (nm .i64 (firE (cmpR m) (txt (numC m d))))]) rfl ?_
            refine o_extract (AV.lit (.int .i64 (firI (cmpR m) (txt (numC m d))))) Gd.none rfl rfl ?_
            refine o_extract (nm .i64 (firE (cmpR m) (txt (numC m d)))) Gd.none rfl rfl ?_
            refine o_as (AV.lit (.int .i64 (firI (cmpR m) (txt (numC m d))))) rfl ?_
            refine o_as (nm .i64 (firE (cmpR m) (txt (numC m d)))) rfl ?_
            refine aops_end ?_
            refine hK20 _ ?_
            refine awp_seq fun K21 hK21 => ?_
            refine awp_seq fun K22 hK22 => ?_
            refine awp_region rfl ?_
            refine o_mv (nm .i64 (firE (cmpR m) (txt (numC m d)))) rfl ?_
            refine n_neq (firE (cmpR m) (txt (numC m d))) (4) Gd.none rfl rfl ?_
            refine n_as (v' := (AV.lit (.bool false))) (by exact bpn (fun e => e te.2)) ?_
            refine o_mv (AV.lit (.bool false)) rfl ?_
            refine o_move (nm .i64 ((plyA (cmpR m) (txt (numC m d)) ((2 : Int))).2.2)) (Gd.yes rfl rfl rfl) rfl ?_
            refine n_neq ((plyA (cmpR m) (txt (numC m d)) ((2 : Int))).2.2) (0) (Gd.yes rfl rfl rfl) rfl rfl ?_
            refine n_as (v' := (AV.lit (.bool false))) (by exact bpn (fun e => e (congrArg (fun q => q.2.2) te.1))) ?_
            refine o_pickF (AV.lit (.bool false)) Gd.none rfl rfl rfl ?_
            refine o_mv (AV.lit (.bool false)) rfl ?_
            refine o_move (nm .i64 ((plyA (cmpR m) (txt (numC m d)) ((2 : Int))).2.1)) (Gd.yes rfl rfl rfl) rfl ?_
            refine n_neq ((plyA (cmpR m) (txt (numC m d)) ((2 : Int))).2.1) (0) (Gd.yes rfl rfl rfl) rfl rfl ?_
            refine n_as (v' := (AV.lit (.bool false))) (by exact bpn (fun e => e (congrArg (fun q => q.2.1) te.1))) ?_
            refine o_pickF (AV.lit (.bool false)) Gd.none rfl rfl rfl ?_
            refine o_mv (AV.lit (.bool false)) rfl ?_
            refine o_move (AV.lit (.string ((plyA (cmpR m) (txt (numC m d)) ((2 : Int))).1))) (Gd.yes rfl rfl rfl) rfl ?_
            refine o_move (AV.lit (.string (txt (numC m d)))) (Gd.yes rfl rfl rfl) rfl ?_
            refine o_neqS (a := ((plyA (cmpR m) (txt (numC m d)) ((2 : Int))).1)) (c := (txt (numC m d))) (Gd.yes rfl rfl rfl) rfl rfl ?_
            refine n_as (v' := (AV.lit (.bool false))) (by exact bpn (fun e => e (congrArg (fun q => q.1.toList) te.1))) ?_
            refine o_pickF (AV.lit (.bool false)) Gd.none rfl rfl rfl ?_
            refine aops_end ?_
            refine hK22 _ ?_
            refine awp_condB (b := false) rfl (fun hh => absurd (hh.symm.trans rfl) (by decide)) (fun _ => ?_)
            refine awp_skip ?_
            refine hK21 _ ?_
            refine awp_exit ?_
            refine hK11 _ ?_
            refine awp_seq fun K23 hK23 => ?_
            refine awp_region rfl ?_
            refine o_mv (AV.sl 2 (gcells cF (cmpR m))) rfl ?_
            refine o_ct (c_Common (cmpR m) (by assumption)) Gd.none Zc_tC15 rfl ?_
            refine o_mv (AV.tup [(AV.lit (.string ((comA (cmpR m)).1))), (nm .i64 ((comA (cmpR m)).2))]) rfl ?_
            refine o_extract (AV.lit (.string ((comA (cmpR m)).1))) Gd.none rfl rfl ?_
            refine n_as (v' := (AV.lit (.string (txt (comR (cmpR m) 1))))) (by exact str_as2 hco.2.1) ?_
            refine o_extract (nm .i64 ((comA (cmpR m)).2)) Gd.none rfl rfl ?_
            refine n_as (v' := (nm .i64 (0))) (by exact congrArg (nm _) hco.1) ?_
            refine o_as (AV.lit (.string (txt (comR (cmpR m) 1)))) rfl ?_
            refine o_as (nm .i64 (0)) rfl ?_
            refine aops_end ?_
            refine hK23 _ ?_
            refine awp_seq fun K24 hK24 => ?_
            refine awp_regionD rfl ?_
            refine n_indexArr (0) (0) Gd.none Zc_tR28 rfl rfl (by omega) (by first | rfl | simp) ?_
            refine o_loadS (AV.lit (.string (a))) Gd.none Zc_tS9 rfl rfl rfl ?_
            refine o_ct (c_rParse (a) (by first | assumption | exact okS_iff.1 (by assumption))) Gd.none Zc_tC16 rfl ?_
            refine n_indexArr (1) (1) Gd.none Zc_tR28 rfl rfl (by omega) (by first | rfl | simp) ?_
            refine o_loadS (AV.lit (.string (b))) Gd.none Zc_tS9 rfl rfl rfl ?_
            refine o_ct (c_rParse (b) (by first | assumption | exact okS_iff.1 (by assumption))) Gd.none Zc_tC16 rfl ?_
            refine o_alloc 102 [(AV.lit (.bool false)), (AV.lit (.slice none 0 0))] Gd.none Zc_tO41 rfl rfl rfl ?_
            refine o_alloc 103 [(AV.lit (.bool false)), (AV.lit (.slice none 0 0))] Gd.none Zc_tO41 rfl rfl rfl ?_
            refine o_store [(103, (AO.var 41 [(AV.lit (.bool false)), (AV.lit (.slice none 0 0))])), (102, (oZ 41 .i64 ((numS (a))))), (101, (AO.var 27 [(AV.lit (.int .i64 ((actC m d).at'))), (AV.sl 1 (is .i64 ((actC m d).regs)))])), (2, (AO.var 24 [(AV.lit (.int .i64 (m.regs))), (AV.sl 4 (gcells cI (m.code)))])), (3, (AO.var 27 [(AV.lit (.int .i64 (d.at'))), (AV.sl 1 (is .i64 (d.regs)))])), (4, (AO.var 28 [(AV.lit (.string (a))), (AV.lit (.string (b)))]))] Gd.none Zc_tZ41 rfl rfl rfl rfl rfl rfl ?_
            refine o_store [(103, (oZ 41 .i64 ((numS (b))))), (102, (oZ 41 .i64 ((numS (a))))), (101, (AO.var 27 [(AV.lit (.int .i64 ((actC m d).at'))), (AV.sl 1 (is .i64 ((actC m d).regs)))])), (2, (AO.var 24 [(AV.lit (.int .i64 (m.regs))), (AV.sl 4 (gcells cI (m.code)))])), (3, (AO.var 27 [(AV.lit (.int .i64 (d.at'))), (AV.sl 1 (is .i64 (d.regs)))])), (4, (AO.var 28 [(AV.lit (.string (a))), (AV.lit (.string (b)))]))] Gd.none Zc_tZ41 rfl rfl rfl rfl rfl rfl ?_
            refine aops_end ⟨by kernel_rfl, ?_⟩
            refine hK24 _ ?_
            refine awp_seq fun K25 hK25 => ?_
            refine awp_seq fun K26 hK26 => ?_
            refine awp_region rfl ?_
            refine o_mv (nm .i64 (0)) rfl ?_
            refine n_neq (0) (0) Gd.none rfl rfl ?_
            refine o_mv (bp ((0) ≠ (0))) rfl ?_
            refine o_move (AV.lit (.string (txt (comR (cmpR m) 1)))) (Gd.yes rfl rfl (decide_eq_false (by decide))) rfl ?_
            refine o_ct (c_rValid (txt (comR (cmpR m) 1)) (by first | assumption | decide | omega)) (Gd.yes rfl rfl (decide_eq_false (by decide))) Zc_tC17 rfl ?_
            refine o_not (b := okS (txt (comR (cmpR m) 1))) (Gd.yes rfl rfl (decide_eq_false (by decide))) rfl ?_
            refine n_as (v' := (AV.lit (.bool false))) (by rw [oC]; rfl) ?_
            refine o_pickF (AV.lit (.bool false)) Gd.none rfl (decide_eq_false (by decide)) rfl ?_
            refine o_mv (AV.lit (.bool false)) rfl ?_
            refine o_loadA [(bp ((numS (a)) < 0)), (AV.sl 1 (ns .i64 (digs ((numS (a))).natAbs)))] (Gd.yes rfl rfl rfl) Zc_tA41 rfl rfl rfl rfl rfl ?_
            refine o_ct (c_rSign ((numS (a)))) (Gd.yes rfl rfl rfl) Zc_tC18 rfl ?_
            refine o_leq (a := (sgn ((numS (a))))) (c := (((0 : Nat) : Int))) (Gd.yes rfl rfl rfl) rfl rfl ?_
            refine o_pickF (bp ((sgn ((numS (a)))) ≤ (((0 : Nat) : Int)))) Gd.none rfl rfl rfl ?_
            refine o_mv (bp ((sgn ((numS (a)))) ≤ (((0 : Nat) : Int)))) rfl ?_
            refine o_splitP (q := (sgn ((numS (a)))) ≤ (((0 : Nat) : Int))) 152 rfl (fun h6 => ?_) (fun h6 => ?_)
            · refine o_skip rfl rfl (decide_eq_true h6) ?_
              refine o_skip rfl rfl (decide_eq_true h6) ?_
              refine o_skip rfl rfl (decide_eq_true h6) ?_
              refine o_pickT (AV.lit (.bool true)) Gd.none rfl (decide_eq_true h6) rfl ?_
              refine aops_end ?_
              refine hK26 _ ?_
              refine awp_condB (b := true) rfl (fun _ => ?_) (fun hh => absurd (hh.symm.trans rfl) (by decide))
              refine awp_seq fun K27 hK27 => ?_
              refine awp_region rfl ?_
              refine o_mv (nm .i64 (0)) rfl ?_
              refine n_eql (0) (0) Gd.none rfl rfl ?_
              refine o_mv (bp ((0) = (0))) rfl ?_
              refine o_ct c_tPlays (Gd.yes rfl rfl (decide_eq_true (by decide))) Zc_tC7 rfl ?_
              refine o_pickT (AV.lit (.bool true)) Gd.none rfl (decide_eq_true (by decide)) rfl ?_
              refine o_as (AV.lit (.bool true)) rfl ?_
              refine aops_end ?_
              refine hK27 _ ?_
              refine awp_ret ?_
              refine post_ret ⟨[(AV.lit (.bool true))], And.intro (AV.le_refl _) (trivial), rfl, ?_⟩
              first | rfl | simp [bp]
            · refine o_loadA [(bp ((numS (b)) < 0)), (AV.sl 1 (ns .i64 (digs ((numS (b))).natAbs)))] (Gd.yes rfl rfl (decide_eq_false h6)) Zc_tA41 rfl rfl rfl rfl rfl ?_
              refine o_ct (c_rSign ((numS (b)))) (Gd.yes rfl rfl (decide_eq_false h6)) Zc_tC18 rfl ?_
              refine o_lss (a := (sgn ((numS (b))))) (c := (((0 : Nat) : Int))) (Gd.yes rfl rfl (decide_eq_false h6)) rfl rfl ?_
              refine o_pickF (bp ((sgn ((numS (b)))) < (((0 : Nat) : Int)))) Gd.none rfl (decide_eq_false h6) rfl ?_
              refine aops_end ?_
              refine hK26 _ ?_
              refine awp_condQ (q := (sgn ((numS (b)))) < (((0 : Nat) : Int))) rfl (fun h7 => ?_) (fun h7 => ?_)
              · refine awp_seq fun K28 hK28 => ?_
                refine awp_region rfl ?_
                refine o_mv (nm .i64 (0)) rfl ?_
                refine n_eql (0) (0) Gd.none rfl rfl ?_
                refine o_mv (bp ((0) = (0))) rfl ?_
                refine o_ct c_tPlays (Gd.yes rfl rfl (decide_eq_true (by decide))) Zc_tC7 rfl ?_
                refine o_pickT (AV.lit (.bool true)) Gd.none rfl (decide_eq_true (by decide)) rfl ?_
                refine o_as (AV.lit (.bool true)) rfl ?_
                refine aops_end ?_
                refine hK28 _ ?_
                refine awp_ret ?_
                refine post_ret ⟨[(AV.lit (.bool true))], And.intro (AV.le_refl _) (trivial), rfl, ?_⟩
                first | rfl | simp [bp]
              · refine awp_skip ?_
                refine hK25 _ ?_
                refine awp_seq fun K29 hK29 => ?_
                have h0a : 0 < numS a := (by have q := (not_congr sgn_le).1 (by assumption); omega)
                have h0b : 0 ≤ numS b := (by have q := (not_congr sgn_neg).1 (by assumption); omega)
                have hs := top_same (m := m) ha' (shortB_le ha0) hb' (shortB_le hb0) h0a h0b
                have la := fit_len hs.1
                have lb := fit_len (fit_numS (okS_iff.1 hb'))
                have l1 := len_mulZ (numS (b)) (comR (cmpR m) 1)
                have l2 := fit_len hs.2.1
                have s1 := txt_sz2 hs.1
                have s2 := txt_sz2 hs.2.1
                refine awp_regionD rfl ?_
                refine o_loadA [(bp ((numS (a)) < 0)), (AV.sl 1 (ns .i64 (digs ((numS (a))).natAbs)))] Gd.none Zc_tA41 rfl rfl rfl rfl rfl ?_
                refine o_loadA [(bp ((numS (b)) < 0)), (AV.sl 1 (ns .i64 (digs ((numS (b))).natAbs)))] Gd.none Zc_tA41 rfl rfl rfl rfl rfl ?_
                refine o_mv (AV.lit (.string (txt (comR (cmpR m) 1)))) rfl ?_
                refine o_ct (c_rParse (txt (comR (cmpR m) 1)) (by first | assumption | exact okS_iff.1 (by assumption))) Gd.none Zc_tC16 rfl ?_
                refine n_as (v' := (intR ((comR (cmpR m) 1)))) (by exact congrArg intR (numS_txt _)) ?_
                refine o_ct (c_rMul ((numS (b))) ((comR (cmpR m) 1)) (by first | omega | assumption | (simp only [Int.natAbs_neg]; omega)) (by first | omega | assumption | (simp only [Int.natAbs_neg]; omega))) Gd.none Zc_tC20 rfl ?_
                refine o_ct (c_rAdd ((numS (a))) (((numS (b)) * (comR (cmpR m) 1))) (by first | omega | assumption | (simp only [Int.natAbs_neg]; omega)) (by first | omega | assumption | (simp only [Int.natAbs_neg]; omega))) Gd.none Zc_tC19 rfl ?_
                refine o_store [(103, (oZ 41 .i64 (((numS (a)) + ((numS (b)) * (comR (cmpR m) 1)))))), (102, (oZ 41 .i64 ((numS (a))))), (101, (AO.var 27 [(AV.lit (.int .i64 ((actC m d).at'))), (AV.sl 1 (is .i64 ((actC m d).regs)))])), (2, (AO.var 24 [(AV.lit (.int .i64 (m.regs))), (AV.sl 4 (gcells cI (m.code)))])), (3, (AO.var 27 [(AV.lit (.int .i64 (d.at'))), (AV.sl 1 (is .i64 (d.regs)))])), (4, (AO.var 28 [(AV.lit (.string (a))), (AV.lit (.string (b)))]))] Gd.none Zc_tZ41 rfl rfl rfl rfl rfl rfl ?_
                refine aops_end ⟨by kernel_rfl, ?_⟩
                refine hK29 _ ?_
                refine awp_seq fun K30 hK30 => ?_
                refine awp_region rfl ?_
                refine o_mv (AV.sl 2 (gcells cF (cmpR m))) rfl ?_
                refine o_loadA [(bp ((numS (a)) < 0)), (AV.sl 1 (ns .i64 (digs ((numS (a))).natAbs)))] Gd.none Zc_tA41 rfl rfl rfl rfl rfl ?_
                refine o_ct (c_rText ((numS (a))) (by first | omega | assumption | (simp only [Int.natAbs_neg]; omega))) Gd.none Zc_tC11 rfl ?_
                refine o_ct (c_First (cmpR m) (txt ((numS (a)))) (by assumption) (by first | assumption | decide | omega)) Gd.none Zc_tC14 rfl ?_
                refine o_mv (AV.tup [(AV.lit (.int .i64 (firI (cmpR m) (txt ((numS (a))))))), (nm .i64 (firE (cmpR m) (txt ((numS (a))))))]) rfl ?_
                refine o_extract (AV.lit (.int .i64 (firI (cmpR m) (txt ((numS (a))))))) Gd.none rfl rfl ?_
                refine o_extract (nm .i64 (firE (cmpR m) (txt ((numS (a)))))) Gd.none rfl rfl ?_
                refine o_as (AV.lit (.int .i64 (firI (cmpR m) (txt ((numS (a))))))) rfl ?_
                refine o_as (nm .i64 (firE (cmpR m) (txt ((numS (a)))))) rfl ?_
                refine aops_end ?_
                refine hK30 _ ?_
                refine awp_seq fun K31 hK31 => ?_
                refine awp_region rfl ?_
                refine o_mv (AV.sl 2 (gcells cF (cmpR m))) rfl ?_
                refine o_loadA [(bp (((numS (a)) + ((numS (b)) * (comR (cmpR m) 1))) < 0)), (AV.sl 1 (ns .i64 (digs (((numS (a)) + ((numS (b)) * (comR (cmpR m) 1)))).natAbs)))] Gd.none Zc_tA41 rfl rfl rfl rfl rfl ?_
                refine o_ct (c_rText (((numS (a)) + ((numS (b)) * (comR (cmpR m) 1)))) (by first | omega | assumption | (simp only [Int.natAbs_neg]; omega))) Gd.none Zc_tC11 rfl ?_
                refine o_ct (c_First (cmpR m) (txt (((numS (a)) + ((numS (b)) * (comR (cmpR m) 1))))) (by assumption) (by first | assumption | decide | omega)) Gd.none Zc_tC14 rfl ?_
                refine o_mv (AV.tup [(AV.lit (.int .i64 (firI (cmpR m) (txt (((numS (a)) + ((numS (b)) * (comR (cmpR m) 1)))))))), (nm .i64 (firE (cmpR m) (txt (((numS (a)) + ((numS (b)) * (comR (cmpR m) 1)))))))]) rfl ?_
                refine o_extract (AV.lit (.int .i64 (firI (cmpR m) (txt (((numS (a)) + ((numS (b)) * (comR (cmpR m) 1)))))))) Gd.none rfl rfl ?_
                refine o_extract (nm .i64 (firE (cmpR m) (txt (((numS (a)) + ((numS (b)) * (comR (cmpR m) 1))))))) Gd.none rfl rfl ?_
                refine o_as (AV.lit (.int .i64 (firI (cmpR m) (txt (((numS (a)) + ((numS (b)) * (comR (cmpR m) 1)))))))) rfl ?_
                refine o_as (nm .i64 (firE (cmpR m) (txt (((numS (a)) + ((numS (b)) * (comR (cmpR m) 1))))))) rfl ?_
                refine aops_end ?_
                refine hK31 _ ?_
                refine awp_seq fun K32 hK32 => ?_
                refine awp_region rfl ?_
                refine o_mv (AV.lit (.int .i64 (firI (cmpR m) (txt ((numS (a))))))) rfl ?_
                refine o_mv (AV.lit (.int .i64 (firI (cmpR m) (txt (((numS (a)) + ((numS (b)) * (comR (cmpR m) 1)))))))) rfl ?_
                refine o_eql (a := (firI (cmpR m) (txt ((numS (a)))))) (c := (firI (cmpR m) (txt (((numS (a)) + ((numS (b)) * (comR (cmpR m) 1))))))) Gd.none rfl rfl ?_
                refine n_as (v' := (AV.lit (.bool true))) (by exact bpy hs.2.2.1) ?_
                refine o_mv (AV.lit (.bool true)) rfl ?_
                refine o_move (nm .i64 (firE (cmpR m) (txt ((numS (a)))))) (Gd.yes rfl rfl rfl) rfl ?_
                refine o_move (nm .i64 (firE (cmpR m) (txt (((numS (a)) + ((numS (b)) * (comR (cmpR m) 1))))))) (Gd.yes rfl rfl rfl) rfl ?_
                refine n_eql (firE (cmpR m) (txt ((numS (a))))) (firE (cmpR m) (txt (((numS (a)) + ((numS (b)) * (comR (cmpR m) 1)))))) (Gd.yes rfl rfl rfl) rfl rfl ?_
                refine n_as (v' := (AV.lit (.bool true))) (by exact bpy hs.2.2.2) ?_
                refine o_pickT (AV.lit (.bool true)) Gd.none rfl rfl rfl ?_
                refine o_mv (AV.lit (.bool true)) rfl ?_
                refine o_ct c_tPlays (Gd.yes rfl rfl rfl) Zc_tC7 rfl ?_
                refine o_pickT (AV.lit (.bool true)) Gd.none rfl rfl rfl ?_
                refine o_as (AV.lit (.bool true)) rfl ?_
                refine aops_end ?_
                refine hK32 _ ?_
                refine awp_ret ?_
                refine post_ret ⟨[(AV.lit (.bool true))], And.intro (AV.le_refl _) (trivial), rfl, ?_⟩
                first | rfl | simp [bp]
          · have tg := top_go hd hBd (by omega) h5
            have tg2 := tg.2.1
            have lFn := fit_len (num_fit tg.2.1 tg.2.2.1 (by omega))
            refine awp_skip ?_
            refine hK18 _ ?_
            refine awp_seq fun K33 hK33 => ?_
            refine awp_seq fun K34 hK34 => ?_
            refine awp_region rfl ?_
            refine o_mv (bp (stpE m d = 0)) rfl ?_
            refine o_notP (q := stpE m d = 0) Gd.none rfl ?_
            refine n_as (v' := (AV.lit (.bool false))) (by exact bpn (fun e => e tg.1)) ?_
            refine aops_end ?_
            refine hK34 _ ?_
            refine awp_condB (b := false) rfl (fun hh => absurd (hh.symm.trans rfl) (by decide)) (fun _ => ?_)
            refine awp_skip ?_
            refine hK33 _ ?_
            refine awp_seq fun K35 hK35 => ?_
            refine awp_regionD rfl ?_
            refine o_loadA [(AV.lit (.int .i64 ((actC m d).at'))), (AV.sl 1 (is .i64 ((actC m d).regs)))] Gd.none Zc_tA27 rfl rfl rfl rfl rfl ?_
            refine n_as (v' := (cfgV (stpC m d))) (by exact congrArg cfgV (act_go h5)) ?_
            refine o_loadA [(AV.lit (.int .i64 (m.regs))), (AV.sl 4 (gcells cI (m.code)))] Gd.none Zc_tA24 rfl rfl rfl rfl rfl ?_
            refine o_loadA [(AV.lit (.int .i64 ((actC m d).at'))), (AV.sl 1 (is .i64 ((actC m d).regs)))] Gd.none Zc_tA27 rfl rfl rfl rfl rfl ?_
            refine n_as (v' := (cfgV (stpC m d))) (by exact congrArg cfgV (act_go h5)) ?_
            refine o_ct (c_tCode m (stpC m d) tg2) Gd.none Zc_tC10 rfl ?_
            refine o_ct (c_rText ((numC m (stpC m d))) (by first | omega | assumption | (simp only [Int.natAbs_neg]; omega))) Gd.none Zc_tC11 rfl ?_
            refine o_store [(101, (AO.var 27 [(AV.lit (.int .i64 ((actC m d).at'))), (AV.sl 1 (is .i64 ((actC m d).regs)))])), (2, (AO.var 24 [(AV.lit (.int .i64 (m.regs))), (AV.sl 4 (gcells cI (m.code)))])), (3, (AO.var 27 [(AV.lit (.int .i64 ((stpC m d).at'))), (AV.sl 1 (is .i64 ((stpC m d).regs)))])), (4, (AO.var 28 [(AV.lit (.string (a))), (AV.lit (.string (b)))]))] Gd.none Zc_tZ27 rfl rfl rfl rfl rfl rfl ?_
            refine o_as (AV.lit (.string (txt ((numC m (stpC m d)))))) rfl ?_
            refine aops_end ⟨by kernel_rfl, ?_⟩
            refine hK35 _ ?_
            refine awp_seq fun K36 hK36 => ?_
            refine awp_region rfl ?_
            refine o_mv (nm .i64 ((plyA (cmpR m) (txt (numC m d)) ((2 : Int))).2.2)) rfl ?_
            refine n_neq ((plyA (cmpR m) (txt (numC m d)) ((2 : Int))).2.2) (0) Gd.none rfl rfl ?_
            refine n_as (v' := (AV.lit (.bool false))) (by exact bpn (fun e => e (congrArg (fun q => q.2.2) tg.2.2.2))) ?_
            refine o_mv (AV.lit (.bool false)) rfl ?_
            refine o_move (nm .i64 ((plyA (cmpR m) (txt (numC m d)) ((2 : Int))).2.1)) (Gd.yes rfl rfl rfl) rfl ?_
            refine n_neq ((plyA (cmpR m) (txt (numC m d)) ((2 : Int))).2.1) (2) (Gd.yes rfl rfl rfl) rfl rfl ?_
            refine n_as (v' := (AV.lit (.bool false))) (by exact bpn (fun e => e (congrArg (fun q => q.2.1) tg.2.2.2))) ?_
            refine o_pickF (AV.lit (.bool false)) Gd.none rfl rfl rfl ?_
            refine o_mv (AV.lit (.bool false)) rfl ?_
            refine o_move (AV.lit (.string ((plyA (cmpR m) (txt (numC m d)) ((2 : Int))).1))) (Gd.yes rfl rfl rfl) rfl ?_
            refine o_move (AV.lit (.string (txt ((numC m (stpC m d)))))) (Gd.yes rfl rfl rfl) rfl ?_
            refine o_neqS (a := ((plyA (cmpR m) (txt (numC m d)) ((2 : Int))).1)) (c := (txt ((numC m (stpC m d))))) (Gd.yes rfl rfl rfl) rfl rfl ?_
            refine n_as (v' := (AV.lit (.bool false))) (by exact bpn (fun e => e (congrArg (fun q => q.1.toList) tg.2.2.2))) ?_
            refine o_pickF (AV.lit (.bool false)) Gd.none rfl rfl rfl ?_
            refine aops_end ?_
            refine hK36 _ ?_
            refine awp_condB (b := false) rfl (fun hh => absurd (hh.symm.trans rfl) (by decide)) (fun _ => ?_)
            refine awp_skip ?_
            refine hK15 _ ?_
            refine awp_region rfl ?_
            refine o_mv (nm .i64 (i)) rfl ?_
            refine n_add (i) (1) Gd.none rfl rfl (by simp only [topOf]; omega) ?_
            refine o_as (nm .i64 ((i) + (1))) rfl ?_
            refine aops_end ?_
            refine ⟨_, _, ?lt, ⟨i + 1, (stpC m d), (by omega), tg.2.1, tg.2.2.1, rfl, rfl⟩, ?wk⟩
            case lt => omega
            case wk => exact Wk.sub (And.intro rfl (And.intro rfl (And.intro rfl (And.intro rfl (And.intro (by first | rfl | (simp)) (And.intro (by first | rfl | exact congrArg (nm _) (by omega) | exact nm_int (by omega) | exact nm_int (by simp [IntKind.wrap, IntKind.bits, IntKind.signed]; omega)) (trivial))))))) (And.intro rfl (And.intro rfl (And.intro rfl (trivial))))
        · refine awp_exit ?_
          refine hK11 _ ?_
          refine awp_seq fun K37 hK37 => ?_
          refine awp_region rfl ?_
          refine o_mv (AV.sl 2 (gcells cF (cmpR m))) rfl ?_
          refine o_ct (c_Common (cmpR m) (by assumption)) Gd.none Zc_tC15 rfl ?_
          refine o_mv (AV.tup [(AV.lit (.string ((comA (cmpR m)).1))), (nm .i64 ((comA (cmpR m)).2))]) rfl ?_
          refine o_extract (AV.lit (.string ((comA (cmpR m)).1))) Gd.none rfl rfl ?_
          refine n_as (v' := (AV.lit (.string (txt (comR (cmpR m) 1))))) (by exact str_as2 hco.2.1) ?_
          refine o_extract (nm .i64 ((comA (cmpR m)).2)) Gd.none rfl rfl ?_
          refine n_as (v' := (nm .i64 (0))) (by exact congrArg (nm _) hco.1) ?_
          refine o_as (AV.lit (.string (txt (comR (cmpR m) 1)))) rfl ?_
          refine o_as (nm .i64 (0)) rfl ?_
          refine aops_end ?_
          refine hK37 _ ?_
          refine awp_seq fun K38 hK38 => ?_
          refine awp_regionD rfl ?_
          refine n_indexArr (0) (0) Gd.none Zc_tR28 rfl rfl (by omega) (by first | rfl | simp) ?_
          refine o_loadS (AV.lit (.string (a))) Gd.none Zc_tS9 rfl rfl rfl ?_
          refine o_ct (c_rParse (a) (by first | assumption | exact okS_iff.1 (by assumption))) Gd.none Zc_tC16 rfl ?_
          refine n_indexArr (1) (1) Gd.none Zc_tR28 rfl rfl (by omega) (by first | rfl | simp) ?_
          refine o_loadS (AV.lit (.string (b))) Gd.none Zc_tS9 rfl rfl rfl ?_
          refine o_ct (c_rParse (b) (by first | assumption | exact okS_iff.1 (by assumption))) Gd.none Zc_tC16 rfl ?_
          refine o_alloc 101 [(AV.lit (.bool false)), (AV.lit (.slice none 0 0))] Gd.none Zc_tO41 rfl rfl rfl ?_
          refine o_alloc 102 [(AV.lit (.bool false)), (AV.lit (.slice none 0 0))] Gd.none Zc_tO41 rfl rfl rfl ?_
          refine o_store [(102, (AO.var 41 [(AV.lit (.bool false)), (AV.lit (.slice none 0 0))])), (101, (oZ 41 .i64 ((numS (a))))), (2, (AO.var 24 [(AV.lit (.int .i64 (m.regs))), (AV.sl 4 (gcells cI (m.code)))])), (3, (AO.var 27 [(AV.lit (.int .i64 (d.at'))), (AV.sl 1 (is .i64 (d.regs)))])), (4, (AO.var 28 [(AV.lit (.string (a))), (AV.lit (.string (b)))]))] Gd.none Zc_tZ41 rfl rfl rfl rfl rfl rfl ?_
          refine o_store [(102, (oZ 41 .i64 ((numS (b))))), (101, (oZ 41 .i64 ((numS (a))))), (2, (AO.var 24 [(AV.lit (.int .i64 (m.regs))), (AV.sl 4 (gcells cI (m.code)))])), (3, (AO.var 27 [(AV.lit (.int .i64 (d.at'))), (AV.sl 1 (is .i64 (d.regs)))])), (4, (AO.var 28 [(AV.lit (.string (a))), (AV.lit (.string (b)))]))] Gd.none Zc_tZ41 rfl rfl rfl rfl rfl rfl ?_
          refine aops_end ⟨by kernel_rfl, ?_⟩
          refine hK38 _ ?_
          refine awp_seq fun K39 hK39 => ?_
          refine awp_seq fun K40 hK40 => ?_
          refine awp_region rfl ?_
          refine o_mv (nm .i64 (0)) rfl ?_
          refine n_neq (0) (0) Gd.none rfl rfl ?_
          refine o_mv (bp ((0) ≠ (0))) rfl ?_
          refine o_move (AV.lit (.string (txt (comR (cmpR m) 1)))) (Gd.yes rfl rfl (decide_eq_false (by decide))) rfl ?_
          refine o_ct (c_rValid (txt (comR (cmpR m) 1)) (by first | assumption | decide | omega)) (Gd.yes rfl rfl (decide_eq_false (by decide))) Zc_tC17 rfl ?_
          refine o_not (b := okS (txt (comR (cmpR m) 1))) (Gd.yes rfl rfl (decide_eq_false (by decide))) rfl ?_
          refine n_as (v' := (AV.lit (.bool false))) (by rw [oC]; rfl) ?_
          refine o_pickF (AV.lit (.bool false)) Gd.none rfl (decide_eq_false (by decide)) rfl ?_
          refine o_mv (AV.lit (.bool false)) rfl ?_
          refine o_loadA [(bp ((numS (a)) < 0)), (AV.sl 1 (ns .i64 (digs ((numS (a))).natAbs)))] (Gd.yes rfl rfl rfl) Zc_tA41 rfl rfl rfl rfl rfl ?_
          refine o_ct (c_rSign ((numS (a)))) (Gd.yes rfl rfl rfl) Zc_tC18 rfl ?_
          refine o_leq (a := (sgn ((numS (a))))) (c := (((0 : Nat) : Int))) (Gd.yes rfl rfl rfl) rfl rfl ?_
          refine o_pickF (bp ((sgn ((numS (a)))) ≤ (((0 : Nat) : Int)))) Gd.none rfl rfl rfl ?_
          refine o_mv (bp ((sgn ((numS (a)))) ≤ (((0 : Nat) : Int)))) rfl ?_
          refine o_splitP (q := (sgn ((numS (a)))) ≤ (((0 : Nat) : Int))) 152 rfl (fun h8 => ?_) (fun h8 => ?_)
          · refine o_skip rfl rfl (decide_eq_true h8) ?_
            refine o_skip rfl rfl (decide_eq_true h8) ?_
            refine o_skip rfl rfl (decide_eq_true h8) ?_
            refine o_pickT (AV.lit (.bool true)) Gd.none rfl (decide_eq_true h8) rfl ?_
            refine aops_end ?_
            refine hK40 _ ?_
            refine awp_condB (b := true) rfl (fun _ => ?_) (fun hh => absurd (hh.symm.trans rfl) (by decide))
            refine awp_seq fun K41 hK41 => ?_
            refine awp_region rfl ?_
            refine o_mv (nm .i64 (0)) rfl ?_
            refine n_eql (0) (0) Gd.none rfl rfl ?_
            refine o_mv (bp ((0) = (0))) rfl ?_
            refine o_ct c_tPlays (Gd.yes rfl rfl (decide_eq_true (by decide))) Zc_tC7 rfl ?_
            refine o_pickT (AV.lit (.bool true)) Gd.none rfl (decide_eq_true (by decide)) rfl ?_
            refine o_as (AV.lit (.bool true)) rfl ?_
            refine aops_end ?_
            refine hK41 _ ?_
            refine awp_ret ?_
            refine post_ret ⟨[(AV.lit (.bool true))], And.intro (AV.le_refl _) (trivial), rfl, ?_⟩
            first | rfl | simp [bp]
          · refine o_loadA [(bp ((numS (b)) < 0)), (AV.sl 1 (ns .i64 (digs ((numS (b))).natAbs)))] (Gd.yes rfl rfl (decide_eq_false h8)) Zc_tA41 rfl rfl rfl rfl rfl ?_
            refine o_ct (c_rSign ((numS (b)))) (Gd.yes rfl rfl (decide_eq_false h8)) Zc_tC18 rfl ?_
            refine o_lss (a := (sgn ((numS (b))))) (c := (((0 : Nat) : Int))) (Gd.yes rfl rfl (decide_eq_false h8)) rfl rfl ?_
            refine o_pickF (bp ((sgn ((numS (b)))) < (((0 : Nat) : Int)))) Gd.none rfl (decide_eq_false h8) rfl ?_
            refine aops_end ?_
            refine hK40 _ ?_
            refine awp_condQ (q := (sgn ((numS (b)))) < (((0 : Nat) : Int))) rfl (fun h9 => ?_) (fun h9 => ?_)
            · refine awp_seq fun K42 hK42 => ?_
              refine awp_region rfl ?_
              refine o_mv (nm .i64 (0)) rfl ?_
              refine n_eql (0) (0) Gd.none rfl rfl ?_
              refine o_mv (bp ((0) = (0))) rfl ?_
              refine o_ct c_tPlays (Gd.yes rfl rfl (decide_eq_true (by decide))) Zc_tC7 rfl ?_
              refine o_pickT (AV.lit (.bool true)) Gd.none rfl (decide_eq_true (by decide)) rfl ?_
              refine o_as (AV.lit (.bool true)) rfl ?_
              refine aops_end ?_
              refine hK42 _ ?_
              refine awp_ret ?_
              refine post_ret ⟨[(AV.lit (.bool true))], And.intro (AV.le_refl _) (trivial), rfl, ?_⟩
              first | rfl | simp [bp]
            · refine awp_skip ?_
              refine hK39 _ ?_
              refine awp_seq fun K43 hK43 => ?_
              have h0a : 0 < numS a := (by have q := (not_congr sgn_le).1 (by assumption); omega)
              have h0b : 0 ≤ numS b := (by have q := (not_congr sgn_neg).1 (by assumption); omega)
              have hs := top_same (m := m) ha' (shortB_le ha0) hb' (shortB_le hb0) h0a h0b
              have la := fit_len hs.1
              have lb := fit_len (fit_numS (okS_iff.1 hb'))
              have l1 := len_mulZ (numS (b)) (comR (cmpR m) 1)
              have l2 := fit_len hs.2.1
              have s1 := txt_sz2 hs.1
              have s2 := txt_sz2 hs.2.1
              refine awp_regionD rfl ?_
              refine o_loadA [(bp ((numS (a)) < 0)), (AV.sl 1 (ns .i64 (digs ((numS (a))).natAbs)))] Gd.none Zc_tA41 rfl rfl rfl rfl rfl ?_
              refine o_loadA [(bp ((numS (b)) < 0)), (AV.sl 1 (ns .i64 (digs ((numS (b))).natAbs)))] Gd.none Zc_tA41 rfl rfl rfl rfl rfl ?_
              refine o_mv (AV.lit (.string (txt (comR (cmpR m) 1)))) rfl ?_
              refine o_ct (c_rParse (txt (comR (cmpR m) 1)) (by first | assumption | exact okS_iff.1 (by assumption))) Gd.none Zc_tC16 rfl ?_
              refine n_as (v' := (intR ((comR (cmpR m) 1)))) (by exact congrArg intR (numS_txt _)) ?_
              refine o_ct (c_rMul ((numS (b))) ((comR (cmpR m) 1)) (by first | omega | assumption | (simp only [Int.natAbs_neg]; omega)) (by first | omega | assumption | (simp only [Int.natAbs_neg]; omega))) Gd.none Zc_tC20 rfl ?_
              refine o_ct (c_rAdd ((numS (a))) (((numS (b)) * (comR (cmpR m) 1))) (by first | omega | assumption | (simp only [Int.natAbs_neg]; omega)) (by first | omega | assumption | (simp only [Int.natAbs_neg]; omega))) Gd.none Zc_tC19 rfl ?_
              refine o_store [(102, (oZ 41 .i64 (((numS (a)) + ((numS (b)) * (comR (cmpR m) 1)))))), (101, (oZ 41 .i64 ((numS (a))))), (2, (AO.var 24 [(AV.lit (.int .i64 (m.regs))), (AV.sl 4 (gcells cI (m.code)))])), (3, (AO.var 27 [(AV.lit (.int .i64 (d.at'))), (AV.sl 1 (is .i64 (d.regs)))])), (4, (AO.var 28 [(AV.lit (.string (a))), (AV.lit (.string (b)))]))] Gd.none Zc_tZ41 rfl rfl rfl rfl rfl rfl ?_
              refine aops_end ⟨by kernel_rfl, ?_⟩
              refine hK43 _ ?_
              refine awp_seq fun K44 hK44 => ?_
              refine awp_region rfl ?_
              refine o_mv (AV.sl 2 (gcells cF (cmpR m))) rfl ?_
              refine o_loadA [(bp ((numS (a)) < 0)), (AV.sl 1 (ns .i64 (digs ((numS (a))).natAbs)))] Gd.none Zc_tA41 rfl rfl rfl rfl rfl ?_
              refine o_ct (c_rText ((numS (a))) (by first | omega | assumption | (simp only [Int.natAbs_neg]; omega))) Gd.none Zc_tC11 rfl ?_
              refine o_ct (c_First (cmpR m) (txt ((numS (a)))) (by assumption) (by first | assumption | decide | omega)) Gd.none Zc_tC14 rfl ?_
              refine o_mv (AV.tup [(AV.lit (.int .i64 (firI (cmpR m) (txt ((numS (a))))))), (nm .i64 (firE (cmpR m) (txt ((numS (a))))))]) rfl ?_
              refine o_extract (AV.lit (.int .i64 (firI (cmpR m) (txt ((numS (a))))))) Gd.none rfl rfl ?_
              refine o_extract (nm .i64 (firE (cmpR m) (txt ((numS (a)))))) Gd.none rfl rfl ?_
              refine o_as (AV.lit (.int .i64 (firI (cmpR m) (txt ((numS (a))))))) rfl ?_
              refine o_as (nm .i64 (firE (cmpR m) (txt ((numS (a)))))) rfl ?_
              refine aops_end ?_
              refine hK44 _ ?_
              refine awp_seq fun K45 hK45 => ?_
              refine awp_region rfl ?_
              refine o_mv (AV.sl 2 (gcells cF (cmpR m))) rfl ?_
              refine o_loadA [(bp (((numS (a)) + ((numS (b)) * (comR (cmpR m) 1))) < 0)), (AV.sl 1 (ns .i64 (digs (((numS (a)) + ((numS (b)) * (comR (cmpR m) 1)))).natAbs)))] Gd.none Zc_tA41 rfl rfl rfl rfl rfl ?_
              refine o_ct (c_rText (((numS (a)) + ((numS (b)) * (comR (cmpR m) 1)))) (by first | omega | assumption | (simp only [Int.natAbs_neg]; omega))) Gd.none Zc_tC11 rfl ?_
              refine o_ct (c_First (cmpR m) (txt (((numS (a)) + ((numS (b)) * (comR (cmpR m) 1))))) (by assumption) (by first | assumption | decide | omega)) Gd.none Zc_tC14 rfl ?_
              refine o_mv (AV.tup [(AV.lit (.int .i64 (firI (cmpR m) (txt (((numS (a)) + ((numS (b)) * (comR (cmpR m) 1)))))))), (nm .i64 (firE (cmpR m) (txt (((numS (a)) + ((numS (b)) * (comR (cmpR m) 1)))))))]) rfl ?_
              refine o_extract (AV.lit (.int .i64 (firI (cmpR m) (txt (((numS (a)) + ((numS (b)) * (comR (cmpR m) 1)))))))) Gd.none rfl rfl ?_
              refine o_extract (nm .i64 (firE (cmpR m) (txt (((numS (a)) + ((numS (b)) * (comR (cmpR m) 1))))))) Gd.none rfl rfl ?_
              refine o_as (AV.lit (.int .i64 (firI (cmpR m) (txt (((numS (a)) + ((numS (b)) * (comR (cmpR m) 1)))))))) rfl ?_
              refine o_as (nm .i64 (firE (cmpR m) (txt (((numS (a)) + ((numS (b)) * (comR (cmpR m) 1))))))) rfl ?_
              refine aops_end ?_
              refine hK45 _ ?_
              refine awp_seq fun K46 hK46 => ?_
              refine awp_region rfl ?_
              refine o_mv (AV.lit (.int .i64 (firI (cmpR m) (txt ((numS (a))))))) rfl ?_
              refine o_mv (AV.lit (.int .i64 (firI (cmpR m) (txt (((numS (a)) + ((numS (b)) * (comR (cmpR m) 1)))))))) rfl ?_
              refine o_eql (a := (firI (cmpR m) (txt ((numS (a)))))) (c := (firI (cmpR m) (txt (((numS (a)) + ((numS (b)) * (comR (cmpR m) 1))))))) Gd.none rfl rfl ?_
              refine n_as (v' := (AV.lit (.bool true))) (by exact bpy hs.2.2.1) ?_
              refine o_mv (AV.lit (.bool true)) rfl ?_
              refine o_move (nm .i64 (firE (cmpR m) (txt ((numS (a)))))) (Gd.yes rfl rfl rfl) rfl ?_
              refine o_move (nm .i64 (firE (cmpR m) (txt (((numS (a)) + ((numS (b)) * (comR (cmpR m) 1))))))) (Gd.yes rfl rfl rfl) rfl ?_
              refine n_eql (firE (cmpR m) (txt ((numS (a))))) (firE (cmpR m) (txt (((numS (a)) + ((numS (b)) * (comR (cmpR m) 1)))))) (Gd.yes rfl rfl rfl) rfl rfl ?_
              refine n_as (v' := (AV.lit (.bool true))) (by exact bpy hs.2.2.2) ?_
              refine o_pickT (AV.lit (.bool true)) Gd.none rfl rfl rfl ?_
              refine o_mv (AV.lit (.bool true)) rfl ?_
              refine o_ct c_tPlays (Gd.yes rfl rfl rfl) Zc_tC7 rfl ?_
              refine o_pickT (AV.lit (.bool true)) Gd.none rfl rfl rfl ?_
              refine o_as (AV.lit (.bool true)) rfl ?_
              refine aops_end ?_
              refine hK46 _ ?_
              refine awp_ret ?_
              refine post_ret ⟨[(AV.lit (.bool true))], And.intro (AV.le_refl _) (trivial), rfl, ?_⟩
              first | rfl | simp [bp]

end Go.Proofs.YtpamhblonmpniaaGreatDoor

set_option linter.unusedVariables false
namespace Go.Proofs.YtpamhblonmpniaaGreatDoor.topMachine
open Go Go.Ab Go.Mth Go.ChangeShapes Go.WideShapes Go.ChangeAt Go.RowKit
theorem reads (os : Os) {H : Type} (enc : TypeId × Value → H) : ∃ places, DataW.whole enc Tryz.prog ((World.laidAll Tryz.prog os laid5).forCall (fun _ _ => 0) ⟨#[], #[.agg #[.int .i64 0, .slice none 0 0], .agg #[.int .i64 0, .slice none 0 0], .agg #[.string ByteArray.empty, .string ByteArray.empty]], []⟩).memory Tryz.f3.params.toList Rows.topMachineSpec.vars false (#[.agg #[.int .i64 0, .slice none 0 0], .agg #[.int .i64 0, .slice none 0 0], .agg #[.string ByteArray.empty, .string ByteArray.empty]] : Array Value).toList 8 = some ([.agg [.lit (.int .i64 0), .nil], .agg [.lit (.int .i64 0), .nil], .agg [.lit (.string []), .lit (.string [])]], [], places) := ⟨[], by kernel_rfl⟩
theorem met (os : Os) : laidMetH Tryz.prog laid5 ((World.laidAll Tryz.prog os laid5).forCall (fun _ _ => 0) ⟨#[], #[.agg #[.int .i64 0, .slice none 0 0], .agg #[.int .i64 0, .slice none 0 0], .agg #[.string ByteArray.empty, .string ByteArray.empty]], []⟩).memory := (MakeChecks.laidMetH_plain _ _ _ (by kernel_rfl)).mpr (laidMet_laidAll _ (by kernel_rfl) (by kernel_rfl))
theorem specs {H : Type} (ds : List (DataW H)) (h : ds.length = 3) : (Rows.topMachineSpec.fn H ds).results = [.lit (.bool true)] ∧ (Rows.topMachineSpec.fn H ds).args = ds ∧ (Rows.topMachineSpec.fn H ds).vars = [] := by
  rcases ds with _ | ⟨d0, _ | ⟨d1, _ | ⟨d2, _ | ⟨e, t⟩⟩⟩⟩ <;> simp at h <;> exact ⟨rfl, rfl, rfl⟩
set_option maxRecDepth 100000 in
theorem opened {H : Type} (enc : TypeId × Value → H) (W : World) (base : Nat) (args : Array Value) (ds : List (DataW H)) (ps : List MemPlace) (hval : ∀ (j : Nat) t v, (#[24, 27, 28] : Array TypeId)[j]? = some t → args[j]? = some v → Value.okWide Tryz.prog W .any base t v)
    (hA : DataW.TrodAll enc Tryz.prog W 0 (fun _ => true) true [24, 27, 28] args.toList ds ps) (hsz : (DataW.weightsEach Tryz.prog [24, 27, 28] ds).all (· ≤ reachBytes) = true) : ∃ xs, RepL (memOf W) xs noLoc args.toList ∧ ECalls cx 3 xs (.lit (.bool true)) := by
  obtain ⟨v0, vs0, d0, ds0, p0, q0, hargs, rfl, rfl, h0, r0⟩ := trodAll_cons hA
  obtain ⟨v1, vs1, d1, ds1, p1, q1, rfl, rfl, rfl, h1, r1⟩ := trodAll_cons r0
  obtain ⟨v2, vs2, d2, ds2, p2, q2, rfl, rfl, rfl, h2, r2⟩ := trodAll_cons r1
  obtain ⟨rfl, rfl, rfl⟩ := trodAll_nil r2
  obtain rfl : args = #[v0, v1, v2] := by cases args; simp_all
  obtain ⟨m0, e0, bq0⟩ := rep_mac (hval 0 24 v0 rfl rfl) h0 (fun n hn => by simpa using List.all_eq_true.1 hsz n (DataW.weights_mem_each (j := 0) rfl rfl n hn))
  obtain ⟨c1, e1, bq1⟩ := rep_cfg (hval 1 27 v1 rfl rfl) h1 (fun n hn => by simpa using List.all_eq_true.1 hsz n (DataW.weights_mem_each (j := 1) rfl rfl n hn))
  obtain ⟨x2, y2, e2, b2, c2⟩ := rep_two (hval 2 28 v2 rfl rfl) h2
  exact ⟨[macV m0, cfgV c1, .agg [.lit (.string x2), .lit (.string y2)]], RepL.cons e0 (RepL.cons e1 (RepL.cons e2 (by simp only [RepL]))), c_TopMachine m0 c1 x2 y2 bq0 bq1 b2 c2⟩
set_option maxRecDepth 100000 in
theorem lifted (os : Os) (started : os.Started) (H : Type) (enc : TypeId × Value → H) (F : Stop.Interp) :
    ReturnsInHanded {} Tryz.checked os 3 .any ((OpenSpec.ofChange Rows.topMachineSpec).preRow enc Tryz.prog Tryz.f3 Rows.topMachineRow.domain false Rows.topMachineRow.laid) (((OpenSpec.ofChange Rows.topMachineSpec).at F).post enc Tryz.prog Tryz.f3 false true false false) := by
  obtain ⟨places, hx⟩ := reads os enc
  refine lifted_of (C := Tryz.checked) started cx rfl ownT (by kernel_rfl) Tryz.func3 (witness_laid #[.agg #[.int .i64 0, .slice none 0 0], .agg #[.int .i64 0, .slice none 0 0], .agg #[.string ByteArray.empty, .string ByteArray.empty]] (by kernel_rfl) (by kernel_rfl) (by kernel_rfl) (OpenSpec.preRow_of_cond 8 hx (by kernel_rfl) (fun k hk => by cases hk) (by kernel_rfl) (met os))) laidOutT (by kernel_rfl) (tb := 4) (by kernel_rfl) u4T rfl (fun ds h => specs ds (h.trans (by kernel_rfl))) (fun W h => tabG_of h) ?_
  intro W base args ds ps hval hA hsz
  exact opened enc W base args ds ps hval hA hsz
theorem said : Rows.TopMachineSaid :=
  OpenClaim.holds_of_cond 3 Tryz.f3 rfl rfl rfl rfl rfl rfl rfl ⟨rfl, rfl, rfl, rfl, rfl⟩ rfl rfl rfl rfl rfl (by kernel_rfl) Tryz.func3 (by kernel_rfl)
    (of_decide_eq_true (by kernel_rfl)) (by unfold Func.isWrapper; first | (rw [if_pos (by decide +kernel)]; kernel_rfl) | (rw [if_neg (by decide +kernel)]; exact ⟨rfl, rfl⟩))
    (fun os started H enc _ F => by rw [OpenClaim.pre_eq_preRow]; exact lifted os started H enc F)
theorem plain (f : FuncId) (fn : Func) (hf : Tryz.pinned.checked.prog.funcNamed "katabasis/katabasistop.TopMachine" = some f) (hfn : Tryz.pinned.checked.prog.funcs[f]? = some fn) :
    true = Tryz.pinned.checked.prog.looks [] ∧ ∀ (j : Nat) t, fn.params[j]? = some t → Tryz.pinned.checked.prog.wantsStandIn t = false := by
  obtain rfl : f = 3 := Option.some.inj ((show Tryz.prog.funcNamed "katabasis/katabasistop.TopMachine" = some 3 by kernel_rfl).symm.trans hf) |>.symm
  obtain rfl : fn = Tryz.f3 := (Option.some.inj (Tryz.func3.symm.trans hfn)).symm
  refine ⟨by kernel_rfl, fun j t ht => ?_⟩
  rw [Tryz.params3] at ht
  have : t = 24 ∨ t = 27 ∨ t = 28 := by have h := Array.mem_of_getElem? ht; simp at h; first | exact h | (rcases h with h | h | h | h <;> simp [h]) | (rcases h with h | h | h <;> simp [h]) | (rcases h with h | h <;> simp [h])
  rcases this with rfl | rfl | rfl
  · exact (show Tryz.prog.wantsStandIn 24 = false by kernel_rfl)
  · exact (show Tryz.prog.wantsStandIn 27 = false by kernel_rfl)
  · exact (show Tryz.prog.wantsStandIn 28 = false by kernel_rfl)
end Go.Proofs.YtpamhblonmpniaaGreatDoor.topMachine
namespace Go.Proofs.YtpamhblonmpniaaGreatDoor
open Go
theorem topMachine_holds : Rows.TopMachineCardSaid :=
  Claim7.holds_tied_plain_at .later [] _ _ _ _ topMachine.said (fun _ h => by cases h) (by kernel_rfl) (fun _ h => by cases h) topMachine_row_tie rfl ⟨rfl, rfl⟩ (by kernel_rfl) rfl topMachine.plain (by kernel_rfl)
#print axioms topMachine_holds
end Go.Proofs.YtpamhblonmpniaaGreatDoor

