/- The law 'katabasislaw06.CycleLoops' is true for every map and number: Loops returns the documented loops, or the documented error. Its condition: none but the row's own (the listed tables of the library). -/
import Derived.ChangeArms
import Derived.Test.YtdmkejloknejdaaGreatDoorPkCycleLoopse
set_option linter.unusedVariables false
set_option linter.unusedSimpArgs false
namespace Go.Proofs.YtdmkejloknejdaaGreatDoor
open Go Go.Ab Go.Mth
theorem f139_ : tyZero cx.P 84 = some [Go.Value.slice none 0 0] := by kernel_rfl
theorem f140_ : callable cx.P 47 = true := by kernel_rfl
theorem f141_ : callable cx.P 88 = true := by kernel_rfl
theorem f142_ : callable cx.P 48 = true := by kernel_rfl
theorem f143_ : tySc cx.P 84 = true := by kernel_rfl
theorem f144_ : callable cx.P 52 = true := by kernel_rfl
theorem f145_ : tyElem cx.P 84 = some (96, 1, 24) := by kernel_rfl
theorem f146_ : tyZero cx.P 96 = some [Go.Value.slice none 0 0] := by kernel_rfl
theorem f147_ : tySize cx.P 84 = some 1 := by kernel_rfl
theorem f148_ : callable cx.P 54 = true := by kernel_rfl
theorem f149_ : callable cx.P 53 = true := by kernel_rfl
theorem f150_ : cx.P.underlying 84 = some (.slice 96) := by kernel_rfl
theorem f151_ : tySc cx.P 96 = true := by kernel_rfl
theorem f152_ : tyElem cx.P 36 = some (9, 1, 16) := by kernel_rfl
theorem f153_ : tyZero cx.P 9 = some [(Go.Value.string {data := #[]})] := by kernel_rfl
theorem f154_ : tyPlaces cx.P 38 = some (fun i => (#[(0, 1)] : Array (Nat × Nat))[i]?) := by kernel_rfl
theorem f155_ : tyZero cx.P 38 = some [Go.Value.slice none 0 0] := by kernel_rfl
theorem f156_ : tyElem cx.P 26 = some (38, 1, 24) := by kernel_rfl
theorem c_Loops (m : MapM) (k : Int) (hkb : k ≤ 9223372036854775807) : ECalls cx 10 [mapV m, Iv k] (.tup [.sl 1 (gcells cP (lpL m k)), nm .i64 (chkE m k)]) := by
 refine ecalls_of_awpM Tryz.func10 (c := _) rfl (Nat.le_of_ble_eq_true rfl) ?_
 show awpM cx 97 _ (postF cx Tryz.f10 _) ⟨[(0, mapV m), (1, Iv k)], []⟩
 refine awpM_seq fun K0 hK0 => ?_
 refine awpM_lift fun mk => ?_
 refine awp_region rfl ?_
 refine o_box 2 [Iv m.mod, Lv m.mul, Lv m.add] gn rfl rfl ?_
 refine o_as Zv rfl (o_as (Nv 0) rfl (aops_end (hK0 _ ?_)))
 refine awpM_seq fun K1 hK1 => ?_
 refine awpM_lift fun mk => ?_
 refine awp_block ?_
 refine awp_seq fun K2 hK2 => awp_region rfl ?_
 refine o_loadA [Iv m.mod, Lv m.mul, Lv m.add] gn f63_ rfl rfl rfl rfl rfl ?_
 refine o_ct (c_sValid m) gn f100_ rfl ?_
 refine o_not (b := okM m) gn rfl ?_
 refine o_as (.lit (.bool (!(okM m)))) rfl (aops_end (hK2 _ ?_))
 refine awp_condB (b := !(okM m)) rfl (fun h1 => ?_) (fun h1 => ?_)
 ·have hm' : ¬ okM m = true := by simpa using h1
  refine awp_seq fun K3 hK3 => awp_region rfl (o_as Zv rfl (o_as (Nv 1) rfl (aops_end (hK3 _ ?_))))
  refine awp_ret ?_
  refine post_ret ⟨[.sl 1 (gcells cP ([])), Nv 1], ⟨(AV.le_nil' (by decide) (by first | rfl | simp [digs_zero, ns, is])), AV.le_refl _, trivial⟩, rfl, ?_⟩
  first | exact tup_eq2 (gs_as (lpL_no (by rw [chk_1 hm']; decide))) (congrArg (nm _) (chk_1 hm')) | exact tup_eq2 (gs_as (lpL_no (by rw [chk_2 hm' (fun e => absurd e.1 (by assumption))]; decide))) (congrArg (nm _) (chk_2 hm' (fun e => absurd e.1 (by assumption)))) | exact tup_eq2 (gs_as (lpL_no (by rw [chk_2 hm' (fun e => absurd e.2.1 (by omega))]; decide))) (congrArg (nm _) (chk_2 hm' (fun e => absurd e.2.1 (by omega)))) | exact tup_eq2 (gs_as (lpL_no (by rw [chk_2 hm' (may_big hM (i := i) (by omega) (by omega))]; decide))) (congrArg (nm _) (chk_2 hm' (may_big hM (i := i) (by omega) (by omega)))) | (have hjk : k.toNat = j := (by omega); exact tup_eq2 (gs_as ((lpL_ok (chk_0 hm' hmy)).trans (by rw [hjk]))) (congrArg (nm _) (chk_0 hm' hmy)))
 ·have hm' : okM m = true := by simpa using h1
  have hM := okM_iff.1 hm'
  have hM2 := hM
  obtain ⟨o1, o2, o3, o4, o5⟩ := hM2
  refine awp_seq fun K4 hK4 => awp_region rfl ?_
  refine o_loadA [Iv m.mod, Lv m.mul, Lv m.add] gn f63_ rfl rfl rfl rfl rfl ?_
  refine o_ct (c_sFree m (by first | assumption | exact okM_iff.1 (by assumption))) gn f101_ rfl ?_
  refine o_notP (q := freeM m) gn rfl ?_
  refine o_mv (bp (¬ (freeM m))) rfl ?_
  refine o_splitP (q := ¬ (freeM m)) 26 rfl (fun h2 => ?_) (fun h2 => ?_)
  ·refine o_skip rfl rfl (decide_eq_true h2) (o_skip rfl rfl (decide_eq_true h2) ?_)
   refine o_pickT Tv gn rfl (decide_eq_true h2) rfl ?_
   refine o_as Tv rfl (aops_end (hK4 _ ?_))
   refine awp_condB (b := true) rfl (fun _ => ?_) (fun hh => absurd (hh.symm.trans rfl) (by decide))
   refine awp_seq fun K5 hK5 => awp_region rfl (o_as Zv rfl (o_as (Nv 2) rfl (aops_end (hK5 _ ?_))))
   refine awp_ret ?_
   refine post_ret ⟨[.sl 1 (gcells cP ([])), Nv 2], ⟨(AV.le_nil' (by decide) (by first | rfl | simp [digs_zero, ns, is])), AV.le_refl _, trivial⟩, rfl, ?_⟩
   first | exact tup_eq2 (gs_as (lpL_no (by rw [chk_1 hm']; decide))) (congrArg (nm _) (chk_1 hm')) | exact tup_eq2 (gs_as (lpL_no (by rw [chk_2 hm' (fun e => absurd e.1 (by assumption))]; decide))) (congrArg (nm _) (chk_2 hm' (fun e => absurd e.1 (by assumption)))) | exact tup_eq2 (gs_as (lpL_no (by rw [chk_2 hm' (fun e => absurd e.2.1 (by omega))]; decide))) (congrArg (nm _) (chk_2 hm' (fun e => absurd e.2.1 (by omega)))) | exact tup_eq2 (gs_as (lpL_no (by rw [chk_2 hm' (may_big hM (i := i) (by omega) (by omega))]; decide))) (congrArg (nm _) (chk_2 hm' (may_big hM (i := i) (by omega) (by omega)))) | (have hjk : k.toNat = j := (by omega); exact tup_eq2 (gs_as ((lpL_ok (chk_0 hm' hmy)).trans (by rw [hjk]))) (congrArg (nm _) (chk_0 hm' hmy)))
  ·refine o_move (Iv k) (Gd.yes rfl rfl (decide_eq_false h2)) rfl ?_
   refine o_lss (a := k) (c := ((1 : Nat) : Int)) (Gd.yes rfl rfl (decide_eq_false h2)) rfl rfl ?_
   refine o_pickF (bp (k < ((1 : Nat) : Int))) gn rfl (decide_eq_false h2) rfl ?_
   refine o_as (bp (k < ((1 : Nat) : Int))) rfl (aops_end (hK4 _ ?_))
   refine awp_condQ (q := k < ((1 : Nat) : Int)) rfl (fun h3 => ?_) (fun h3 => ?_)
   ·refine awp_seq fun K6 hK6 => awp_region rfl (o_as Zv rfl (o_as (Nv 2) rfl (aops_end (hK6 _ ?_))))
    refine awp_ret ?_
    refine post_ret ⟨[.sl 1 (gcells cP ([])), Nv 2], ⟨(AV.le_nil' (by decide) (by first | rfl | simp [digs_zero, ns, is])), AV.le_refl _, trivial⟩, rfl, ?_⟩
    first | exact tup_eq2 (gs_as (lpL_no (by rw [chk_1 hm']; decide))) (congrArg (nm _) (chk_1 hm')) | exact tup_eq2 (gs_as (lpL_no (by rw [chk_2 hm' (fun e => absurd e.1 (by assumption))]; decide))) (congrArg (nm _) (chk_2 hm' (fun e => absurd e.1 (by assumption)))) | exact tup_eq2 (gs_as (lpL_no (by rw [chk_2 hm' (fun e => absurd e.2.1 (by omega))]; decide))) (congrArg (nm _) (chk_2 hm' (fun e => absurd e.2.1 (by omega)))) | exact tup_eq2 (gs_as (lpL_no (by rw [chk_2 hm' (may_big hM (i := i) (by omega) (by omega))]; decide))) (congrArg (nm _) (chk_2 hm' (may_big hM (i := i) (by omega) (by omega)))) | (have hjk : k.toNat = j := (by omega); exact tup_eq2 (gs_as ((lpL_ok (chk_0 hm' hmy)).trans (by rw [hjk]))) (congrArg (nm _) (chk_0 hm' hmy)))
   ·refine awp_skip (hK1 _ ?_)
    refine awpM_seq fun K7 hK7 => ?_
    refine awpM_seq fun K8 hK8 => ?_
    refine awpM_lift fun mk => ?_
    refine awp_region rfl (o_as (Nv 1) rfl ?_)
    refine n_as (v' := (Iv (m.mod ^ 0))) (by exact congrArg (fun z => AV.lit (.int .i64 z)) (Int.pow_zero _).symm) ?_
    refine o_as (Nv 0) rfl (aops_end (hK8 _ ?_))
    refine awpM_lift fun mk => ?_
    refine awp_block ?_
    refine awp_loopR (fun κ σ => ∃ (i : Nat), (((i : Nat) : Int) ≤ k) ∧ (m.mod ^ i ≤ 65536) ∧ ((k - ((i : Nat) : Int)).toNat) = κ ∧ σ = ⟨[(1, Iv k), (2, .ref 2 0), (6, Iv (m.mod ^ i)), (7, Nv i)], [(2, oM 24 m)]⟩) ⟨_, _, ⟨0, (by omega), (by rw [Int.pow_zero]; decide), rfl, rfl⟩, ?wk0⟩ ?rd0
    case wk0 =>
     exact Wk.sub ⟨rfl, rfl, (by first | rfl | exact int_eq (by omega) | exact int_nm (by omega)), (by first | rfl | exact nm_int (by omega)), trivial⟩ ⟨(by first | rfl | (first | exact row_gs' (lsT_y (Decidable.not_not.1 (by assumption)) (cmpZ_eq0.1 (by assumption))) | exact row_gs' (lsT_n (fun e => absurd e.1 (by assumption))) | exact row_gs' (lsT_n (fun e => absurd (cmpZ_eq0.2 e.2) (by assumption))) | exact row_gs' (out_s (by omega) (by rw [loo_len hlo]; omega)) | exact row_gs' (by rw [List.take_of_length_le (by omega)]; rfl) | exact row_gs' (by simp))), trivial⟩
    rintro κ _ ⟨i, hi, hb, rfl, rfl⟩
    have hpp : 0 < m.mod ^ i := Int.pow_pos (by omega)
    have hmb := Int.mul_le_mul hb o2 (show (0 : Int) ≤ m.mod by omega) (by decide)
    have hml := Int.mul_pos hpp (show 0 < m.mod by omega)
    refine awp_seq fun K9 hK9 => awp_seq fun K10 hK10 => awp_region rfl (o_mv (Nv i) rfl (o_mv (Iv k) rfl ?_))
    refine o_lss (a := ((i : Nat) : Int)) (c := k) gn rfl rfl ?_
    refine aops_end (hK10 _ ?_)
    refine awp_condQ (q := ((i : Nat) : Int) < k) rfl (fun h4 => ?_) (fun h4 => ?_)
    ·refine awp_skip (hK9 _ (awp_seq fun K11 hK11 => ?_))
     refine awp_block ?_
     refine awp_seq fun K12 hK12 => awp_region rfl (o_mv (Iv (m.mod ^ i)) rfl ?_)
     refine o_fieldRef 0 gn f59_ rfl rfl ?_
     refine o_loadS (Iv m.mod) gn f11_ rfl rfl rfl ?_
     refine o_mul (a := (m.mod ^ i)) (c := m.mod) gn rfl rfl (by exact wrap64 (by omega) (by omega)) ?_
     refine n_as (v' := (Iv (m.mod ^ (i + 1)))) (by exact congrArg (fun z => AV.lit (.int .i64 z)) (Int.pow_succ _ _).symm) ?_
     refine o_as (Iv (m.mod ^ (i + 1))) rfl (aops_end (hK12 _ (awp_seq fun K13 hK13 => awp_region rfl (o_mv (Iv (m.mod ^ (i + 1))) rfl ?_))))
     refine o_gtr (a := (m.mod ^ (i + 1))) (c := ((65536 : Nat) : Int)) gn rfl rfl ?_
     refine aops_end (hK13 _ ?_)
     refine awp_condQ (q := ((65536 : Nat) : Int) < (m.mod ^ (i + 1))) rfl (fun h5 => ?_) (fun h5 => ?_)
     ·refine awp_seq fun K14 hK14 => awp_region rfl (o_as Zv rfl (o_as (Nv 2) rfl (aops_end (hK14 _ ?_))))
      refine awp_ret ?_
      refine post_ret ⟨[.sl 1 (gcells cP ([])), Nv 2], ⟨(AV.le_nil' (by decide) (by first | rfl | simp [digs_zero, ns, is])), AV.le_refl _, trivial⟩, rfl, ?_⟩
      first | exact tup_eq2 (gs_as (lpL_no (by rw [chk_1 hm']; decide))) (congrArg (nm _) (chk_1 hm')) | exact tup_eq2 (gs_as (lpL_no (by rw [chk_2 hm' (fun e => absurd e.1 (by assumption))]; decide))) (congrArg (nm _) (chk_2 hm' (fun e => absurd e.1 (by assumption)))) | exact tup_eq2 (gs_as (lpL_no (by rw [chk_2 hm' (fun e => absurd e.2.1 (by omega))]; decide))) (congrArg (nm _) (chk_2 hm' (fun e => absurd e.2.1 (by omega)))) | exact tup_eq2 (gs_as (lpL_no (by rw [chk_2 hm' (may_big hM (i := i) (by omega) (by omega))]; decide))) (congrArg (nm _) (chk_2 hm' (may_big hM (i := i) (by omega) (by omega)))) | (have hjk : k.toNat = j := (by omega); exact tup_eq2 (gs_as ((lpL_ok (chk_0 hm' hmy)).trans (by rw [hjk]))) (congrArg (nm _) (chk_0 hm' hmy)))
     ·refine awp_skip (hK11 _ (awp_region rfl (o_mv (Nv i) rfl ?_)))
      refine n_add i 1 gn rfl rfl (by simp only [topOf]; omega) ?_
      refine o_as (Nv (i + 1)) rfl (aops_end ?_)
      refine ⟨_, _, ?lt, ⟨i + 1, (by omega), (by omega), rfl, rfl⟩, ?wk⟩
      case lt => omega
      case wk => exact Wk.sub ⟨rfl, rfl, (by first | rfl | exact int_eq (by omega) | exact int_nm (by omega)), (by first | rfl | exact nm_int (by omega)), trivial⟩ ⟨rfl, trivial⟩
    ·refine awp_exit ?_
     refine hK7 _ ?_
     refine awpM_seq fun K15 hK15 => ?_
     refine awpM_lift fun mk => ?_
     have hf : freeM m := Decidable.not_not.1 (show ¬ ¬ freeM m by assumption)
     have hk1 : 1 ≤ k := by omega
     have hmy : mayS m k := ⟨hf, hk1, by rw [show k.toNat = i by omega]; exact hb⟩
     have hk16 : k.toNat ≤ 16 := may_16 hM hmy.2.2
     refine awp_region rfl (o_as Zv rfl (aops_end (hK15 _ ?_)))
     refine awpM_seq fun K16 hK16 => ?_
     refine awpM_seq fun K17 hK17 => ?_
     refine awpM_lift fun mk => ?_
     refine awp_region rfl ?_
     refine o_alloc 101 [Nv 0] gn f26_ rfl rfl rfl ?_
     refine o_store [(101, .var 3 [Nv 1]), (2, oM 24 m)] gn f43_ rfl rfl rfl rfl rfl rfl ?_
     refine aops_end (hK17 _ ?_)
     refine awpM_block ?_
     refine awpM_loopR (fun κ σ => ∃ (j : Nat), (((j : Nat) : Int) ≤ k) ∧ ((k + 1 - ((j : Nat) : Int)).toNat) = κ ∧ σ = ⟨[(1, Iv k), (2, .ref 2 0), (8, .row 50), (9, .ref 20 0)], [(2, oM 24 m), (20, .var 3 [Nv (j + 1)]), (50, .row 38 1 (gcells cP (cyU m j)))]⟩) ⟨_, _, ⟨0, (by omega), rfl, rfl⟩, ?wk1⟩ ?rd1
     case wk1 =>
      exact fun mk => Wk.trans (Wk.newNil (i := 8) (id := 602) (e := 38) (sz := 1) rfl rfl (by decide)) (Wk.trans (Wk.sub (σ' := ⟨[(1, Iv k), (2, .ref 2 0), (8, .row 602), (9, .ref 101 0)], [(2, oM 24 m), (602, .row 38 1 (gcells cP ([]))), (101, .var 3 [Nv 1])]⟩) ⟨rfl, rfl, rfl, rfl, trivial⟩ ⟨rfl, rfl, rfl, trivial⟩) (Wk.trans (Wk.ren (id := 602) (id' := 50) rfl) (Wk.trans (Wk.ren (id := 101) (id' := 20) rfl) (Wk.sub ⟨rfl, rfl, (by first | rfl | simp), (by first | rfl | simp), trivial⟩ ⟨rfl, (by first | rfl | (first | exact row_gs' (lsT_y (Decidable.not_not.1 (by assumption)) (cmpZ_eq0.1 (by assumption))) | exact row_gs' (lsT_n (fun e => absurd e.1 (by assumption))) | exact row_gs' (lsT_n (fun e => absurd (cmpZ_eq0.2 e.2) (by assumption))) | exact row_gs' (out_s (by omega) (by rw [loo_len hlo]; omega)) | exact row_gs' (by rw [List.take_of_length_le (by omega)]; rfl) | exact row_gs' (by simp))), (by first | rfl | exact row_ns (by simp) | (first | exact row_gs' (lsT_y (Decidable.not_not.1 (by assumption)) (cmpZ_eq0.1 (by assumption))) | exact row_gs' (lsT_n (fun e => absurd e.1 (by assumption))) | exact row_gs' (lsT_n (fun e => absurd (cmpZ_eq0.2 e.2) (by assumption))) | exact row_gs' (out_s (by omega) (by rw [loo_len hlo]; omega)) | exact row_gs' (by rw [List.take_of_length_le (by omega)]; rfl) | exact row_gs' (by simp))), trivial⟩))))
     rintro κ _ ⟨j, hj, rfl, rfl⟩
     refine awpM_seq fun K18 hK18 => ?_
     refine awpM_seq fun K19 hK19 => ?_
     refine awpM_lift fun mk => ?_
     refine awp_region rfl ?_
     refine o_loadS (Nv (j + 1)) gn f11_ rfl rfl rfl ?_
     refine o_mv (Iv k) rfl ?_
     refine o_leq (a := ((j + 1 : Nat) : Int)) (c := k) gn rfl rfl ?_
     refine aops_end (hK19 _ ?_)
     refine awpM_lift fun mk => ?_
     refine awp_condQ (q := ((j + 1 : Nat) : Int) ≤ k) rfl (fun h6 => ?_) (fun h6 => ?_)
     ·refine awp_skip (hK18 _ ?_)
      refine awpM_seq fun K20 hK20 => ?_
      refine awpM_block ?_
      refine awpM_seq fun K21 hK21 => ?_
      refine awpM_lift fun mk => ?_
      have hpj : m.mod ^ (j + 1) ≤ 65536 := Int.le_trans (pow_le_of hM (j := (j + 1)) (k := k.toNat) (by omega)) hmy.2.2
      have hpp : 0 < m.mod ^ (j + 1) := Int.pow_pos (by omega)
      have hpl := lpN_len m (j + 1)
      have hpw := toNat_pw hM (j + 1)
      have hcu := cyU_len m hM j
      have hpj2 := pow_le_of hM (j := j) (k := (j + 1)) (by omega)
      have hpw2 := toNat_pw hM j
      have hcu2 := Nat.mul_le_mul (show j ≤ 16 by omega) (show m.mod.toNat ^ j ≤ 65536 by omega)
      refine awp_region rfl ?_
      refine o_alloc 201 [Zv] gn f139_ rfl rfl rfl ?_
      refine aops_end (hK21 _ ?_)
      refine awpM_seq fun K22 hK22 => ?_
      refine awpM_seq fun K23 hK23 => ?_
      refine awpM_lift fun mk => ?_
      refine awp_region rfl ?_
      refine o_loadA [Iv m.mod, Lv m.mul, Lv m.add] gn f63_ rfl rfl rfl rfl rfl ?_
      refine o_loadS (Nv (j + 1)) gn f11_ rfl rfl rfl ?_
      refine o_callW 8001 8002 [mapV m, Nv (j + 1)] gn f140_ rfl rfl rfl rfl (c_words m (j + 1)) rfl rfl ?_
      refine aops_end (hK23 _ ?_)
      refine awpM_block ?_
      refine awpM_wk (fun mk => Wk.nilIn (i := 201) (id := 61) (ty := 84) (e := 96) (sz := 1) rfl rfl (by decide)) ?_
      refine awpM_wk (σ' := ⟨[(1, Iv k), (2, .ref 2 0), (8, .row 50), (9, .ref 20 0), (10, .ref 201 0), (48, .clo 88 [.ref 8001 0, .ref 8002 0])], [(8001, .var 3 [Nv (j + 1)]), (8002, oM 24 m), (2, oM 24 m), (20, .var 3 [Nv (j + 1)]), (201, .var 84 [.row 61]), (61, .row 96 1 ([])), (50, .row 38 1 (gcells cP (cyU m j)))]⟩) (fun mk => Wk.sub ⟨rfl, rfl, rfl, rfl, rfl, rfl, trivial⟩ ⟨rfl, rfl, rfl, rfl, rfl, rfl, rfl, trivial⟩) ?_
      refine awpM_rangeG (C := cx) rfl (gf := 88) (fnI := Tryz.f88) (caps := [.ref 8001 0, .ref 8002 0]) (so := [(1, Iv k), (2, .ref 2 0), (8, .row 50), (9, .ref 20 0), (10, .ref 201 0), (48, .clo 88 [.ref 8001 0, .ref 8002 0])]) ⟨rfl, rfl, rfl, rfl, rfl, rfl, trivial⟩ Tryz.func88 rfl f141_ (by decide) rfl rfl rfl rfl rfl (fun fn tmps D l pe m' => pe = none ∧ m' = [(2, oM 24 m), (20, .var 3 [Nv (j + 1)]), (201, .var 84 [.row 61]), (61, .row 96 1 (gcells cV (lsT m (j + 1) (m.mod.toNat ^ (j + 1))))), (50, .row 38 1 (gcells cP (cyU m j)))]) ?it2 ?nx2
      case it2 =>
       intro ps' as' bo' e1' e2' e3' fn tmps D l hsz
       refine awp_wk (σ' := ⟨[(0, .lit (.func (.yield l) #[] #[])), (1, .ref 8001 0), (2, .ref 8002 0)], [(9001, .blk (.loop (lrec fn tmps ps' as' bo' D .ready none))), (9002, .blk (.deferred (some []))), (9003, pinA [(1, Iv k), (2, .ref 2 0), (8, .row 50), (9, .ref 20 0), (10, .ref 201 0), (48, .clo 88 [.ref 8001 0, .ref 8002 0])] tmps), (9004, pinL l D), (8001, .var 3 [Nv (j + 1)]), (8002, oM 24 m), (2, oM 24 m), (20, .var 3 [Nv (j + 1)]), (201, .var 84 [.row 61]), (61, .row 96 1 ([])), (50, .row 38 1 (gcells cP (cyU m j)))]⟩) (Wk.sub ⟨rfl, rfl, rfl, trivial⟩ ⟨rfl, rfl, rfl, rfl, rfl, rfl, rfl, rfl, rfl, rfl, rfl, trivial⟩) ?_
       refine awp_seq fun K24 hK24 => awp_region rfl ?_
       refine o_loadS (Nv (j + 1)) gn f11_ rfl rfl rfl ?_
       refine n_make 8003 (j + 1) gn f10_ f26_ rfl rfl (by omega) rfl rfl ?_
       refine o_as (.row 8003) rfl (aops_end (hK24 _ ?_))
       refine awp_block ?_
       refine awp_loopR (fun κ σ => ∃ (t : Nat), (((t : Nat) : Int) < m.mod ^ (j + 1)) ∧ ((m.mod ^ (j + 1)).toNat - t) = κ ∧ σ = ⟨[(0, .lit (.func (.yield l) #[] #[])), (1, .ref 8001 0), (2, .ref 8002 0), (4, .row 8003)], [(9001, .blk (.loop (lrec fn tmps ps' as' bo' D .ready none))), (9002, .blk (.deferred (some []))), (9003, pinA [(1, Iv k), (2, .ref 2 0), (8, .row 50), (9, .ref 20 0), (10, .ref 201 0), (48, .clo 88 [.ref 8001 0, .ref 8002 0])] tmps), (9004, pinL l D), (8001, .var 3 [Nv (j + 1)]), (8002, oM 24 m), (2, oM 24 m), (20, .var 3 [Nv (j + 1)]), (201, .var 84 [.row 61]), (50, .row 38 1 (gcells cP (cyU m j))), (8003, .row 3 1 (is .i64 (wordT m.mod.toNat (j + 1) t))), (61, .row 96 1 (gcells cV (lsT m (j + 1) t)))]⟩) ⟨_, _, ⟨0, (by have : 0 < m.mod ^ (j + 1) := Int.pow_pos (by omega); omega), rfl, rfl⟩, ?wk3⟩ ?rd3
       case wk3 =>
        exact Wk.sub ⟨rfl, rfl, rfl, rfl, trivial⟩ ⟨rfl, rfl, rfl, rfl, rfl, rfl, rfl, rfl, rfl, rfl, (by first | rfl | exact row_ns (by simp) | (first | exact row_is' (next_y hM hnx (by omega) (fun e => by omega)).1 | exact row_gs' (congrArg (lsT m (j + 1)) (next_tot hM hnx (by omega) ht)) | exact row_start _ _ _)), (by first | rfl | exact row_ns (by simp) | (first | exact row_is' (next_y hM hnx (by omega) (fun e => by omega)).1 | exact row_gs' (congrArg (lsT m (j + 1)) (next_tot hM hnx (by omega) ht)) | exact row_start _ _ _)), trivial⟩
       rintro κ _ ⟨t, ht, rfl, rfl⟩
       refine awp_block ?_
       refine awp_seq fun K25 hK25 => awp_seq fun K26 hK26 => ?_
       refine awp_regionYK 2 10 _ _ _ _ _ _ l [.row 8003] rfl rfl ?_
       refine o_mv (.lit (.func (.yield l) #[] #[])) rfl (o_mv (.row 8003) rfl ?_)
       refine aops_end ⟨⟨[(8, .lit (.func (.yield l) #[] #[])), (9, .row 8003), (0, .lit (.func (.yield l) #[] #[])), (1, .ref 8001 0), (2, .ref 8002 0), (4, .row 8003)], [(9001, .blk (.loop (lrec fn tmps ps' as' bo' D .ready none))), (9002, .blk (.deferred (some []))), (9003, pinA [(1, Iv k), (2, .ref 2 0), (8, .row 50), (9, .ref 20 0), (10, .ref 201 0), (48, .clo 88 [.ref 8001 0, .ref 8002 0])] tmps), (9004, pinL l D), (8001, .var 3 [Nv (j + 1)]), (8002, oM 24 m), (2, oM 24 m), (20, .var 3 [Nv (j + 1)]), (201, .var 84 [.row 61]), (50, .row 38 1 (gcells cP (cyU m j))), (8003, .row 3 1 (is .i64 (wordT m.mod.toNat (j + 1) t))), (61, .row 96 1 (gcells cV (lsT m (j + 1) t)))]⟩, Wk.sub ⟨rfl, rfl, rfl, rfl, rfl, rfl, trivial⟩ ⟨rfl, rfl, rfl, rfl, rfl, rfl, rfl, rfl, rfl, rfl, rfl, rfl, trivial⟩, rfl, rfl, YldAt.mono (yldAt_of_roundG (so := [(1, Iv k), (2, .ref 2 0), (8, .row 50), (9, .ref 20 0), (10, .ref 201 0), (48, .clo 88 [.ref 8001 0, .ref 8002 0])]) (n := 97) (D' := D) (KN := fun mm => mm = [(9002, .blk (.deferred (some []))), (9003, pinA [(1, Iv k), (2, .ref 2 0), (8, .row 50), (9, .ref 20 0), (10, .ref 201 0), (48, .clo 88 [.ref 8001 0, .ref 8002 0])] tmps), (9004, pinL l D), (8001, .var 3 [Nv (j + 1)]), (8002, oM 24 m), (2, oM 24 m), (20, .var 3 [Nv (j + 1)]), (201, .var 84 [.row 61]), (50, .row 38 1 (gcells cP (cyU m j))), (8003, .row 3 1 (is .i64 (wordT m.mod.toNat (j + 1) t))), (61, .row 96 1 (gcells cV (lsT m (j + 1) (t + 1))))]) (KX := fun _ _ => False) rfl e1' e2' e3' hsz (by decide) rfl rfl rfl rfl rfl rfl fun us => ?rnd4) ?aft4⟩
       case rnd4 =>
        have hwl := wordT_len m.mod.toNat (j + 1) t
        have hW : OkW m (wordT m.mod.toNat (j + 1) t) := ⟨wordT_is hM _ _, by omega⟩
        have hne : (wordT m.mod.toNat (j + 1) t) ≠ [] := fun e => by rw [e] at hwl; simp at hwl
        obtain ⟨f1, f2⟩ := fix_len hM hf hW hne
        obtain ⟨l1, l2, l3⟩ := line_len hM (wordT m.mod.toNat (j + 1) t) hW.1
        have l4 := hW.2
        have l5 := len_subZ (lineZ m (wordT m.mod.toNat (j + 1) t)).div (lineZ m (wordT m.mod.toNat (j + 1) t)).mul
        have l6 := line_ne hM hf hW.1 hne
        have t1 := lsT_len m (j + 1) t
        have t2 : t < 65536 := by have := toNat_pw hM (j + 1); omega
        show awp cx 97 _ _ ⟨[(49, .row 8003), (1, Iv k), (2, .ref 2 0), (8, .row 50), (9, .ref 20 0), (10, .ref 201 0), (48, .clo 88 [.ref 8001 0, .ref 8002 0])], [(9005, .pin [.lit (.func (.yield l) #[] #[]), .row 8003, .lit (.func (.yield l) #[] #[]), .ref 8001 0, .ref 8002 0, .row 8003] us), (9001, .blk (.loop (lrec fn tmps ps' as' bo' D .ready none))), (9002, .blk (.deferred (some []))), (9003, pinA [(1, Iv k), (2, .ref 2 0), (8, .row 50), (9, .ref 20 0), (10, .ref 201 0), (48, .clo 88 [.ref 8001 0, .ref 8002 0])] tmps), (9004, pinL l D), (8001, .var 3 [Nv (j + 1)]), (8002, oM 24 m), (2, oM 24 m), (20, .var 3 [Nv (j + 1)]), (201, .var 84 [.row 61]), (50, .row 38 1 (gcells cP (cyU m j))), (8003, .row 3 1 (is .i64 (wordT m.mod.toNat (j + 1) t))), (61, .row 96 1 (gcells cV (lsT m (j + 1) t)))]⟩
        refine awp_region rfl (o_as (.row 8003) rfl (aops_end ?_))
        refine ⟨[(49, .row 8003), (1, Iv k), (2, .ref 2 0), (8, .row 50), (9, .ref 20 0), (10, .ref 201 0), (48, .clo 88 [.ref 8001 0, .ref 8002 0]), (11, .row 8003)], [(9005, .pin [.lit (.func (.yield l) #[] #[]), .row 8003, .lit (.func (.yield l) #[] #[]), .ref 8001 0, .ref 8002 0, .row 8003] us), (9002, .blk (.deferred (some []))), (9003, pinA [(1, Iv k), (2, .ref 2 0), (8, .row 50), (9, .ref 20 0), (10, .ref 201 0), (48, .clo 88 [.ref 8001 0, .ref 8002 0])] tmps), (9004, pinL l D), (8001, .var 3 [Nv (j + 1)]), (8002, oM 24 m), (2, oM 24 m), (20, .var 3 [Nv (j + 1)]), (201, .var 84 [.row 61]), (50, .row 38 1 (gcells cP (cyU m j))), (8003, .row 3 1 (is .i64 (wordT m.mod.toNat (j + 1) t))), (61, .row 96 1 (gcells cV (lsT m (j + 1) t)))], Wk.sub ⟨rfl, rfl, rfl, rfl, rfl, rfl, rfl, rfl, trivial⟩ ⟨rfl, rfl, rfl, rfl, rfl, rfl, rfl, rfl, rfl, rfl, rfl, rfl, rfl, trivial⟩, rfl, ?_⟩
        refine awp_block ?_
        refine awp_seq fun K27 hK27 => awp_seq fun K28 hK28 => awp_region rfl (o_mv (.row 8003) rfl ?_)
        refine o_callB [(8003, 1, is .i64 (wordT m.mod.toNat (j + 1) t))] [Lv (wordT m.mod.toNat (j + 1) t)] _ (.bool (decide (firstP (wordT m.mod.toNat (j + 1) t)))) gn f142_ rfl ⟨⟨_, rfl⟩, trivial⟩ rfl rfl (LeL.cons (AV.le_refl _) LeL.nil) (c_first (wordT m.mod.toNat (j + 1) t) (by first | (rw [wordT_len]; omega) | omega)) ?_
        refine o_notP (q := firstP (wordT m.mod.toNat (j + 1) t)) gn rfl ?_
        refine aops_end (hK28 _ ?_)
        refine awp_condQ (q := ¬ (firstP (wordT m.mod.toNat (j + 1) t))) rfl (fun h7 => ?_) (fun h7 => ?_)
        ·refine awp_exit ?_
         exact ⟨[(9002, .blk (.deferred (some []))), (9003, pinA [(1, Iv k), (2, .ref 2 0), (8, .row 50), (9, .ref 20 0), (10, .ref 201 0), (48, .clo 88 [.ref 8001 0, .ref 8002 0])] tmps), (9004, pinL l D), (8001, .var 3 [Nv (j + 1)]), (8002, oM 24 m), (2, oM 24 m), (20, .var 3 [Nv (j + 1)]), (201, .var 84 [.row 61]), (50, .row 38 1 (gcells cP (cyU m j))), (8003, .row 3 1 (is .i64 (wordT m.mod.toNat (j + 1) t))), (61, .row 96 1 (gcells cV (lsT m (j + 1) (t + 1))))], Wk.sub trivial ⟨rfl, rfl, rfl, rfl, rfl, rfl, rfl, rfl, rfl, rfl, rfl, rfl, (by first | rfl | exact row_ns (by simp) | (first | exact row_gs' (lsT_y (Decidable.not_not.1 (by assumption)) (cmpZ_eq0.1 (by assumption))) | exact row_gs' (lsT_n (fun e => absurd e.1 (by assumption))) | exact row_gs' (lsT_n (fun e => absurd (cmpZ_eq0.2 e.2) (by assumption))) | exact row_gs' (out_s (by omega) (by rw [loo_len hlo]; omega)) | exact row_gs' (by rw [List.take_of_length_le (by omega)]; rfl) | exact row_gs' (by simp))), trivial⟩, rfl, rfl, rfl⟩
        ·refine awp_skip (hK27 _ (awp_seq fun K29 hK29 => ?_))
         refine awp_wk (σ' := ⟨[(49, .row 8003), (1, Iv k), (2, .ref 2 0), (8, .row 50), (9, .ref 20 0), (10, .ref 201 0), (48, .clo 88 [.ref 8001 0, .ref 8002 0]), (11, .row 8003), (50, .row 8003), (51, bp (firstP (wordT m.mod.toNat (j + 1) t))), (52, bp (¬ (firstP (wordT m.mod.toNat (j + 1) t))))], [(9001, .blk (.loop (lrec fn tmps ps' as' bo' D .busy none))), (9005, .pin [.lit (.func (.yield l) #[] #[]), .row 8003, .lit (.func (.yield l) #[] #[]), .ref 8001 0, .ref 8002 0, .row 8003] us), (9002, .blk (.deferred (some []))), (9003, pinA [(1, Iv k), (2, .ref 2 0), (8, .row 50), (9, .ref 20 0), (10, .ref 201 0), (48, .clo 88 [.ref 8001 0, .ref 8002 0])] tmps), (9004, pinL l D), (8001, .var 3 [Nv (j + 1)]), (8002, oM 24 m), (2, oM 24 m), (20, .var 3 [Nv (j + 1)]), (201, .var 84 [.row 61]), (50, .row 38 1 (gcells cP (cyU m j))), (8003, .row 3 1 (is .i64 (wordT m.mod.toNat (j + 1) t))), (61, .row 96 1 (gcells cV (lsT m (j + 1) t)))]⟩) (Wk.sub ⟨rfl, rfl, rfl, rfl, rfl, rfl, rfl, rfl, rfl, rfl, rfl, trivial⟩ ⟨rfl, rfl, rfl, rfl, rfl, rfl, rfl, rfl, rfl, rfl, rfl, rfl, rfl, trivial⟩) ?_
         refine awp_regionSK 2 55 _ 49 [] _ _ _ _ _ [mapV m, .row 8003] (frW (fixZ m (wordT m.mod.toNat (j + 1) t))) [(9001, .blk (.loop (lrec fn tmps ps' as' bo' D .busy none))), (9005, .pin [.lit (.func (.yield l) #[] #[]), .row 8003, .lit (.func (.yield l) #[] #[]), .ref 8001 0, .ref 8002 0, .row 8003] us), (9002, .blk (.deferred (some []))), (9003, pinA [(1, Iv k), (2, .ref 2 0), (8, .row 50), (9, .ref 20 0), (10, .ref 201 0), (48, .clo 88 [.ref 8001 0, .ref 8002 0])] tmps), (9004, pinL l D), (8001, .var 3 [Nv (j + 1)]), (8002, oM 24 m), (2, oM 24 m), (20, .var 3 [Nv (j + 1)]), (201, .var 84 [.row 61]), (50, .row 38 1 (gcells cP (cyU m j))), (8003, .row 3 1 (is .i64 (wordT m.mod.toNat (j + 1) t))), (61, .row 96 1 (gcells cV (lsT m (j + 1) t)))] rfl rfl f104_ ?_
         refine o_loadA [Iv m.mod, Lv m.mul, Lv m.add] gn f63_ rfl rfl rfl rfl rfl ?_
         refine o_mv (.row 8003) rfl ?_
         refine aops_end ⟨rfl, rfl, ?sc5, ?_⟩
         case sc5 =>
          refine scalls_of_awpB 9014 Tryz.func49 (c := _) rfl (Nat.le_of_ble_eq_true rfl) rfl rfl rfl (fun us5 => ?_)
          show awp cx 17 _ (postS cx Tryz.f49 (frW (fixZ m (wordT m.mod.toNat (j + 1) t))) [(9001, .blk (.loop (lrec fn tmps ps' as' bo' D .busy none))), (9005, .pin [.lit (.func (.yield l) #[] #[]), .row 8003, .lit (.func (.yield l) #[] #[]), .ref 8001 0, .ref 8002 0, .row 8003] us), (9002, .blk (.deferred (some []))), (9003, pinA [(1, Iv k), (2, .ref 2 0), (8, .row 50), (9, .ref 20 0), (10, .ref 201 0), (48, .clo 88 [.ref 8001 0, .ref 8002 0])] tmps), (9004, pinL l D), (8001, .var 3 [Nv (j + 1)]), (8002, oM 24 m), (2, oM 24 m), (20, .var 3 [Nv (j + 1)]), (201, .var 84 [.row 61]), (50, .row 38 1 (gcells cP (cyU m j))), (8003, .row 3 1 (is .i64 (wordT m.mod.toNat (j + 1) t))), (61, .row 96 1 (gcells cV (lsT m (j + 1) t)))] 9014 [.row 8003, mapV m, .row 8003, Iv k, .ref 2 0, .row 50, .ref 20 0, .ref 201 0, .clo 88 [.ref 8001 0, .ref 8002 0], .row 8003, .row 8003, bp (firstP (wordT m.mod.toNat (j + 1) t)), bp (¬ (firstP (wordT m.mod.toNat (j + 1) t)))] us5) ⟨[(0, mapV m), (1, .row 8003)], [(9014, .pin [.row 8003, mapV m, .row 8003, Iv k, .ref 2 0, .row 50, .ref 20 0, .ref 201 0, .clo 88 [.ref 8001 0, .ref 8002 0], .row 8003, .row 8003, bp (firstP (wordT m.mod.toNat (j + 1) t)), bp (¬ (firstP (wordT m.mod.toNat (j + 1) t)))] us5), (9001, .blk (.loop (lrec fn tmps ps' as' bo' D .busy none))), (9005, .pin [.lit (.func (.yield l) #[] #[]), .row 8003, .lit (.func (.yield l) #[] #[]), .ref 8001 0, .ref 8002 0, .row 8003] us), (9002, .blk (.deferred (some []))), (9003, pinA [(1, Iv k), (2, .ref 2 0), (8, .row 50), (9, .ref 20 0), (10, .ref 201 0), (48, .clo 88 [.ref 8001 0, .ref 8002 0])] tmps), (9004, pinL l D), (8001, .var 3 [Nv (j + 1)]), (8002, oM 24 m), (2, oM 24 m), (20, .var 3 [Nv (j + 1)]), (201, .var 84 [.row 61]), (50, .row 38 1 (gcells cP (cyU m j))), (8003, .row 3 1 (is .i64 (wordT m.mod.toNat (j + 1) t))), (61, .row 96 1 (gcells cV (lsT m (j + 1) t)))]⟩
          refine awp_seq fun K30 hK30 => awp_region rfl ?_
          refine o_box 8004 [Iv m.mod, Lv m.mul, Lv m.add] gn rfl rfl ?_
          refine o_alloc 8005 [Fv, Zv, Fv, Zv] gn f86_ rfl rfl rfl ?_
          refine aops_end (hK30 _ (awp_seq fun K31 hK31 => ?_))
          refine awp_wk (σ' := ⟨[(0, mapV m), (1, .row 8003), (2, .ref 8004 0), (4, .ref 8005 0)], [(8005, .var 92 [Fv, Zv, Fv, Zv]), (8004, oM 24 m), (9014, .pin [.row 8003, mapV m, .row 8003, Iv k, .ref 2 0, .row 50, .ref 20 0, .ref 201 0, .clo 88 [.ref 8001 0, .ref 8002 0], .row 8003, .row 8003, bp (firstP (wordT m.mod.toNat (j + 1) t)), bp (¬ (firstP (wordT m.mod.toNat (j + 1) t)))] us5), (9001, .blk (.loop (lrec fn tmps ps' as' bo' D .busy none))), (9005, .pin [.lit (.func (.yield l) #[] #[]), .row 8003, .lit (.func (.yield l) #[] #[]), .ref 8001 0, .ref 8002 0, .row 8003] us), (9002, .blk (.deferred (some []))), (9003, pinA [(1, Iv k), (2, .ref 2 0), (8, .row 50), (9, .ref 20 0), (10, .ref 201 0), (48, .clo 88 [.ref 8001 0, .ref 8002 0])] tmps), (9004, pinL l D), (8001, .var 3 [Nv (j + 1)]), (8002, oM 24 m), (2, oM 24 m), (20, .var 3 [Nv (j + 1)]), (201, .var 84 [.row 61]), (50, .row 38 1 (gcells cP (cyU m j))), (8003, .row 3 1 (is .i64 (wordT m.mod.toNat (j + 1) t))), (61, .row 96 1 (gcells cV (lsT m (j + 1) t)))]⟩) (Wk.sub ⟨rfl, rfl, rfl, rfl, trivial⟩ ⟨rfl, rfl, rfl, rfl, rfl, rfl, rfl, rfl, rfl, rfl, rfl, rfl, rfl, rfl, rfl, rfl, trivial⟩) ?_
          refine awp_regionSK 2 8 _ 91 [] _ _ _ _ _ [mapV m, .row 8003] (linW (lineZ m (wordT m.mod.toNat (j + 1) t))) [(8005, .var 92 [Fv, Zv, Fv, Zv]), (8004, oM 24 m), (9014, .pin [.row 8003, mapV m, .row 8003, Iv k, .ref 2 0, .row 50, .ref 20 0, .ref 201 0, .clo 88 [.ref 8001 0, .ref 8002 0], .row 8003, .row 8003, bp (firstP (wordT m.mod.toNat (j + 1) t)), bp (¬ (firstP (wordT m.mod.toNat (j + 1) t)))] us5), (9001, .blk (.loop (lrec fn tmps ps' as' bo' D .busy none))), (9005, .pin [.lit (.func (.yield l) #[] #[]), .row 8003, .lit (.func (.yield l) #[] #[]), .ref 8001 0, .ref 8002 0, .row 8003] us), (9002, .blk (.deferred (some []))), (9003, pinA [(1, Iv k), (2, .ref 2 0), (8, .row 50), (9, .ref 20 0), (10, .ref 201 0), (48, .clo 88 [.ref 8001 0, .ref 8002 0])] tmps), (9004, pinL l D), (8001, .var 3 [Nv (j + 1)]), (8002, oM 24 m), (2, oM 24 m), (20, .var 3 [Nv (j + 1)]), (201, .var 84 [.row 61]), (50, .row 38 1 (gcells cP (cyU m j))), (8003, .row 3 1 (is .i64 (wordT m.mod.toNat (j + 1) t))), (61, .row 96 1 (gcells cV (lsT m (j + 1) t)))] rfl rfl f98_ ?_
          refine o_loadA [Iv m.mod, Lv m.mul, Lv m.add] gn f63_ rfl rfl rfl rfl rfl ?_
          refine o_mv (.row 8003) rfl ?_
          refine aops_end ⟨rfl, rfl, ?sc6, ?_⟩
          case sc6 =>
           refine scalls_of_awpB 9015 Tryz.func91 (c := _) rfl (Nat.le_of_ble_eq_true rfl) rfl rfl rfl (fun us6 => ?_)
           show awp cx 25 _ (postS cx Tryz.f91 (linW (lineZ m (wordT m.mod.toNat (j + 1) t))) [(8005, .var 92 [Fv, Zv, Fv, Zv]), (8004, oM 24 m), (9014, .pin [.row 8003, mapV m, .row 8003, Iv k, .ref 2 0, .row 50, .ref 20 0, .ref 201 0, .clo 88 [.ref 8001 0, .ref 8002 0], .row 8003, .row 8003, bp (firstP (wordT m.mod.toNat (j + 1) t)), bp (¬ (firstP (wordT m.mod.toNat (j + 1) t)))] us5), (9001, .blk (.loop (lrec fn tmps ps' as' bo' D .busy none))), (9005, .pin [.lit (.func (.yield l) #[] #[]), .row 8003, .lit (.func (.yield l) #[] #[]), .ref 8001 0, .ref 8002 0, .row 8003] us), (9002, .blk (.deferred (some []))), (9003, pinA [(1, Iv k), (2, .ref 2 0), (8, .row 50), (9, .ref 20 0), (10, .ref 201 0), (48, .clo 88 [.ref 8001 0, .ref 8002 0])] tmps), (9004, pinL l D), (8001, .var 3 [Nv (j + 1)]), (8002, oM 24 m), (2, oM 24 m), (20, .var 3 [Nv (j + 1)]), (201, .var 84 [.row 61]), (50, .row 38 1 (gcells cP (cyU m j))), (8003, .row 3 1 (is .i64 (wordT m.mod.toNat (j + 1) t))), (61, .row 96 1 (gcells cV (lsT m (j + 1) t)))] 9015 [.row 8003, mapV m, mapV m, .row 8003, .ref 8004 0, .ref 8005 0] us6) ⟨[(0, mapV m), (1, .row 8003)], [(9015, .pin [.row 8003, mapV m, mapV m, .row 8003, .ref 8004 0, .ref 8005 0] us6), (8005, .var 92 [Fv, Zv, Fv, Zv]), (8004, oM 24 m), (9014, .pin [.row 8003, mapV m, .row 8003, Iv k, .ref 2 0, .row 50, .ref 20 0, .ref 201 0, .clo 88 [.ref 8001 0, .ref 8002 0], .row 8003, .row 8003, bp (firstP (wordT m.mod.toNat (j + 1) t)), bp (¬ (firstP (wordT m.mod.toNat (j + 1) t)))] us5), (9001, .blk (.loop (lrec fn tmps ps' as' bo' D .busy none))), (9005, .pin [.lit (.func (.yield l) #[] #[]), .row 8003, .lit (.func (.yield l) #[] #[]), .ref 8001 0, .ref 8002 0, .row 8003] us), (9002, .blk (.deferred (some []))), (9003, pinA [(1, Iv k), (2, .ref 2 0), (8, .row 50), (9, .ref 20 0), (10, .ref 201 0), (48, .clo 88 [.ref 8001 0, .ref 8002 0])] tmps), (9004, pinL l D), (8001, .var 3 [Nv (j + 1)]), (8002, oM 24 m), (2, oM 24 m), (20, .var 3 [Nv (j + 1)]), (201, .var 84 [.row 61]), (50, .row 38 1 (gcells cP (cyU m j))), (8003, .row 3 1 (is .i64 (wordT m.mod.toNat (j + 1) t))), (61, .row 96 1 (gcells cV (lsT m (j + 1) t)))]⟩
           refine awp_seq fun K32 hK32 => awp_region rfl ?_
           refine o_box 8006 [Iv m.mod, Lv m.mul, Lv m.add] gn rfl rfl ?_
           refine o_alloc 8007 [Fv, Zv, Fv, Zv, Fv, Zv] gn f78_ rfl rfl rfl ?_
           refine aops_end (hK32 _ (awp_seq fun K33 hK33 => awp_region rfl ?_))
           refine o_ct (c_wOf (1 : Int) (by first | decide | omega) (by first | decide | omega)) gn f46_ rfl ?_
           refine o_ct (c_wOf (0 : Int) (by first | decide | omega) (by first | decide | omega)) gn f46_ rfl ?_
           refine o_ct (c_wOf (1 : Int) (by first | decide | omega) (by first | decide | omega)) gn f46_ rfl ?_
           refine o_build [(bp ((1 : Int) < 0)), (.sl 1 (ns .u32 (digs (1 : Int).natAbs))), (bp ((0 : Int) < 0)), (.sl 1 (ns .u32 (digs (0 : Int).natAbs))), (bp ((1 : Int) < 0)), (.sl 1 (ns .u32 (digs (1 : Int).natAbs)))] [(0, [(bp ((1 : Int) < 0)), (.sl 1 (ns .u32 (digs (1 : Int).natAbs)))]), (1, [(bp ((0 : Int) < 0)), (.sl 1 (ns .u32 (digs (0 : Int).natAbs)))]), (2, [(bp ((1 : Int) < 0)), (.sl 1 (ns .u32 (digs (1 : Int).natAbs)))])] gn f79_ f78_ rfl rfl rfl ?_
           refine o_alloc 8008 [Fv, Zv, Fv, Zv, Fv, Zv] gn f78_ rfl rfl rfl ?_
           refine o_store [(8008, (.var 140 [(bp ((1 : Int) < 0)), (.sl 1 (ns .u32 (digs (1 : Int).natAbs))), (bp ((0 : Int) < 0)), (.sl 1 (ns .u32 (digs (0 : Int).natAbs))), (bp ((1 : Int) < 0)), (.sl 1 (ns .u32 (digs (1 : Int).natAbs)))])), (8007, .var 140 [Fv, Zv, Fv, Zv, Fv, Zv]), (8006, oM 24 m), (9015, .pin [.row 8003, mapV m, mapV m, .row 8003, .ref 8004 0, .ref 8005 0] us6), (8005, .var 92 [Fv, Zv, Fv, Zv]), (8004, oM 24 m), (9014, .pin [.row 8003, mapV m, .row 8003, Iv k, .ref 2 0, .row 50, .ref 20 0, .ref 201 0, .clo 88 [.ref 8001 0, .ref 8002 0], .row 8003, .row 8003, bp (firstP (wordT m.mod.toNat (j + 1) t)), bp (¬ (firstP (wordT m.mod.toNat (j + 1) t)))] us5), (9001, .blk (.loop (lrec fn tmps ps' as' bo' D .busy none))), (9005, .pin [.lit (.func (.yield l) #[] #[]), .row 8003, .lit (.func (.yield l) #[] #[]), .ref 8001 0, .ref 8002 0, .row 8003] us), (9002, .blk (.deferred (some []))), (9003, pinA [(1, Iv k), (2, .ref 2 0), (8, .row 50), (9, .ref 20 0), (10, .ref 201 0), (48, .clo 88 [.ref 8001 0, .ref 8002 0])] tmps), (9004, pinL l D), (8001, .var 3 [Nv (j + 1)]), (8002, oM 24 m), (2, oM 24 m), (20, .var 3 [Nv (j + 1)]), (201, .var 84 [.row 61]), (50, .row 38 1 (gcells cP (cyU m j))), (8003, .row 3 1 (is .i64 (wordT m.mod.toNat (j + 1) t))), (61, .row 96 1 (gcells cV (lsT m (j + 1) t)))] gn f80_ rfl rfl rfl rfl rfl rfl ?_
           refine aops_end (hK33 _ (awp_seq fun K34 hK34 => awp_region rfl ?_))
           refine o_makeFunc [.ref 8006 0, .ref 8008 0] gn rfl ?_
           refine o_as (.clo 116 [.ref 8006 0, .ref 8008 0]) rfl (aops_end (hK34 _ (awp_seq fun K35 hK35 => awp_seq fun K36 hK36 => awp_region rfl (o_mv (.row 8003) rfl ?_))))
           refine o_lenRow ((wordT m.mod.toNat (j + 1) t).length) gn f2_ rfl rfl (by simp [is]) ?_
           refine o_mv (Nv 0) rfl (aops_end (hK36 _ ?_))
           refine awp_block ?_
           refine awp_loopR (fun κ σ => ∃ (v : Nat), ∃ (ln : LinZ), (v ≤ (wordT m.mod.toNat (j + 1) t).length) ∧ (ln = lineZ m ((wordT m.mod.toNat (j + 1) t).take v)) ∧ ((wordT m.mod.toNat (j + 1) t).length - v) = κ ∧ σ = ⟨[(2, .ref 8006 0), (4, .ref 8007 0), (5, .ref 8008 0), (6, .clo 116 [.ref 8006 0, .ref 8008 0]), (14, .row 8003), (15, Nv ((wordT m.mod.toNat (j + 1) t).length)), (16, Nv v)], [(9015, .pin [.row 8003, mapV m, mapV m, .row 8003, .ref 8004 0, .ref 8005 0] us6), (8005, .var 92 [Fv, Zv, Fv, Zv]), (8004, oM 24 m), (9014, .pin [.row 8003, mapV m, .row 8003, Iv k, .ref 2 0, .row 50, .ref 20 0, .ref 201 0, .clo 88 [.ref 8001 0, .ref 8002 0], .row 8003, .row 8003, bp (firstP (wordT m.mod.toNat (j + 1) t)), bp (¬ (firstP (wordT m.mod.toNat (j + 1) t)))] us5), (9001, .blk (.loop (lrec fn tmps ps' as' bo' D .busy none))), (9005, .pin [.lit (.func (.yield l) #[] #[]), .row 8003, .lit (.func (.yield l) #[] #[]), .ref 8001 0, .ref 8002 0, .row 8003] us), (9002, .blk (.deferred (some []))), (9003, pinA [(1, Iv k), (2, .ref 2 0), (8, .row 50), (9, .ref 20 0), (10, .ref 201 0), (48, .clo 88 [.ref 8001 0, .ref 8002 0])] tmps), (9004, pinL l D), (8001, .var 3 [Nv (j + 1)]), (8002, oM 24 m), (2, oM 24 m), (20, .var 3 [Nv (j + 1)]), (201, .var 84 [.row 61]), (50, .row 38 1 (gcells cP (cyU m j))), (8003, .row 3 1 (is .i64 (wordT m.mod.toNat (j + 1) t))), (61, .row 96 1 (gcells cV (lsT m (j + 1) t))), (8006, oM 24 m), (8007, .var 140 [Fv, Zv, Fv, Zv, Fv, Zv]), (8008, .var 140 [Bv (ln.mul), Dv (ln.mul), Bv (ln.add), Dv (ln.add), Bv (ln.div), Dv (ln.div)])]⟩) ⟨_, _, ⟨0, oneZ, (by omega), rfl, rfl, rfl⟩, ?wk7⟩ ?rd7
           case wk7 =>
            exact Wk.sub ⟨rfl, rfl, rfl, rfl, rfl, rfl, (by first | rfl | exact nm_int (by omega)), trivial⟩ ⟨rfl, rfl, rfl, rfl, rfl, rfl, rfl, rfl, rfl, rfl, rfl, rfl, rfl, rfl, rfl, rfl, rfl, rfl, rfl, rfl, trivial⟩
           rintro κ _ ⟨v, ln, hv, hl2, rfl, rfl⟩
           refine awp_seq fun K37 hK37 => awp_region rfl ?_
           refine n_lss v ((wordT m.mod.toNat (j + 1) t).length) gn rfl rfl ?_
           refine aops_end (hK37 _ (awp_seq fun K38 hK38 => ?_))
           refine awp_condQ (q := v < ((wordT m.mod.toNat (j + 1) t).length)) rfl (fun h8 => ?_) (fun h8 => ?_)
           ·refine awp_skip (hK38 _ (awp_seq fun K39 hK39 => ?_))
            refine awp_block ?_
            refine awp_seq fun K40 hK40 => awp_region rfl ?_
            refine i_indexRow (wordT m.mod.toNat (j + 1) t) v gn f10_ rfl rfl rfl (by omega) ?_
            refine i_loadRow (wordT m.mod.toNat (j + 1) t) v gn f11_ rfl rfl (by omega) ?_
            refine n_as (v' := (Nv (((wordT m.mod.toNat (j + 1) t).getD v 0).toNat))) (nm_int (by have hwj := isW_get hW.1 (show v < (wordT m.mod.toNat (j + 1) t).length by assumption); omega)) ?_
            refine o_as (Nv (((wordT m.mod.toNat (j + 1) t).getD v 0).toNat)) rfl (aops_end (hK40 _ ?_))
            refine awp_wk (σ' := ⟨[(2, .ref 8006 0), (4, .ref 8007 0), (5, .ref 8008 0), (6, .clo 116 [.ref 8006 0, .ref 8008 0]), (14, .row 8003), (15, Nv ((wordT m.mod.toNat (j + 1) t).length)), (16, Nv v), (17, bp (v < ((wordT m.mod.toNat (j + 1) t).length))), (18, .ref 8003 v), (19, Nv (((wordT m.mod.toNat (j + 1) t).getD v 0).toNat)), (8, Nv (((wordT m.mod.toNat (j + 1) t).getD v 0).toNat))], [(9015, .pin [.row 8003, mapV m, mapV m, .row 8003, .ref 8004 0, .ref 8005 0] us6), (8005, .var 92 [Fv, Zv, Fv, Zv]), (8004, oM 24 m), (9014, .pin [.row 8003, mapV m, .row 8003, Iv k, .ref 2 0, .row 50, .ref 20 0, .ref 201 0, .clo 88 [.ref 8001 0, .ref 8002 0], .row 8003, .row 8003, bp (firstP (wordT m.mod.toNat (j + 1) t)), bp (¬ (firstP (wordT m.mod.toNat (j + 1) t)))] us5), (9001, .blk (.loop (lrec fn tmps ps' as' bo' D .busy none))), (9005, .pin [.lit (.func (.yield l) #[] #[]), .row 8003, .lit (.func (.yield l) #[] #[]), .ref 8001 0, .ref 8002 0, .row 8003] us), (9002, .blk (.deferred (some []))), (9003, pinA [(1, Iv k), (2, .ref 2 0), (8, .row 50), (9, .ref 20 0), (10, .ref 201 0), (48, .clo 88 [.ref 8001 0, .ref 8002 0])] tmps), (9004, pinL l D), (8001, .var 3 [Nv (j + 1)]), (8002, oM 24 m), (2, oM 24 m), (20, .var 3 [Nv (j + 1)]), (201, .var 84 [.row 61]), (50, .row 38 1 (gcells cP (cyU m j))), (8003, .row 3 1 (is .i64 (wordT m.mod.toNat (j + 1) t))), (61, .row 96 1 (gcells cV (lsT m (j + 1) t))), (8006, oM 24 m), (8007, .var 140 [Fv, Zv, Fv, Zv, Fv, Zv]), (8008, .var 140 [Bv (ln.mul), Dv (ln.mul), Bv (ln.add), Dv (ln.add), Bv (ln.div), Dv (ln.div)])]⟩) (Wk.sub ⟨rfl, rfl, rfl, rfl, rfl, rfl, rfl, rfl, rfl, rfl, rfl, trivial⟩ ⟨rfl, rfl, rfl, rfl, rfl, rfl, rfl, rfl, rfl, rfl, rfl, rfl, rfl, rfl, rfl, rfl, rfl, rfl, rfl, rfl, trivial⟩) ?_
            refine awp_regionSK 2 22 _ 116 [.ref 8006 0, .ref 8008 0] _ _ _ _ _ [Nv (((wordT m.mod.toNat (j + 1) t).getD v 0).toNat), .ref 8006 0, .ref 8008 0] (linW (thenZ m ln ((wordT m.mod.toNat (j + 1) t).getD v 0))) [(9015, .pin [.row 8003, mapV m, mapV m, .row 8003, .ref 8004 0, .ref 8005 0] us6), (8005, .var 92 [Fv, Zv, Fv, Zv]), (8004, oM 24 m), (9014, .pin [.row 8003, mapV m, .row 8003, Iv k, .ref 2 0, .row 50, .ref 20 0, .ref 201 0, .clo 88 [.ref 8001 0, .ref 8002 0], .row 8003, .row 8003, bp (firstP (wordT m.mod.toNat (j + 1) t)), bp (¬ (firstP (wordT m.mod.toNat (j + 1) t)))] us5), (9001, .blk (.loop (lrec fn tmps ps' as' bo' D .busy none))), (9005, .pin [.lit (.func (.yield l) #[] #[]), .row 8003, .lit (.func (.yield l) #[] #[]), .ref 8001 0, .ref 8002 0, .row 8003] us), (9002, .blk (.deferred (some []))), (9003, pinA [(1, Iv k), (2, .ref 2 0), (8, .row 50), (9, .ref 20 0), (10, .ref 201 0), (48, .clo 88 [.ref 8001 0, .ref 8002 0])] tmps), (9004, pinL l D), (8001, .var 3 [Nv (j + 1)]), (8002, oM 24 m), (2, oM 24 m), (20, .var 3 [Nv (j + 1)]), (201, .var 84 [.row 61]), (50, .row 38 1 (gcells cP (cyU m j))), (8003, .row 3 1 (is .i64 (wordT m.mod.toNat (j + 1) t))), (61, .row 96 1 (gcells cV (lsT m (j + 1) t))), (8006, oM 24 m), (8007, .var 140 [Fv, Zv, Fv, Zv, Fv, Zv]), (8008, .var 140 [Bv (ln.mul), Dv (ln.mul), Bv (ln.add), Dv (ln.add), Bv (ln.div), Dv (ln.div)])] rfl rfl f81_ ?_
            refine o_mv (.clo 116 [.ref 8006 0, .ref 8008 0]) rfl (o_mv (Nv (((wordT m.mod.toNat (j + 1) t).getD v 0).toNat)) rfl ?_)
            refine aops_end ⟨rfl, rfl, ?sc8, ?_⟩
            case sc8 =>
             refine scalls_of_awpB 9017 Tryz.func116 (c := _) rfl (Nat.le_of_ble_eq_true rfl) rfl rfl rfl (fun us8 => ?_)
             show awp cx 37 _ (postS cx Tryz.f116 (linW (thenZ m ln ((wordT m.mod.toNat (j + 1) t).getD v 0))) [(9015, .pin [.row 8003, mapV m, mapV m, .row 8003, .ref 8004 0, .ref 8005 0] us6), (8005, .var 92 [Fv, Zv, Fv, Zv]), (8004, oM 24 m), (9014, .pin [.row 8003, mapV m, .row 8003, Iv k, .ref 2 0, .row 50, .ref 20 0, .ref 201 0, .clo 88 [.ref 8001 0, .ref 8002 0], .row 8003, .row 8003, bp (firstP (wordT m.mod.toNat (j + 1) t)), bp (¬ (firstP (wordT m.mod.toNat (j + 1) t)))] us5), (9001, .blk (.loop (lrec fn tmps ps' as' bo' D .busy none))), (9005, .pin [.lit (.func (.yield l) #[] #[]), .row 8003, .lit (.func (.yield l) #[] #[]), .ref 8001 0, .ref 8002 0, .row 8003] us), (9002, .blk (.deferred (some []))), (9003, pinA [(1, Iv k), (2, .ref 2 0), (8, .row 50), (9, .ref 20 0), (10, .ref 201 0), (48, .clo 88 [.ref 8001 0, .ref 8002 0])] tmps), (9004, pinL l D), (8001, .var 3 [Nv (j + 1)]), (8002, oM 24 m), (2, oM 24 m), (20, .var 3 [Nv (j + 1)]), (201, .var 84 [.row 61]), (50, .row 38 1 (gcells cP (cyU m j))), (8003, .row 3 1 (is .i64 (wordT m.mod.toNat (j + 1) t))), (61, .row 96 1 (gcells cV (lsT m (j + 1) t))), (8006, oM 24 m), (8007, .var 140 [Fv, Zv, Fv, Zv, Fv, Zv]), (8008, .var 140 [Bv (ln.mul), Dv (ln.mul), Bv (ln.add), Dv (ln.add), Bv (ln.div), Dv (ln.div)])] 9017 [Nv (((wordT m.mod.toNat (j + 1) t).getD v 0).toNat), .clo 116 [.ref 8006 0, .ref 8008 0], .ref 8006 0, .ref 8007 0, .ref 8008 0, .clo 116 [.ref 8006 0, .ref 8008 0], .row 8003, Nv ((wordT m.mod.toNat (j + 1) t).length), Nv v, bp (v < ((wordT m.mod.toNat (j + 1) t).length)), .ref 8003 v, Nv (((wordT m.mod.toNat (j + 1) t).getD v 0).toNat), Nv (((wordT m.mod.toNat (j + 1) t).getD v 0).toNat)] us8) ⟨[(0, Nv (((wordT m.mod.toNat (j + 1) t).getD v 0).toNat)), (1, .ref 8006 0), (2, .ref 8008 0)], [(9017, .pin [Nv (((wordT m.mod.toNat (j + 1) t).getD v 0).toNat), .clo 116 [.ref 8006 0, .ref 8008 0], .ref 8006 0, .ref 8007 0, .ref 8008 0, .clo 116 [.ref 8006 0, .ref 8008 0], .row 8003, Nv ((wordT m.mod.toNat (j + 1) t).length), Nv v, bp (v < ((wordT m.mod.toNat (j + 1) t).length)), .ref 8003 v, Nv (((wordT m.mod.toNat (j + 1) t).getD v 0).toNat), Nv (((wordT m.mod.toNat (j + 1) t).getD v 0).toNat)] us8), (9015, .pin [.row 8003, mapV m, mapV m, .row 8003, .ref 8004 0, .ref 8005 0] us6), (8005, .var 92 [Fv, Zv, Fv, Zv]), (8004, oM 24 m), (9014, .pin [.row 8003, mapV m, .row 8003, Iv k, .ref 2 0, .row 50, .ref 20 0, .ref 201 0, .clo 88 [.ref 8001 0, .ref 8002 0], .row 8003, .row 8003, bp (firstP (wordT m.mod.toNat (j + 1) t)), bp (¬ (firstP (wordT m.mod.toNat (j + 1) t)))] us5), (9001, .blk (.loop (lrec fn tmps ps' as' bo' D .busy none))), (9005, .pin [.lit (.func (.yield l) #[] #[]), .row 8003, .lit (.func (.yield l) #[] #[]), .ref 8001 0, .ref 8002 0, .row 8003] us), (9002, .blk (.deferred (some []))), (9003, pinA [(1, Iv k), (2, .ref 2 0), (8, .row 50), (9, .ref 20 0), (10, .ref 201 0), (48, .clo 88 [.ref 8001 0, .ref 8002 0])] tmps), (9004, pinL l D), (8001, .var 3 [Nv (j + 1)]), (8002, oM 24 m), (2, oM 24 m), (20, .var 3 [Nv (j + 1)]), (201, .var 84 [.row 61]), (50, .row 38 1 (gcells cP (cyU m j))), (8003, .row 3 1 (is .i64 (wordT m.mod.toNat (j + 1) t))), (61, .row 96 1 (gcells cV (lsT m (j + 1) t))), (8006, oM 24 m), (8007, .var 140 [Fv, Zv, Fv, Zv, Fv, Zv]), (8008, .var 140 [Bv (ln.mul), Dv (ln.mul), Bv (ln.add), Dv (ln.add), Bv (ln.div), Dv (ln.div)])]⟩
             have hwj := isW_get hW.1 (show v < (wordT m.mod.toNat (j + 1) t).length by assumption)
             have hor := o5 (((wordT m.mod.toNat (j + 1) t).getD v 0).toNat) (by omega)
             obtain ⟨J1, J2, J3⟩ := line_len hM ((wordT m.mod.toNat (j + 1) t).take v) (isW_take hW.1 v)
             have J4 : ((wordT m.mod.toNat (j + 1) t).take v).length ≤ 200 := by rw [List.length_take]; omega
             rw [← hl2] at J1 J2 J3
             have hq1 := small_len (z := ((m.mul).getD (((wordT m.mod.toNat (j + 1) t).getD v 0).toNat) 0)) (by omega)
             have ha1 := small_len (z := ((m.add).getD (((wordT m.mod.toNat (j + 1) t).getD v 0).toNat) 0)) (by omega)
             have hd1 := small_len (z := m.mod) (by omega)
             have hm1 := len_mulZ ln.mul ((m.mul).getD (((wordT m.mod.toNat (j + 1) t).getD v 0).toNat) 0)
             have hm2 := len_mulZ ln.add ((m.mul).getD (((wordT m.mod.toNat (j + 1) t).getD v 0).toNat) 0)
             have hm3 := len_mulZ ln.div ((m.add).getD (((wordT m.mod.toNat (j + 1) t).getD v 0).toNat) 0)
             refine awp_seq fun K41 hK41 => awp_region rfl ?_
             refine o_alloc 8009 [Fv, Zv, Fv, Zv, Fv, Zv] gn f78_ rfl rfl rfl ?_
             refine aops_end (hK41 _ (awp_seq fun K42 hK42 => awp_region rfl ?_))
             refine o_fieldRef 1 gn f60_ rfl rfl ?_
             refine o_loadS (Lv m.mul) gn f1_ rfl rfl rfl ?_
             refine o_mv (Nv (((wordT m.mod.toNat (j + 1) t).getD v 0).toNat)) rfl ?_
             refine i_index m.mul (((wordT m.mod.toNat (j + 1) t).getD v 0).toNat) gn f10_ rfl rfl (by omega) ?_
             refine i_loadI m.mul (((wordT m.mod.toNat (j + 1) t).getD v 0).toNat) gn f11_ rfl (by omega) ?_
             refine o_ct (c_wOf ((m.mul).getD (((wordT m.mod.toNat (j + 1) t).getD v 0).toNat) 0) (by first | decide | omega) (by first | decide | omega)) gn f46_ rfl ?_
             refine o_alloc 8010 [Fv, Zv] gn f15_ rfl rfl rfl ?_
             refine o_store [(8010, oZ 90 .u32 ((m.mul).getD (((wordT m.mod.toNat (j + 1) t).getD v 0).toNat) 0)), (8009, .var 140 [Fv, Zv, Fv, Zv, Fv, Zv]), (9017, .pin [Nv (((wordT m.mod.toNat (j + 1) t).getD v 0).toNat), .clo 116 [.ref 8006 0, .ref 8008 0], .ref 8006 0, .ref 8007 0, .ref 8008 0, .clo 116 [.ref 8006 0, .ref 8008 0], .row 8003, Nv ((wordT m.mod.toNat (j + 1) t).length), Nv v, bp (v < ((wordT m.mod.toNat (j + 1) t).length)), .ref 8003 v, Nv (((wordT m.mod.toNat (j + 1) t).getD v 0).toNat), Nv (((wordT m.mod.toNat (j + 1) t).getD v 0).toNat)] us8), (9015, .pin [.row 8003, mapV m, mapV m, .row 8003, .ref 8004 0, .ref 8005 0] us6), (8005, .var 92 [Fv, Zv, Fv, Zv]), (8004, oM 24 m), (9014, .pin [.row 8003, mapV m, .row 8003, Iv k, .ref 2 0, .row 50, .ref 20 0, .ref 201 0, .clo 88 [.ref 8001 0, .ref 8002 0], .row 8003, .row 8003, bp (firstP (wordT m.mod.toNat (j + 1) t)), bp (¬ (firstP (wordT m.mod.toNat (j + 1) t)))] us5), (9001, .blk (.loop (lrec fn tmps ps' as' bo' D .busy none))), (9005, .pin [.lit (.func (.yield l) #[] #[]), .row 8003, .lit (.func (.yield l) #[] #[]), .ref 8001 0, .ref 8002 0, .row 8003] us), (9002, .blk (.deferred (some []))), (9003, pinA [(1, Iv k), (2, .ref 2 0), (8, .row 50), (9, .ref 20 0), (10, .ref 201 0), (48, .clo 88 [.ref 8001 0, .ref 8002 0])] tmps), (9004, pinL l D), (8001, .var 3 [Nv (j + 1)]), (8002, oM 24 m), (2, oM 24 m), (20, .var 3 [Nv (j + 1)]), (201, .var 84 [.row 61]), (50, .row 38 1 (gcells cP (cyU m j))), (8003, .row 3 1 (is .i64 (wordT m.mod.toNat (j + 1) t))), (61, .row 96 1 (gcells cV (lsT m (j + 1) t))), (8006, oM 24 m), (8007, .var 140 [Fv, Zv, Fv, Zv, Fv, Zv]), (8008, .var 140 [Bv (ln.mul), Dv (ln.mul), Bv (ln.add), Dv (ln.add), Bv (ln.div), Dv (ln.div)])] gn f19_ rfl rfl rfl rfl rfl rfl ?_
             refine aops_end (hK42 _ (awp_seq fun K43 hK43 => awp_regionD rfl ?_))
             refine o_fieldRef 0 gn f82_ rfl rfl ?_
             refine o_loadA [Bv (ln.mul), Dv (ln.mul)] gn f20_ rfl rfl rfl rfl rfl ?_
             refine o_loadA [bp ((m.mul).getD (((wordT m.mod.toNat (j + 1) t).getD v 0).toNat) 0 < 0), .sl 1 (ns .u32 (digs ((m.mul).getD (((wordT m.mod.toNat (j + 1) t).getD v 0).toNat) 0).natAbs))] gn f20_ rfl rfl rfl rfl rfl ?_
             refine o_ct (c_wMul (ln.mul) ((m.mul).getD (((wordT m.mod.toNat (j + 1) t).getD v 0).toNat) 0) (by first | omega | assumption | (simp only [Int.natAbs_neg]; omega)) (by first | omega | assumption | (simp only [Int.natAbs_neg]; omega))) gn f71_ rfl ?_
             refine o_fieldRef 2 gn f83_ rfl rfl ?_
             refine o_loadA [Bv (ln.add), Dv (ln.add)] gn f20_ rfl rfl rfl rfl rfl ?_
             refine o_loadA [bp ((m.mul).getD (((wordT m.mod.toNat (j + 1) t).getD v 0).toNat) 0 < 0), .sl 1 (ns .u32 (digs ((m.mul).getD (((wordT m.mod.toNat (j + 1) t).getD v 0).toNat) 0).natAbs))] gn f20_ rfl rfl rfl rfl rfl ?_
             refine o_ct (c_wMul (ln.add) ((m.mul).getD (((wordT m.mod.toNat (j + 1) t).getD v 0).toNat) 0) (by first | omega | assumption | (simp only [Int.natAbs_neg]; omega)) (by first | omega | assumption | (simp only [Int.natAbs_neg]; omega))) gn f71_ rfl ?_
             refine o_fieldRef 4 gn f84_ rfl rfl ?_
             refine o_loadA [Bv (ln.div), Dv (ln.div)] gn f20_ rfl rfl rfl rfl rfl ?_
             refine o_fieldRef 2 gn f61_ rfl rfl ?_
             refine o_loadS (Lv m.add) gn f1_ rfl rfl rfl ?_
             refine o_mv (Nv (((wordT m.mod.toNat (j + 1) t).getD v 0).toNat)) rfl ?_
             refine i_index m.add (((wordT m.mod.toNat (j + 1) t).getD v 0).toNat) gn f10_ rfl rfl (by omega) ?_
             refine i_loadI m.add (((wordT m.mod.toNat (j + 1) t).getD v 0).toNat) gn f11_ rfl (by omega) ?_
             refine o_ct (c_wOf ((m.add).getD (((wordT m.mod.toNat (j + 1) t).getD v 0).toNat) 0) (by first | decide | omega) (by first | decide | omega)) gn f46_ rfl ?_
             refine o_ct (c_wMul (ln.div) ((m.add).getD (((wordT m.mod.toNat (j + 1) t).getD v 0).toNat) 0) (by first | omega | assumption | (simp only [Int.natAbs_neg]; omega)) (by first | omega | assumption | (simp only [Int.natAbs_neg]; omega))) gn f71_ rfl ?_
             refine o_ct (c_wAdd ((ln.add) * (m.mul).getD (((wordT m.mod.toNat (j + 1) t).getD v 0).toNat) 0) ((ln.div) * (m.add).getD (((wordT m.mod.toNat (j + 1) t).getD v 0).toNat) 0) (by first | omega | assumption | (simp only [Int.natAbs_neg]; omega)) (by first | omega | assumption | (simp only [Int.natAbs_neg]; omega))) gn f40_ rfl ?_
             refine o_fieldRef 4 gn f84_ rfl rfl ?_
             refine o_loadA [Bv (ln.div), Dv (ln.div)] gn f20_ rfl rfl rfl rfl rfl ?_
             refine o_fieldRef 0 gn f59_ rfl rfl ?_
             refine o_loadS (Iv m.mod) gn f11_ rfl rfl rfl ?_
             refine o_ct (c_wOf m.mod (by first | decide | omega) (by first | decide | omega)) gn f46_ rfl ?_
             refine o_ct (c_wMul (ln.div) m.mod (by first | omega | assumption | (simp only [Int.natAbs_neg]; omega)) (by first | omega | assumption | (simp only [Int.natAbs_neg]; omega))) gn f71_ rfl ?_
             refine o_build [bp (((ln.mul) * (m.mul).getD (((wordT m.mod.toNat (j + 1) t).getD v 0).toNat) 0) < 0), .sl 1 (ns .u32 (digs ((ln.mul) * (m.mul).getD (((wordT m.mod.toNat (j + 1) t).getD v 0).toNat) 0).natAbs)), bp ((((ln.add) * (m.mul).getD (((wordT m.mod.toNat (j + 1) t).getD v 0).toNat) 0) + ((ln.div) * (m.add).getD (((wordT m.mod.toNat (j + 1) t).getD v 0).toNat) 0)) < 0), .sl 1 (ns .u32 (digs (((ln.add) * (m.mul).getD (((wordT m.mod.toNat (j + 1) t).getD v 0).toNat) 0) + ((ln.div) * (m.add).getD (((wordT m.mod.toNat (j + 1) t).getD v 0).toNat) 0)).natAbs)), bp (((ln.div) * m.mod) < 0), .sl 1 (ns .u32 (digs ((ln.div) * m.mod).natAbs))] [(0, [bp (((ln.mul) * (m.mul).getD (((wordT m.mod.toNat (j + 1) t).getD v 0).toNat) 0) < 0), .sl 1 (ns .u32 (digs ((ln.mul) * (m.mul).getD (((wordT m.mod.toNat (j + 1) t).getD v 0).toNat) 0).natAbs))]), (1, [bp ((((ln.add) * (m.mul).getD (((wordT m.mod.toNat (j + 1) t).getD v 0).toNat) 0) + ((ln.div) * (m.add).getD (((wordT m.mod.toNat (j + 1) t).getD v 0).toNat) 0)) < 0), .sl 1 (ns .u32 (digs (((ln.add) * (m.mul).getD (((wordT m.mod.toNat (j + 1) t).getD v 0).toNat) 0) + ((ln.div) * (m.add).getD (((wordT m.mod.toNat (j + 1) t).getD v 0).toNat) 0)).natAbs))]), (2, [bp (((ln.div) * m.mod) < 0), .sl 1 (ns .u32 (digs ((ln.div) * m.mod).natAbs))])] gn f79_ f78_ rfl rfl rfl ?_
             refine o_store [(8010, oZ 90 .u32 ((m.mul).getD (((wordT m.mod.toNat (j + 1) t).getD v 0).toNat) 0)), (8009, .var 140 [bp (((ln.mul) * (m.mul).getD (((wordT m.mod.toNat (j + 1) t).getD v 0).toNat) 0) < 0), .sl 1 (ns .u32 (digs ((ln.mul) * (m.mul).getD (((wordT m.mod.toNat (j + 1) t).getD v 0).toNat) 0).natAbs)), bp ((((ln.add) * (m.mul).getD (((wordT m.mod.toNat (j + 1) t).getD v 0).toNat) 0) + ((ln.div) * (m.add).getD (((wordT m.mod.toNat (j + 1) t).getD v 0).toNat) 0)) < 0), .sl 1 (ns .u32 (digs (((ln.add) * (m.mul).getD (((wordT m.mod.toNat (j + 1) t).getD v 0).toNat) 0) + ((ln.div) * (m.add).getD (((wordT m.mod.toNat (j + 1) t).getD v 0).toNat) 0)).natAbs)), bp (((ln.div) * m.mod) < 0), .sl 1 (ns .u32 (digs ((ln.div) * m.mod).natAbs))]), (9017, .pin [Nv (((wordT m.mod.toNat (j + 1) t).getD v 0).toNat), .clo 116 [.ref 8006 0, .ref 8008 0], .ref 8006 0, .ref 8007 0, .ref 8008 0, .clo 116 [.ref 8006 0, .ref 8008 0], .row 8003, Nv ((wordT m.mod.toNat (j + 1) t).length), Nv v, bp (v < ((wordT m.mod.toNat (j + 1) t).length)), .ref 8003 v, Nv (((wordT m.mod.toNat (j + 1) t).getD v 0).toNat), Nv (((wordT m.mod.toNat (j + 1) t).getD v 0).toNat)] us8), (9015, .pin [.row 8003, mapV m, mapV m, .row 8003, .ref 8004 0, .ref 8005 0] us6), (8005, .var 92 [Fv, Zv, Fv, Zv]), (8004, oM 24 m), (9014, .pin [.row 8003, mapV m, .row 8003, Iv k, .ref 2 0, .row 50, .ref 20 0, .ref 201 0, .clo 88 [.ref 8001 0, .ref 8002 0], .row 8003, .row 8003, bp (firstP (wordT m.mod.toNat (j + 1) t)), bp (¬ (firstP (wordT m.mod.toNat (j + 1) t)))] us5), (9001, .blk (.loop (lrec fn tmps ps' as' bo' D .busy none))), (9005, .pin [.lit (.func (.yield l) #[] #[]), .row 8003, .lit (.func (.yield l) #[] #[]), .ref 8001 0, .ref 8002 0, .row 8003] us), (9002, .blk (.deferred (some []))), (9003, pinA [(1, Iv k), (2, .ref 2 0), (8, .row 50), (9, .ref 20 0), (10, .ref 201 0), (48, .clo 88 [.ref 8001 0, .ref 8002 0])] tmps), (9004, pinL l D), (8001, .var 3 [Nv (j + 1)]), (8002, oM 24 m), (2, oM 24 m), (20, .var 3 [Nv (j + 1)]), (201, .var 84 [.row 61]), (50, .row 38 1 (gcells cP (cyU m j))), (8003, .row 3 1 (is .i64 (wordT m.mod.toNat (j + 1) t))), (61, .row 96 1 (gcells cV (lsT m (j + 1) t))), (8006, oM 24 m), (8007, .var 140 [Fv, Zv, Fv, Zv, Fv, Zv]), (8008, .var 140 [Bv (ln.mul), Dv (ln.mul), Bv (ln.add), Dv (ln.add), Bv (ln.div), Dv (ln.div)])] gn f80_ rfl rfl rfl rfl rfl rfl ?_
             refine aops_end ⟨by kernel_rfl, ?_⟩
             refine hK43 _ ?_
             refine awp_wk (σ' := ⟨[(4, .ref 8009 0)], [(9017, .pin [Nv (((wordT m.mod.toNat (j + 1) t).getD v 0).toNat), .clo 116 [.ref 8006 0, .ref 8008 0], .ref 8006 0, .ref 8007 0, .ref 8008 0, .clo 116 [.ref 8006 0, .ref 8008 0], .row 8003, Nv ((wordT m.mod.toNat (j + 1) t).length), Nv v, bp (v < ((wordT m.mod.toNat (j + 1) t).length)), .ref 8003 v, Nv (((wordT m.mod.toNat (j + 1) t).getD v 0).toNat), Nv (((wordT m.mod.toNat (j + 1) t).getD v 0).toNat)] us8), (9015, .pin [.row 8003, mapV m, mapV m, .row 8003, .ref 8004 0, .ref 8005 0] us6), (8005, .var 92 [Fv, Zv, Fv, Zv]), (8004, oM 24 m), (9014, .pin [.row 8003, mapV m, .row 8003, Iv k, .ref 2 0, .row 50, .ref 20 0, .ref 201 0, .clo 88 [.ref 8001 0, .ref 8002 0], .row 8003, .row 8003, bp (firstP (wordT m.mod.toNat (j + 1) t)), bp (¬ (firstP (wordT m.mod.toNat (j + 1) t)))] us5), (9001, .blk (.loop (lrec fn tmps ps' as' bo' D .busy none))), (9005, .pin [.lit (.func (.yield l) #[] #[]), .row 8003, .lit (.func (.yield l) #[] #[]), .ref 8001 0, .ref 8002 0, .row 8003] us), (9002, .blk (.deferred (some []))), (9003, pinA [(1, Iv k), (2, .ref 2 0), (8, .row 50), (9, .ref 20 0), (10, .ref 201 0), (48, .clo 88 [.ref 8001 0, .ref 8002 0])] tmps), (9004, pinL l D), (8001, .var 3 [Nv (j + 1)]), (8002, oM 24 m), (2, oM 24 m), (20, .var 3 [Nv (j + 1)]), (201, .var 84 [.row 61]), (50, .row 38 1 (gcells cP (cyU m j))), (8003, .row 3 1 (is .i64 (wordT m.mod.toNat (j + 1) t))), (61, .row 96 1 (gcells cV (lsT m (j + 1) t))), (8006, oM 24 m), (8007, .var 140 [Fv, Zv, Fv, Zv, Fv, Zv]), (8008, .var 140 [Bv (ln.mul), Dv (ln.mul), Bv (ln.add), Dv (ln.add), Bv (ln.div), Dv (ln.div)]), (8009, .var 140 [bp (((ln.mul) * (m.mul).getD (((wordT m.mod.toNat (j + 1) t).getD v 0).toNat) 0) < 0), .sl 1 (ns .u32 (digs ((ln.mul) * (m.mul).getD (((wordT m.mod.toNat (j + 1) t).getD v 0).toNat) 0).natAbs)), bp ((((ln.add) * (m.mul).getD (((wordT m.mod.toNat (j + 1) t).getD v 0).toNat) 0) + ((ln.div) * (m.add).getD (((wordT m.mod.toNat (j + 1) t).getD v 0).toNat) 0)) < 0), .sl 1 (ns .u32 (digs (((ln.add) * (m.mul).getD (((wordT m.mod.toNat (j + 1) t).getD v 0).toNat) 0) + ((ln.div) * (m.add).getD (((wordT m.mod.toNat (j + 1) t).getD v 0).toNat) 0)).natAbs)), bp (((ln.div) * m.mod) < 0), .sl 1 (ns .u32 (digs ((ln.div) * m.mod).natAbs))])]⟩) (Wk.sub ⟨rfl, trivial⟩ ⟨rfl, rfl, rfl, rfl, rfl, rfl, rfl, rfl, rfl, rfl, rfl, rfl, rfl, rfl, rfl, rfl, rfl, rfl, rfl, rfl, rfl, rfl, trivial⟩) ?_
             refine awp_ret ?_
             try dsimp only [thenK, inBlk]
             refine postS_ret (extra := [(8009, .var 140 [bp (((ln.mul) * (m.mul).getD (((wordT m.mod.toNat (j + 1) t).getD v 0).toNat) 0) < 0), .sl 1 (ns .u32 (digs ((ln.mul) * (m.mul).getD (((wordT m.mod.toNat (j + 1) t).getD v 0).toNat) 0).natAbs)), bp ((((ln.add) * (m.mul).getD (((wordT m.mod.toNat (j + 1) t).getD v 0).toNat) 0) + ((ln.div) * (m.add).getD (((wordT m.mod.toNat (j + 1) t).getD v 0).toNat) 0)) < 0), .sl 1 (ns .u32 (digs (((ln.add) * (m.mul).getD (((wordT m.mod.toNat (j + 1) t).getD v 0).toNat) 0) + ((ln.div) * (m.add).getD (((wordT m.mod.toNat (j + 1) t).getD v 0).toNat) 0)).natAbs)), bp (((ln.div) * m.mod) < 0), .sl 1 (ns .u32 (digs ((ln.div) * m.mod).natAbs))])]) ?_ rfl
             refine ⟨[.agg [bp (((ln.mul) * (m.mul).getD (((wordT m.mod.toNat (j + 1) t).getD v 0).toNat) 0) < 0), .sl 1 (ns .u32 (digs ((ln.mul) * (m.mul).getD (((wordT m.mod.toNat (j + 1) t).getD v 0).toNat) 0).natAbs)), bp ((((ln.add) * (m.mul).getD (((wordT m.mod.toNat (j + 1) t).getD v 0).toNat) 0) + ((ln.div) * (m.add).getD (((wordT m.mod.toNat (j + 1) t).getD v 0).toNat) 0)) < 0), .sl 1 (ns .u32 (digs (((ln.add) * (m.mul).getD (((wordT m.mod.toNat (j + 1) t).getD v 0).toNat) 0) + ((ln.div) * (m.add).getD (((wordT m.mod.toNat (j + 1) t).getD v 0).toNat) 0)).natAbs)), bp (((ln.div) * m.mod) < 0), .sl 1 (ns .u32 (digs ((ln.div) * m.mod).natAbs))]], ⟨⟨8009, .var 140 [bp (((ln.mul) * (m.mul).getD (((wordT m.mod.toNat (j + 1) t).getD v 0).toNat) 0) < 0), .sl 1 (ns .u32 (digs ((ln.mul) * (m.mul).getD (((wordT m.mod.toNat (j + 1) t).getD v 0).toNat) 0).natAbs)), bp ((((ln.add) * (m.mul).getD (((wordT m.mod.toNat (j + 1) t).getD v 0).toNat) 0) + ((ln.div) * (m.add).getD (((wordT m.mod.toNat (j + 1) t).getD v 0).toNat) 0)) < 0), .sl 1 (ns .u32 (digs (((ln.add) * (m.mul).getD (((wordT m.mod.toNat (j + 1) t).getD v 0).toNat) 0) + ((ln.div) * (m.add).getD (((wordT m.mod.toNat (j + 1) t).getD v 0).toNat) 0)).natAbs)), bp (((ln.div) * m.mod) < 0), .sl 1 (ns .u32 (digs ((ln.div) * m.mod).natAbs))], rfl, rfl, rfl, Or.inl ⟨f85_, AV.le_refl _⟩⟩, trivial⟩, ?_⟩
             exact linK_eq (Int.mul_comm _ _) (congr (congrArg HAdd.hAdd (Int.mul_comm _ _)) (Int.mul_comm _ _)) rfl
            refine o_store [(9015, .pin [.row 8003, mapV m, mapV m, .row 8003, .ref 8004 0, .ref 8005 0] us6), (8005, .var 92 [Fv, Zv, Fv, Zv]), (8004, oM 24 m), (9014, .pin [.row 8003, mapV m, .row 8003, Iv k, .ref 2 0, .row 50, .ref 20 0, .ref 201 0, .clo 88 [.ref 8001 0, .ref 8002 0], .row 8003, .row 8003, bp (firstP (wordT m.mod.toNat (j + 1) t)), bp (¬ (firstP (wordT m.mod.toNat (j + 1) t)))] us5), (9001, .blk (.loop (lrec fn tmps ps' as' bo' D .busy none))), (9005, .pin [.lit (.func (.yield l) #[] #[]), .row 8003, .lit (.func (.yield l) #[] #[]), .ref 8001 0, .ref 8002 0, .row 8003] us), (9002, .blk (.deferred (some []))), (9003, pinA [(1, Iv k), (2, .ref 2 0), (8, .row 50), (9, .ref 20 0), (10, .ref 201 0), (48, .clo 88 [.ref 8001 0, .ref 8002 0])] tmps), (9004, pinL l D), (8001, .var 3 [Nv (j + 1)]), (8002, oM 24 m), (2, oM 24 m), (20, .var 3 [Nv (j + 1)]), (201, .var 84 [.row 61]), (50, .row 38 1 (gcells cP (cyU m j))), (8003, .row 3 1 (is .i64 (wordT m.mod.toNat (j + 1) t))), (61, .row 96 1 (gcells cV (lsT m (j + 1) t))), (8006, oM 24 m), (8007, .var 140 [Fv, Zv, Fv, Zv, Fv, Zv]), (8008, .var 140 [Bv ((thenZ m ln ((wordT m.mod.toNat (j + 1) t).getD v 0)).mul), Dv ((thenZ m ln ((wordT m.mod.toNat (j + 1) t).getD v 0)).mul), Bv ((thenZ m ln ((wordT m.mod.toNat (j + 1) t).getD v 0)).add), Dv ((thenZ m ln ((wordT m.mod.toNat (j + 1) t).getD v 0)).add), Bv ((thenZ m ln ((wordT m.mod.toNat (j + 1) t).getD v 0)).div), Dv ((thenZ m ln ((wordT m.mod.toNat (j + 1) t).getD v 0)).div)])] gn f80_ rfl rfl rfl rfl rfl rfl ?_
            refine aops_end (hK39 _ (awp_region rfl ?_))
            refine n_add v 1 gn rfl rfl (by simp only [topOf]; omega) ?_
            refine o_mv (Nv (v + 1)) rfl (aops_end ?_)
            refine ⟨_, _, ?lt, ⟨v + 1, thenZ m ln ((wordT m.mod.toNat (j + 1) t).getD v 0), (by omega), (by rw [hl2]; exact lineZ_next (by assumption)), rfl, rfl⟩, ?wk⟩
            case lt => omega
            case wk => exact Wk.sub ⟨rfl, rfl, rfl, rfl, rfl, rfl, (by first | rfl | exact nm_int (by omega)), trivial⟩ ⟨rfl, rfl, rfl, rfl, rfl, rfl, rfl, rfl, rfl, rfl, rfl, rfl, rfl, rfl, rfl, rfl, rfl, rfl, rfl, rfl, trivial⟩
           ·refine awp_exit ?_
            refine hK35 _ (awp_seq fun K44 hK44 => awp_region rfl ?_)
            refine o_loadA [Bv (ln.mul), Dv (ln.mul), Bv (ln.add), Dv (ln.add), Bv (ln.div), Dv (ln.div)] gn f85_ rfl rfl rfl rfl rfl ?_
            refine o_store [(9015, .pin [.row 8003, mapV m, mapV m, .row 8003, .ref 8004 0, .ref 8005 0] us6), (8005, .var 92 [Fv, Zv, Fv, Zv]), (8004, oM 24 m), (9014, .pin [.row 8003, mapV m, .row 8003, Iv k, .ref 2 0, .row 50, .ref 20 0, .ref 201 0, .clo 88 [.ref 8001 0, .ref 8002 0], .row 8003, .row 8003, bp (firstP (wordT m.mod.toNat (j + 1) t)), bp (¬ (firstP (wordT m.mod.toNat (j + 1) t)))] us5), (9001, .blk (.loop (lrec fn tmps ps' as' bo' D .busy none))), (9005, .pin [.lit (.func (.yield l) #[] #[]), .row 8003, .lit (.func (.yield l) #[] #[]), .ref 8001 0, .ref 8002 0, .row 8003] us), (9002, .blk (.deferred (some []))), (9003, pinA [(1, Iv k), (2, .ref 2 0), (8, .row 50), (9, .ref 20 0), (10, .ref 201 0), (48, .clo 88 [.ref 8001 0, .ref 8002 0])] tmps), (9004, pinL l D), (8001, .var 3 [Nv (j + 1)]), (8002, oM 24 m), (2, oM 24 m), (20, .var 3 [Nv (j + 1)]), (201, .var 84 [.row 61]), (50, .row 38 1 (gcells cP (cyU m j))), (8003, .row 3 1 (is .i64 (wordT m.mod.toNat (j + 1) t))), (61, .row 96 1 (gcells cV (lsT m (j + 1) t))), (8006, oM 24 m), (8007, .var 140 [Bv (ln.mul), Dv (ln.mul), Bv (ln.add), Dv (ln.add), Bv (ln.div), Dv (ln.div)]), (8008, .var 140 [Bv (ln.mul), Dv (ln.mul), Bv (ln.add), Dv (ln.add), Bv (ln.div), Dv (ln.div)])] gn f80_ rfl rfl rfl rfl rfl rfl ?_
            refine aops_end (hK44 _ ?_)
            refine awp_wk (σ' := ⟨[(4, .ref 8007 0)], [(9015, .pin [.row 8003, mapV m, mapV m, .row 8003, .ref 8004 0, .ref 8005 0] us6), (8005, .var 92 [Fv, Zv, Fv, Zv]), (8004, oM 24 m), (9014, .pin [.row 8003, mapV m, .row 8003, Iv k, .ref 2 0, .row 50, .ref 20 0, .ref 201 0, .clo 88 [.ref 8001 0, .ref 8002 0], .row 8003, .row 8003, bp (firstP (wordT m.mod.toNat (j + 1) t)), bp (¬ (firstP (wordT m.mod.toNat (j + 1) t)))] us5), (9001, .blk (.loop (lrec fn tmps ps' as' bo' D .busy none))), (9005, .pin [.lit (.func (.yield l) #[] #[]), .row 8003, .lit (.func (.yield l) #[] #[]), .ref 8001 0, .ref 8002 0, .row 8003] us), (9002, .blk (.deferred (some []))), (9003, pinA [(1, Iv k), (2, .ref 2 0), (8, .row 50), (9, .ref 20 0), (10, .ref 201 0), (48, .clo 88 [.ref 8001 0, .ref 8002 0])] tmps), (9004, pinL l D), (8001, .var 3 [Nv (j + 1)]), (8002, oM 24 m), (2, oM 24 m), (20, .var 3 [Nv (j + 1)]), (201, .var 84 [.row 61]), (50, .row 38 1 (gcells cP (cyU m j))), (8003, .row 3 1 (is .i64 (wordT m.mod.toNat (j + 1) t))), (61, .row 96 1 (gcells cV (lsT m (j + 1) t))), (8007, .var 140 [Bv (ln.mul), Dv (ln.mul), Bv (ln.add), Dv (ln.add), Bv (ln.div), Dv (ln.div)])]⟩) (Wk.sub ⟨rfl, trivial⟩ ⟨rfl, rfl, rfl, rfl, rfl, rfl, rfl, rfl, rfl, rfl, rfl, rfl, rfl, rfl, rfl, rfl, rfl, rfl, trivial⟩) ?_
            refine awp_ret ?_
            try dsimp only [thenK, inBlk]
            refine postS_ret (extra := [(8007, .var 140 [Bv (ln.mul), Dv (ln.mul), Bv (ln.add), Dv (ln.add), Bv (ln.div), Dv (ln.div)])]) ?_ rfl
            refine ⟨[.agg [Bv (ln.mul), Dv (ln.mul), Bv (ln.add), Dv (ln.add), Bv (ln.div), Dv (ln.div)]], ⟨⟨8007, .var 140 [Bv (ln.mul), Dv (ln.mul), Bv (ln.add), Dv (ln.add), Bv (ln.div), Dv (ln.div)], rfl, rfl, rfl, Or.inl ⟨f85_, AV.le_refl _⟩⟩, trivial⟩, ?_⟩
            have e9 : v = (wordT m.mod.toNat (j + 1) t).length := (by omega)
            exact congrArg linW (by rw [hl2, e9, List.take_length])
          refine o_alloc 8006 [Fv, Zv, Fv, Zv, Fv, Zv] gn f78_ rfl rfl rfl ?_
          refine o_store [(8006, .var 140 [Bv ((lineZ m (wordT m.mod.toNat (j + 1) t)).mul), Dv ((lineZ m (wordT m.mod.toNat (j + 1) t)).mul), Bv ((lineZ m (wordT m.mod.toNat (j + 1) t)).add), Dv ((lineZ m (wordT m.mod.toNat (j + 1) t)).add), Bv ((lineZ m (wordT m.mod.toNat (j + 1) t)).div), Dv ((lineZ m (wordT m.mod.toNat (j + 1) t)).div)]), (8005, .var 92 [Fv, Zv, Fv, Zv]), (8004, oM 24 m), (9014, .pin [.row 8003, mapV m, .row 8003, Iv k, .ref 2 0, .row 50, .ref 20 0, .ref 201 0, .clo 88 [.ref 8001 0, .ref 8002 0], .row 8003, .row 8003, bp (firstP (wordT m.mod.toNat (j + 1) t)), bp (¬ (firstP (wordT m.mod.toNat (j + 1) t)))] us5), (9001, .blk (.loop (lrec fn tmps ps' as' bo' D .busy none))), (9005, .pin [.lit (.func (.yield l) #[] #[]), .row 8003, .lit (.func (.yield l) #[] #[]), .ref 8001 0, .ref 8002 0, .row 8003] us), (9002, .blk (.deferred (some []))), (9003, pinA [(1, Iv k), (2, .ref 2 0), (8, .row 50), (9, .ref 20 0), (10, .ref 201 0), (48, .clo 88 [.ref 8001 0, .ref 8002 0])] tmps), (9004, pinL l D), (8001, .var 3 [Nv (j + 1)]), (8002, oM 24 m), (2, oM 24 m), (20, .var 3 [Nv (j + 1)]), (201, .var 84 [.row 61]), (50, .row 38 1 (gcells cP (cyU m j))), (8003, .row 3 1 (is .i64 (wordT m.mod.toNat (j + 1) t))), (61, .row 96 1 (gcells cV (lsT m (j + 1) t)))] gn f80_ rfl rfl rfl rfl rfl rfl ?_
          refine aops_end (hK31 _ (awp_seq fun K45 hK45 => awp_regionD rfl ?_))
          refine o_fieldRef 2 gn f83_ rfl rfl ?_
          refine o_loadA [Bv ((lineZ m (wordT m.mod.toNat (j + 1) t)).add), Dv ((lineZ m (wordT m.mod.toNat (j + 1) t)).add)] gn f20_ rfl rfl rfl rfl rfl ?_
          refine o_fieldRef 4 gn f84_ rfl rfl ?_
          refine o_loadA [Bv ((lineZ m (wordT m.mod.toNat (j + 1) t)).div), Dv ((lineZ m (wordT m.mod.toNat (j + 1) t)).div)] gn f20_ rfl rfl rfl rfl rfl ?_
          refine o_fieldRef 0 gn f82_ rfl rfl ?_
          refine o_loadA [Bv ((lineZ m (wordT m.mod.toNat (j + 1) t)).mul), Dv ((lineZ m (wordT m.mod.toNat (j + 1) t)).mul)] gn f20_ rfl rfl rfl rfl rfl ?_
          refine o_ct (c_wSub ((lineZ m (wordT m.mod.toNat (j + 1) t)).div) ((lineZ m (wordT m.mod.toNat (j + 1) t)).mul) (by first | omega | assumption | (simp only [Int.natAbs_neg]; omega)) (by first | omega | assumption | (simp only [Int.natAbs_neg]; omega))) gn f47_ rfl ?_
          refine o_ct (c_yRed ((lineZ m (wordT m.mod.toNat (j + 1) t)).add) (((lineZ m (wordT m.mod.toNat (j + 1) t)).div) - ((lineZ m (wordT m.mod.toNat (j + 1) t)).mul)) (by first | omega | assumption) (by first | omega | assumption) (by first | omega | assumption)) gn f99_ rfl ?_
          refine o_store [(8006, .var 140 [Bv ((lineZ m (wordT m.mod.toNat (j + 1) t)).mul), Dv ((lineZ m (wordT m.mod.toNat (j + 1) t)).mul), Bv ((lineZ m (wordT m.mod.toNat (j + 1) t)).add), Dv ((lineZ m (wordT m.mod.toNat (j + 1) t)).add), Bv ((lineZ m (wordT m.mod.toNat (j + 1) t)).div), Dv ((lineZ m (wordT m.mod.toNat (j + 1) t)).div)]), (8005, .var 92 [bp ((redZ ((lineZ m (wordT m.mod.toNat (j + 1) t)).add) (((lineZ m (wordT m.mod.toNat (j + 1) t)).div) - ((lineZ m (wordT m.mod.toNat (j + 1) t)).mul))).num < 0), .sl 1 (ns .u32 (digs ((redZ ((lineZ m (wordT m.mod.toNat (j + 1) t)).add) (((lineZ m (wordT m.mod.toNat (j + 1) t)).div) - ((lineZ m (wordT m.mod.toNat (j + 1) t)).mul))).num).natAbs)), bp ((redZ ((lineZ m (wordT m.mod.toNat (j + 1) t)).add) (((lineZ m (wordT m.mod.toNat (j + 1) t)).div) - ((lineZ m (wordT m.mod.toNat (j + 1) t)).mul))).den < 0), .sl 1 (ns .u32 (digs ((redZ ((lineZ m (wordT m.mod.toNat (j + 1) t)).add) (((lineZ m (wordT m.mod.toNat (j + 1) t)).div) - ((lineZ m (wordT m.mod.toNat (j + 1) t)).mul))).den).natAbs))]), (8004, oM 24 m), (9014, .pin [.row 8003, mapV m, .row 8003, Iv k, .ref 2 0, .row 50, .ref 20 0, .ref 201 0, .clo 88 [.ref 8001 0, .ref 8002 0], .row 8003, .row 8003, bp (firstP (wordT m.mod.toNat (j + 1) t)), bp (¬ (firstP (wordT m.mod.toNat (j + 1) t)))] us5), (9001, .blk (.loop (lrec fn tmps ps' as' bo' D .busy none))), (9005, .pin [.lit (.func (.yield l) #[] #[]), .row 8003, .lit (.func (.yield l) #[] #[]), .ref 8001 0, .ref 8002 0, .row 8003] us), (9002, .blk (.deferred (some []))), (9003, pinA [(1, Iv k), (2, .ref 2 0), (8, .row 50), (9, .ref 20 0), (10, .ref 201 0), (48, .clo 88 [.ref 8001 0, .ref 8002 0])] tmps), (9004, pinL l D), (8001, .var 3 [Nv (j + 1)]), (8002, oM 24 m), (2, oM 24 m), (20, .var 3 [Nv (j + 1)]), (201, .var 84 [.row 61]), (50, .row 38 1 (gcells cP (cyU m j))), (8003, .row 3 1 (is .i64 (wordT m.mod.toNat (j + 1) t))), (61, .row 96 1 (gcells cV (lsT m (j + 1) t)))] gn f89_ rfl rfl rfl rfl rfl rfl ?_
          refine aops_end ⟨by kernel_rfl, ?_⟩
          refine hK45 _ ?_
          refine awp_wk (σ' := ⟨[(4, .ref 8005 0)], [(9014, .pin [.row 8003, mapV m, .row 8003, Iv k, .ref 2 0, .row 50, .ref 20 0, .ref 201 0, .clo 88 [.ref 8001 0, .ref 8002 0], .row 8003, .row 8003, bp (firstP (wordT m.mod.toNat (j + 1) t)), bp (¬ (firstP (wordT m.mod.toNat (j + 1) t)))] us5), (9001, .blk (.loop (lrec fn tmps ps' as' bo' D .busy none))), (9005, .pin [.lit (.func (.yield l) #[] #[]), .row 8003, .lit (.func (.yield l) #[] #[]), .ref 8001 0, .ref 8002 0, .row 8003] us), (9002, .blk (.deferred (some []))), (9003, pinA [(1, Iv k), (2, .ref 2 0), (8, .row 50), (9, .ref 20 0), (10, .ref 201 0), (48, .clo 88 [.ref 8001 0, .ref 8002 0])] tmps), (9004, pinL l D), (8001, .var 3 [Nv (j + 1)]), (8002, oM 24 m), (2, oM 24 m), (20, .var 3 [Nv (j + 1)]), (201, .var 84 [.row 61]), (50, .row 38 1 (gcells cP (cyU m j))), (8003, .row 3 1 (is .i64 (wordT m.mod.toNat (j + 1) t))), (61, .row 96 1 (gcells cV (lsT m (j + 1) t))), (8005, .var 92 [bp ((redZ ((lineZ m (wordT m.mod.toNat (j + 1) t)).add) (((lineZ m (wordT m.mod.toNat (j + 1) t)).div) - ((lineZ m (wordT m.mod.toNat (j + 1) t)).mul))).num < 0), .sl 1 (ns .u32 (digs ((redZ ((lineZ m (wordT m.mod.toNat (j + 1) t)).add) (((lineZ m (wordT m.mod.toNat (j + 1) t)).div) - ((lineZ m (wordT m.mod.toNat (j + 1) t)).mul))).num).natAbs)), bp ((redZ ((lineZ m (wordT m.mod.toNat (j + 1) t)).add) (((lineZ m (wordT m.mod.toNat (j + 1) t)).div) - ((lineZ m (wordT m.mod.toNat (j + 1) t)).mul))).den < 0), .sl 1 (ns .u32 (digs ((redZ ((lineZ m (wordT m.mod.toNat (j + 1) t)).add) (((lineZ m (wordT m.mod.toNat (j + 1) t)).div) - ((lineZ m (wordT m.mod.toNat (j + 1) t)).mul))).den).natAbs))])]⟩) (Wk.sub ⟨rfl, trivial⟩ ⟨rfl, rfl, rfl, rfl, rfl, rfl, rfl, rfl, rfl, rfl, rfl, rfl, rfl, rfl, rfl, trivial⟩) ?_
          refine awp_ret ?_
          try dsimp only [thenK, inBlk]
          refine postS_ret (extra := [(8005, .var 92 [bp ((redZ ((lineZ m (wordT m.mod.toNat (j + 1) t)).add) (((lineZ m (wordT m.mod.toNat (j + 1) t)).div) - ((lineZ m (wordT m.mod.toNat (j + 1) t)).mul))).num < 0), .sl 1 (ns .u32 (digs ((redZ ((lineZ m (wordT m.mod.toNat (j + 1) t)).add) (((lineZ m (wordT m.mod.toNat (j + 1) t)).div) - ((lineZ m (wordT m.mod.toNat (j + 1) t)).mul))).num).natAbs)), bp ((redZ ((lineZ m (wordT m.mod.toNat (j + 1) t)).add) (((lineZ m (wordT m.mod.toNat (j + 1) t)).div) - ((lineZ m (wordT m.mod.toNat (j + 1) t)).mul))).den < 0), .sl 1 (ns .u32 (digs ((redZ ((lineZ m (wordT m.mod.toNat (j + 1) t)).add) (((lineZ m (wordT m.mod.toNat (j + 1) t)).div) - ((lineZ m (wordT m.mod.toNat (j + 1) t)).mul))).den).natAbs))])]) ?_ rfl
          refine ⟨[.agg [bp ((redZ ((lineZ m (wordT m.mod.toNat (j + 1) t)).add) (((lineZ m (wordT m.mod.toNat (j + 1) t)).div) - ((lineZ m (wordT m.mod.toNat (j + 1) t)).mul))).num < 0), .sl 1 (ns .u32 (digs ((redZ ((lineZ m (wordT m.mod.toNat (j + 1) t)).add) (((lineZ m (wordT m.mod.toNat (j + 1) t)).div) - ((lineZ m (wordT m.mod.toNat (j + 1) t)).mul))).num).natAbs)), bp ((redZ ((lineZ m (wordT m.mod.toNat (j + 1) t)).add) (((lineZ m (wordT m.mod.toNat (j + 1) t)).div) - ((lineZ m (wordT m.mod.toNat (j + 1) t)).mul))).den < 0), .sl 1 (ns .u32 (digs ((redZ ((lineZ m (wordT m.mod.toNat (j + 1) t)).add) (((lineZ m (wordT m.mod.toNat (j + 1) t)).div) - ((lineZ m (wordT m.mod.toNat (j + 1) t)).mul))).den).natAbs))]], ⟨⟨8005, .var 92 [bp ((redZ ((lineZ m (wordT m.mod.toNat (j + 1) t)).add) (((lineZ m (wordT m.mod.toNat (j + 1) t)).div) - ((lineZ m (wordT m.mod.toNat (j + 1) t)).mul))).num < 0), .sl 1 (ns .u32 (digs ((redZ ((lineZ m (wordT m.mod.toNat (j + 1) t)).add) (((lineZ m (wordT m.mod.toNat (j + 1) t)).div) - ((lineZ m (wordT m.mod.toNat (j + 1) t)).mul))).num).natAbs)), bp ((redZ ((lineZ m (wordT m.mod.toNat (j + 1) t)).add) (((lineZ m (wordT m.mod.toNat (j + 1) t)).div) - ((lineZ m (wordT m.mod.toNat (j + 1) t)).mul))).den < 0), .sl 1 (ns .u32 (digs ((redZ ((lineZ m (wordT m.mod.toNat (j + 1) t)).add) (((lineZ m (wordT m.mod.toNat (j + 1) t)).div) - ((lineZ m (wordT m.mod.toNat (j + 1) t)).mul))).den).natAbs))], rfl, rfl, rfl, Or.inl ⟨f90_, AV.le_refl _⟩⟩, trivial⟩, ?_⟩
          rfl
         refine o_alloc 8004 [Fv, Zv, Fv, Zv] gn f86_ rfl rfl rfl ?_
         refine o_store [(8004, .var 92 [bp ((fixZ m (wordT m.mod.toNat (j + 1) t)).num < 0), .sl 1 (ns .u32 (digs ((fixZ m (wordT m.mod.toNat (j + 1) t)).num).natAbs)), bp ((fixZ m (wordT m.mod.toNat (j + 1) t)).den < 0), .sl 1 (ns .u32 (digs ((fixZ m (wordT m.mod.toNat (j + 1) t)).den).natAbs))]), (9001, .blk (.loop (lrec fn tmps ps' as' bo' D .busy none))), (9005, .pin [.lit (.func (.yield l) #[] #[]), .row 8003, .lit (.func (.yield l) #[] #[]), .ref 8001 0, .ref 8002 0, .row 8003] us), (9002, .blk (.deferred (some []))), (9003, pinA [(1, Iv k), (2, .ref 2 0), (8, .row 50), (9, .ref 20 0), (10, .ref 201 0), (48, .clo 88 [.ref 8001 0, .ref 8002 0])] tmps), (9004, pinL l D), (8001, .var 3 [Nv (j + 1)]), (8002, oM 24 m), (2, oM 24 m), (20, .var 3 [Nv (j + 1)]), (201, .var 84 [.row 61]), (50, .row 38 1 (gcells cP (cyU m j))), (8003, .row 3 1 (is .i64 (wordT m.mod.toNat (j + 1) t))), (61, .row 96 1 (gcells cV (lsT m (j + 1) t)))] gn f89_ rfl rfl rfl rfl rfl rfl ?_
         refine aops_end (hK29 _ (awp_seq fun K46 hK46 => awp_regionD rfl ?_))
         refine o_fieldRef 2 gn f94_ rfl rfl ?_
         refine o_loadA [bp ((fixZ m (wordT m.mod.toNat (j + 1) t)).den < 0), .sl 1 (ns .u32 (digs ((fixZ m (wordT m.mod.toNat (j + 1) t)).den).natAbs))] gn f20_ rfl rfl rfl rfl rfl ?_
         refine o_ct (c_wOf (1 : Int) (by first | decide | omega) (by first | decide | omega)) gn f46_ rfl ?_
         refine o_ct (c_wCmp ((fixZ m (wordT m.mod.toNat (j + 1) t)).den) (1 : Int)) gn f123_ rfl ?_
         refine o_eql (a := (cmpZ ((fixZ m (wordT m.mod.toNat (j + 1) t)).den) (1 : Int))) (c := ((0 : Nat) : Int)) gn rfl rfl ?_
         refine aops_end ⟨by kernel_rfl, ?_⟩
         refine hK46 _ ?_
         refine awp_condQ (q := (cmpZ ((fixZ m (wordT m.mod.toNat (j + 1) t)).den) (1 : Int)) = ((0 : Nat) : Int)) rfl (fun h9 => ?_) (fun h9 => ?_)
         ·refine awp_regionD rfl ?_
          refine o_loadS (.row 61) gn f143_ rfl rfl rfl ?_
          refine o_loadA [Iv m.mod, Lv m.mul, Lv m.add] gn f63_ rfl rfl rfl rfl rfl ?_
          refine o_fieldRef 0 gn f92_ rfl rfl ?_
          refine o_loadA [bp ((fixZ m (wordT m.mod.toNat (j + 1) t)).num < 0), .sl 1 (ns .u32 (digs ((fixZ m (wordT m.mod.toNat (j + 1) t)).num).natAbs))] gn f20_ rfl rfl rfl rfl rfl ?_
          refine o_loadS (Nv (j + 1)) gn f11_ rfl rfl rfl ?_
          refine o_ct (c_loop m ((fixZ m (wordT m.mod.toNat (j + 1) t)).num) (j + 1) hM (by omega) (by omega) (by omega)) gn f144_ rfl ?_
          refine o_buildSlice 8005 (gcells cV ([cyc m ((fixZ m (wordT m.mod.toNat (j + 1) t)).num) (j + 1)])) [(0, [.sl 2 (gcells cW (cyc m ((fixZ m (wordT m.mod.toNat (j + 1) t)).num) (j + 1)))])] gn f145_ rfl f146_ rfl rfl rfl rfl rfl rfl rfl ?_
          refine g_append cV 8006 (lsT m (j + 1) t) ([cyc m ((fixZ m (wordT m.mod.toNat (j + 1) t)).num) (j + 1)]) [(8005, .row 96 1 (gcells cV ([cyc m ((fixZ m (wordT m.mod.toNat (j + 1) t)).num) (j + 1)]))), (8004, .var 92 [bp ((fixZ m (wordT m.mod.toNat (j + 1) t)).num < 0), .sl 1 (ns .u32 (digs ((fixZ m (wordT m.mod.toNat (j + 1) t)).num).natAbs)), bp ((fixZ m (wordT m.mod.toNat (j + 1) t)).den < 0), .sl 1 (ns .u32 (digs ((fixZ m (wordT m.mod.toNat (j + 1) t)).den).natAbs))]), (9001, .blk (.loop (lrec fn tmps ps' as' bo' D .busy none))), (9005, .pin [.lit (.func (.yield l) #[] #[]), .row 8003, .lit (.func (.yield l) #[] #[]), .ref 8001 0, .ref 8002 0, .row 8003] us), (9002, .blk (.deferred (some []))), (9003, pinA [(1, Iv k), (2, .ref 2 0), (8, .row 50), (9, .ref 20 0), (10, .ref 201 0), (48, .clo 88 [.ref 8001 0, .ref 8002 0])] tmps), (9004, pinL l D), (8001, .var 3 [Nv (j + 1)]), (8002, oM 24 m), (2, oM 24 m), (20, .var 3 [Nv (j + 1)]), (201, .var 84 [.row 61]), (50, .row 38 1 (gcells cP (cyU m j))), (8003, .row 3 1 (is .i64 (wordT m.mod.toNat (j + 1) t)))] cV_len rfl gn f145_ f146_ rfl rfl rfl rfl rfl (by simp only [List.length_append, List.length_cons, List.length_nil]; omega) (by simp only [List.length_append, List.length_cons, List.length_nil]; omega) rfl rfl ?_
          refine o_store [(8006, .row 96 1 (gcells cV ((lsT m (j + 1) t) ++ ([cyc m ((fixZ m (wordT m.mod.toNat (j + 1) t)).num) (j + 1)])))), (8005, .row 96 1 (gcells cV ([cyc m ((fixZ m (wordT m.mod.toNat (j + 1) t)).num) (j + 1)]))), (8004, .var 92 [bp ((fixZ m (wordT m.mod.toNat (j + 1) t)).num < 0), .sl 1 (ns .u32 (digs ((fixZ m (wordT m.mod.toNat (j + 1) t)).num).natAbs)), bp ((fixZ m (wordT m.mod.toNat (j + 1) t)).den < 0), .sl 1 (ns .u32 (digs ((fixZ m (wordT m.mod.toNat (j + 1) t)).den).natAbs))]), (9001, .blk (.loop (lrec fn tmps ps' as' bo' D .busy none))), (9005, .pin [.lit (.func (.yield l) #[] #[]), .row 8003, .lit (.func (.yield l) #[] #[]), .ref 8001 0, .ref 8002 0, .row 8003] us), (9002, .blk (.deferred (some []))), (9003, pinA [(1, Iv k), (2, .ref 2 0), (8, .row 50), (9, .ref 20 0), (10, .ref 201 0), (48, .clo 88 [.ref 8001 0, .ref 8002 0])] tmps), (9004, pinL l D), (8001, .var 3 [Nv (j + 1)]), (8002, oM 24 m), (2, oM 24 m), (20, .var 3 [Nv (j + 1)]), (201, .var 84 [.row 8006]), (50, .row 38 1 (gcells cP (cyU m j))), (8003, .row 3 1 (is .i64 (wordT m.mod.toNat (j + 1) t)))] gn f147_ rfl rfl rfl rfl rfl rfl ?_
          refine aops_end ⟨by kernel_rfl, ?_⟩
          exact ⟨[(9002, .blk (.deferred (some []))), (9003, pinA [(1, Iv k), (2, .ref 2 0), (8, .row 50), (9, .ref 20 0), (10, .ref 201 0), (48, .clo 88 [.ref 8001 0, .ref 8002 0])] tmps), (9004, pinL l D), (8001, .var 3 [Nv (j + 1)]), (8002, oM 24 m), (2, oM 24 m), (20, .var 3 [Nv (j + 1)]), (201, .var 84 [.row 61]), (50, .row 38 1 (gcells cP (cyU m j))), (8003, .row 3 1 (is .i64 (wordT m.mod.toNat (j + 1) t))), (61, .row 96 1 (gcells cV (lsT m (j + 1) (t + 1))))], Wk.trans (Wk.sub (σ' := ⟨[], [(9005, .pin [.lit (.func (.yield l) #[] #[]), .row 8003, .lit (.func (.yield l) #[] #[]), .ref 8001 0, .ref 8002 0, .row 8003] us), (9001, .blk (.loop (lrec fn tmps ps' as' bo' D .busy none))), (9002, .blk (.deferred (some []))), (9003, pinA [(1, Iv k), (2, .ref 2 0), (8, .row 50), (9, .ref 20 0), (10, .ref 201 0), (48, .clo 88 [.ref 8001 0, .ref 8002 0])] tmps), (9004, pinL l D), (8001, .var 3 [Nv (j + 1)]), (8002, oM 24 m), (2, oM 24 m), (20, .var 3 [Nv (j + 1)]), (201, .var 84 [.row 8006]), (8006, .row 96 1 (gcells cV ((lsT m (j + 1) t) ++ ([cyc m ((fixZ m (wordT m.mod.toNat (j + 1) t)).num) (j + 1)])))), (50, .row 38 1 (gcells cP (cyU m j))), (8003, .row 3 1 (is .i64 (wordT m.mod.toNat (j + 1) t)))]⟩) trivial ⟨rfl, rfl, rfl, rfl, rfl, rfl, rfl, rfl, rfl, rfl, rfl, rfl, rfl, trivial⟩) (Wk.trans (Wk.ren (id := 8006) (id' := 61) rfl) (Wk.sub trivial ⟨(by first | rfl | (first | exact row_gs' (lsT_y (Decidable.not_not.1 (by assumption)) (cmpZ_eq0.1 (by assumption))) | exact row_gs' (lsT_n (fun e => absurd e.1 (by assumption))) | exact row_gs' (lsT_n (fun e => absurd (cmpZ_eq0.2 e.2) (by assumption))) | exact row_gs' (out_s (by omega) (by rw [loo_len hlo]; omega)) | exact row_gs' (by rw [List.take_of_length_le (by omega)]; rfl) | exact row_gs' (by simp))), (by first | rfl | (first | exact row_gs' (lsT_y (Decidable.not_not.1 (by assumption)) (cmpZ_eq0.1 (by assumption))) | exact row_gs' (lsT_n (fun e => absurd e.1 (by assumption))) | exact row_gs' (lsT_n (fun e => absurd (cmpZ_eq0.2 e.2) (by assumption))) | exact row_gs' (out_s (by omega) (by rw [loo_len hlo]; omega)) | exact row_gs' (by rw [List.take_of_length_le (by omega)]; rfl) | exact row_gs' (by simp))), (by first | rfl | (first | exact row_gs' (lsT_y (Decidable.not_not.1 (by assumption)) (cmpZ_eq0.1 (by assumption))) | exact row_gs' (lsT_n (fun e => absurd e.1 (by assumption))) | exact row_gs' (lsT_n (fun e => absurd (cmpZ_eq0.2 e.2) (by assumption))) | exact row_gs' (out_s (by omega) (by rw [loo_len hlo]; omega)) | exact row_gs' (by rw [List.take_of_length_le (by omega)]; rfl) | exact row_gs' (by simp))), (by first | rfl | (first | exact row_gs' (lsT_y (Decidable.not_not.1 (by assumption)) (cmpZ_eq0.1 (by assumption))) | exact row_gs' (lsT_n (fun e => absurd e.1 (by assumption))) | exact row_gs' (lsT_n (fun e => absurd (cmpZ_eq0.2 e.2) (by assumption))) | exact row_gs' (out_s (by omega) (by rw [loo_len hlo]; omega)) | exact row_gs' (by rw [List.take_of_length_le (by omega)]; rfl) | exact row_gs' (by simp))), (by first | rfl | (first | exact row_gs' (lsT_y (Decidable.not_not.1 (by assumption)) (cmpZ_eq0.1 (by assumption))) | exact row_gs' (lsT_n (fun e => absurd e.1 (by assumption))) | exact row_gs' (lsT_n (fun e => absurd (cmpZ_eq0.2 e.2) (by assumption))) | exact row_gs' (out_s (by omega) (by rw [loo_len hlo]; omega)) | exact row_gs' (by rw [List.take_of_length_le (by omega)]; rfl) | exact row_gs' (by simp))), rfl, rfl, rfl, rfl, (by first | rfl | (first | exact row_gs' (lsT_y (Decidable.not_not.1 (by assumption)) (cmpZ_eq0.1 (by assumption))) | exact row_gs' (lsT_n (fun e => absurd e.1 (by assumption))) | exact row_gs' (lsT_n (fun e => absurd (cmpZ_eq0.2 e.2) (by assumption))) | exact row_gs' (out_s (by omega) (by rw [loo_len hlo]; omega)) | exact row_gs' (by rw [List.take_of_length_le (by omega)]; rfl) | exact row_gs' (by simp))), (by first | rfl | exact row_ns (by simp) | (first | exact row_gs' (lsT_y (Decidable.not_not.1 (by assumption)) (cmpZ_eq0.1 (by assumption))) | exact row_gs' (lsT_n (fun e => absurd e.1 (by assumption))) | exact row_gs' (lsT_n (fun e => absurd (cmpZ_eq0.2 e.2) (by assumption))) | exact row_gs' (out_s (by omega) (by rw [loo_len hlo]; omega)) | exact row_gs' (by rw [List.take_of_length_le (by omega)]; rfl) | exact row_gs' (by simp))), (by first | rfl | exact row_ns (by simp) | (first | exact row_gs' (lsT_y (Decidable.not_not.1 (by assumption)) (cmpZ_eq0.1 (by assumption))) | exact row_gs' (lsT_n (fun e => absurd e.1 (by assumption))) | exact row_gs' (lsT_n (fun e => absurd (cmpZ_eq0.2 e.2) (by assumption))) | exact row_gs' (out_s (by omega) (by rw [loo_len hlo]; omega)) | exact row_gs' (by rw [List.take_of_length_le (by omega)]; rfl) | exact row_gs' (by simp))), (by first | rfl | exact row_ns (by simp) | (first | exact row_gs' (lsT_y (Decidable.not_not.1 (by assumption)) (cmpZ_eq0.1 (by assumption))) | exact row_gs' (lsT_n (fun e => absurd e.1 (by assumption))) | exact row_gs' (lsT_n (fun e => absurd (cmpZ_eq0.2 e.2) (by assumption))) | exact row_gs' (out_s (by omega) (by rw [loo_len hlo]; omega)) | exact row_gs' (by rw [List.take_of_length_le (by omega)]; rfl) | exact row_gs' (by simp))), trivial⟩)), rfl, rfl, rfl⟩
         ·refine awp_skip ?_
          exact ⟨[(9002, .blk (.deferred (some []))), (9003, pinA [(1, Iv k), (2, .ref 2 0), (8, .row 50), (9, .ref 20 0), (10, .ref 201 0), (48, .clo 88 [.ref 8001 0, .ref 8002 0])] tmps), (9004, pinL l D), (8001, .var 3 [Nv (j + 1)]), (8002, oM 24 m), (2, oM 24 m), (20, .var 3 [Nv (j + 1)]), (201, .var 84 [.row 61]), (50, .row 38 1 (gcells cP (cyU m j))), (8003, .row 3 1 (is .i64 (wordT m.mod.toNat (j + 1) t))), (61, .row 96 1 (gcells cV (lsT m (j + 1) (t + 1))))], Wk.sub trivial ⟨rfl, rfl, rfl, rfl, rfl, rfl, rfl, rfl, rfl, rfl, rfl, rfl, (by first | rfl | exact row_ns (by simp) | (first | exact row_gs' (lsT_y (Decidable.not_not.1 (by assumption)) (cmpZ_eq0.1 (by assumption))) | exact row_gs' (lsT_n (fun e => absurd e.1 (by assumption))) | exact row_gs' (lsT_n (fun e => absurd (cmpZ_eq0.2 e.2) (by assumption))) | exact row_gs' (out_s (by omega) (by rw [loo_len hlo]; omega)) | exact row_gs' (by rw [List.take_of_length_le (by omega)]; rfl) | exact row_gs' (by simp))), trivial⟩, rfl, rfl, rfl⟩
       case aft4 =>
        rintro b σ2 (⟨rfl, m', rfl, rfl⟩ | ⟨_, _, _, _, hF⟩)
        ·refine o_not (b := true) gn rfl ?_
         refine aops_end (hK26 _ ?_)
         refine awp_condB (b := false) rfl (fun hh => absurd (hh.symm.trans rfl) (by decide)) (fun _ => ?_)
         refine awp_skip (hK25 _ (awp_seq fun K47 hK47 => awp_region rfl ?_))
         refine o_loadS (Nv (j + 1)) gn f11_ rfl rfl rfl ?_
         refine n_sub (j + 1) 1 gn rfl rfl (by omega) (by simp only [topOf]; omega) ?_
         refine o_as (Nv ((j + 1) - 1)) rfl (aops_end (hK47 _ (awp_seq fun K48 hK48 => ?_)))
         refine awp_block ?_
         refine awp_loopR (fun κ σ => ∃ (w : List Int), ∃ (q : Nat), (nextP m (j + 1) t w q) ∧ ((j + 1) - q) = κ ∧ σ = ⟨[(0, .lit (.func (.yield l) #[] #[])), (1, .ref 8001 0), (2, .ref 8002 0), (4, .row 8003), (5, (Iv ((((j + 1) : Nat) : Int) - 1 - ((q : Nat) : Int))))], [(9001, .blk (.loop (lrec fn tmps ps' as' bo' D .ready none))), (9002, .blk (.deferred (some []))), (9003, pinA [(1, Iv k), (2, .ref 2 0), (8, .row 50), (9, .ref 20 0), (10, .ref 201 0), (48, .clo 88 [.ref 8001 0, .ref 8002 0])] tmps), (9004, pinL l D), (8001, .var 3 [Nv (j + 1)]), (8002, oM 24 m), (2, oM 24 m), (20, .var 3 [Nv (j + 1)]), (201, .var 84 [.row 61]), (50, .row 38 1 (gcells cP (cyU m j))), (61, .row 96 1 (gcells cV (lsT m (j + 1) (t + 1)))), (8003, .row 3 1 (is .i64 w))]⟩) ⟨_, _, ⟨wordT m.mod.toNat (j + 1) t, 0, next_0 hM ht, rfl, rfl⟩, ?wk9⟩ ?rd9
         case wk9 =>
          exact Wk.sub ⟨rfl, rfl, rfl, rfl, (by first | rfl | exact int_eq (by omega) | exact int_nm (by omega)), trivial⟩ ⟨rfl, rfl, rfl, rfl, rfl, rfl, rfl, rfl, rfl, rfl, rfl, (by first | rfl | exact row_ns (by simp) | (first | exact row_is' (next_y hM hnx (by omega) (fun e => by omega)).1 | exact row_gs' (congrArg (lsT m (j + 1)) (next_tot hM hnx (by omega) ht)) | exact row_start _ _ _)), trivial⟩
         rintro κ _ ⟨w, q, hnx, rfl, rfl⟩
         have hwl := hnx.2.1
         have hq0 := hnx.2.2.1
         refine awp_seq fun K49 hK49 => awp_seq fun K50 hK50 => awp_regionD rfl (o_mv (Iv ((((j + 1) : Nat) : Int) - 1 - ((q : Nat) : Int))) rfl ?_)
         refine o_geq (a := ((((j + 1) : Nat) : Int) - 1 - ((q : Nat) : Int))) (c := ((0 : Nat) : Int)) gn rfl rfl ?_
         refine o_mv (bp (((0 : Nat) : Int) ≤ ((((j + 1) : Nat) : Int) - 1 - ((q : Nat) : Int)))) rfl ?_
         refine o_splitP (q := ((0 : Nat) : Int) ≤ ((((j + 1) : Nat) : Int) - 1 - ((q : Nat) : Int))) 16 rfl (fun h10 => ?_) (fun h10 => ?_)
         ·refine o_move (.row 8003) (Gd.yes rfl rfl (decide_eq_true h10)) rfl (o_move (Iv ((((j + 1) : Nat) : Int) - 1 - ((q : Nat) : Int))) (Gd.yes rfl rfl (decide_eq_true h10)) rfl ?_)
          refine n_as (v' := (Nv ((j + 1) - 1 - q))) (nm_int (by omega)) ?_
          refine i_indexRow w ((j + 1) - 1 - q) (Gd.yes rfl rfl (decide_eq_true h10)) f10_ rfl rfl rfl (by omega) ?_
          refine i_loadRow w ((j + 1) - 1 - q) (Gd.yes rfl rfl (decide_eq_true h10)) f11_ rfl rfl (by omega) ?_
          refine o_fieldRef 0 (Gd.yes rfl rfl (decide_eq_true h10)) f59_ rfl rfl ?_
          refine o_loadS (Iv m.mod) (Gd.yes rfl rfl (decide_eq_true h10)) f11_ rfl rfl rfl ?_
          refine o_sub (a := m.mod) (c := ((1 : Nat) : Int)) (Gd.yes rfl rfl (decide_eq_true h10)) rfl rfl (by exact wrap64 (by omega) (by omega)) ?_
          refine o_eql (a := (w.getD ((j + 1) - 1 - q) 0)) (c := (m.mod - ((1 : Nat) : Int))) (Gd.yes rfl rfl (decide_eq_true h10)) rfl rfl ?_
          refine o_pickT (bp ((w.getD ((j + 1) - 1 - q) 0) = (m.mod - ((1 : Nat) : Int)))) gn rfl (decide_eq_true h10) rfl ?_
          refine aops_end ⟨by kernel_rfl, ?_⟩
          refine hK50 _ ?_
          refine awp_condQ (q := (w.getD ((j + 1) - 1 - q) 0) = (m.mod - ((1 : Nat) : Int))) rfl (fun h11 => ?_) (fun h11 => ?_)
          ·refine awp_skip (hK49 _ ?_)
           refine awp_block ?_
           refine awp_seq fun K51 hK51 => awp_region rfl (o_mv (.row 8003) rfl (o_mv (Iv ((((j + 1) : Nat) : Int) - 1 - ((q : Nat) : Int))) rfl ?_))
           refine n_as (v' := (Nv ((j + 1) - 1 - q))) (nm_int (by omega)) ?_
           refine i_indexRow w ((j + 1) - 1 - q) gn f10_ rfl rfl rfl (by omega) ?_
           refine i_storeRow w ((j + 1) - 1 - q) ((0 : Nat) : Int) [(9001, .blk (.loop (lrec fn tmps ps' as' bo' D .ready none))), (9002, .blk (.deferred (some []))), (9003, pinA [(1, Iv k), (2, .ref 2 0), (8, .row 50), (9, .ref 20 0), (10, .ref 201 0), (48, .clo 88 [.ref 8001 0, .ref 8002 0])] tmps), (9004, pinL l D), (8001, .var 3 [Nv (j + 1)]), (8002, oM 24 m), (2, oM 24 m), (20, .var 3 [Nv (j + 1)]), (201, .var 84 [.row 61]), (50, .row 38 1 (gcells cP (cyU m j))), (61, .row 96 1 (gcells cV (lsT m (j + 1) (t + 1)))), (8003, (.row 3 1 (is .i64 (w.set ((j + 1) - 1 - q) ((0 : Nat) : Int)))))] gn f43_ rfl rfl rfl (by omega) rfl ?_
           refine aops_end (hK51 _ (awp_region rfl (o_mv (Iv ((((j + 1) : Nat) : Int) - 1 - ((q : Nat) : Int))) rfl ?_)))
           refine o_sub (a := ((((j + 1) : Nat) : Int) - 1 - ((q : Nat) : Int))) (c := ((1 : Nat) : Int)) gn rfl rfl (by exact wrap64 (by omega) (by omega)) ?_
           refine o_as (Iv (((((j + 1) : Nat) : Int) - 1 - ((q : Nat) : Int)) - ((1 : Nat) : Int))) rfl (aops_end ?_)
           refine ⟨_, _, ?lt, ⟨w.set ((j + 1) - 1 - q) 0, q + 1, (next_s hM hnx (by omega) (by omega)), rfl, rfl⟩, ?wk⟩
           case lt => omega
           case wk => exact Wk.sub ⟨rfl, rfl, rfl, rfl, (by first | rfl | exact int_eq (by omega) | exact int_nm (by omega)), trivial⟩ ⟨rfl, rfl, rfl, rfl, rfl, rfl, rfl, rfl, rfl, rfl, rfl, (by first | rfl | exact row_ns (by simp) | (first | exact row_is' (next_y hM hnx (by omega) (fun e => by omega)).1 | exact row_gs' (congrArg (lsT m (j + 1)) (next_tot hM hnx (by omega) ht)) | exact row_start _ _ _)), trivial⟩
          ·refine awp_exit ?_
           refine hK48 _ (awp_seq fun K52 hK52 => awp_seq fun K53 hK53 => awp_region rfl (o_mv (Iv ((((j + 1) : Nat) : Int) - 1 - ((q : Nat) : Int))) rfl ?_))
           refine o_lss (a := ((((j + 1) : Nat) : Int) - 1 - ((q : Nat) : Int))) (c := ((0 : Nat) : Int)) gn rfl rfl ?_
           refine aops_end (hK53 _ ?_)
           refine awp_condQ (q := ((((j + 1) : Nat) : Int) - 1 - ((q : Nat) : Int)) < ((0 : Nat) : Int)) rfl (fun h12 => ?_) (fun h12 => ?_)
           ·refine awp_ret ?_
            exact ⟨.inr rfl, .ready, none, [(2, oM 24 m), (20, .var 3 [Nv (j + 1)]), (201, .var 84 [.row 61]), (61, .row 96 1 (gcells cV (lsT m (j + 1) (m.mod.toNat ^ (j + 1))))), (50, .row 38 1 (gcells cP (cyU m j)))], (by decide), ⟨rfl, rfl⟩, rfl, rfl, rfl, rfl, Wk.sub trivial ⟨rfl, rfl, rfl, rfl, rfl, rfl, rfl, (by first | rfl | exact row_ns (by simp) | (first | exact row_is' (next_y hM hnx (by omega) (fun e => by omega)).1 | exact row_gs' (congrArg (lsT m (j + 1)) (next_tot hM hnx (by omega) ht)) | exact row_start _ _ _)), rfl, trivial⟩⟩
           ·refine awp_skip (hK52 _ (awp_region rfl (o_mv (.row 8003) rfl (o_mv (Iv ((((j + 1) : Nat) : Int) - 1 - ((q : Nat) : Int))) rfl ?_))))
            refine n_as (v' := (Nv ((j + 1) - 1 - q))) (nm_int (by omega)) ?_
            refine i_indexRow w ((j + 1) - 1 - q) gn f10_ rfl rfl rfl (by omega) ?_
            refine i_loadRow w ((j + 1) - 1 - q) gn f11_ rfl rfl (by omega) ?_
            refine o_add (a := (w.getD ((j + 1) - 1 - q) 0)) (c := ((1 : Nat) : Int)) gn rfl rfl (by (have hg := isW_get hnx.1 (show (j + 1) - 1 - q < w.length by omega)); exact wrap64 (by omega) (by omega)) ?_
            refine i_indexRow w ((j + 1) - 1 - q) gn f10_ rfl rfl rfl (by omega) ?_
            refine i_storeRow w ((j + 1) - 1 - q) ((w.getD ((j + 1) - 1 - q) 0) + ((1 : Nat) : Int)) [(9001, .blk (.loop (lrec fn tmps ps' as' bo' D .ready none))), (9002, .blk (.deferred (some []))), (9003, pinA [(1, Iv k), (2, .ref 2 0), (8, .row 50), (9, .ref 20 0), (10, .ref 201 0), (48, .clo 88 [.ref 8001 0, .ref 8002 0])] tmps), (9004, pinL l D), (8001, .var 3 [Nv (j + 1)]), (8002, oM 24 m), (2, oM 24 m), (20, .var 3 [Nv (j + 1)]), (201, .var 84 [.row 61]), (50, .row 38 1 (gcells cP (cyU m j))), (61, .row 96 1 (gcells cV (lsT m (j + 1) (t + 1)))), (8003, (.row 3 1 (is .i64 (w.set ((j + 1) - 1 - q) ((w.getD ((j + 1) - 1 - q) 0) + ((1 : Nat) : Int))))))] gn f43_ rfl rfl rfl (by omega) rfl ?_
            refine aops_end ?_
            refine ⟨_, _, ?lt, ⟨t + 1, (next_y hM hnx (by omega) (fun e => by omega)).2, rfl, rfl⟩, ?wk⟩
            case lt => omega
            case wk => exact Wk.sub ⟨rfl, rfl, rfl, rfl, trivial⟩ ⟨rfl, rfl, rfl, rfl, rfl, rfl, rfl, rfl, rfl, rfl, (by first | rfl | exact row_ns (by simp) | (first | exact row_is' (next_y hM hnx (by omega) (fun e => by omega)).1 | exact row_gs' (congrArg (lsT m (j + 1)) (next_tot hM hnx (by omega) ht)) | exact row_start _ _ _)), (by first | rfl | exact row_ns (by simp) | (first | exact row_is' (next_y hM hnx (by omega) (fun e => by omega)).1 | exact row_gs' (congrArg (lsT m (j + 1)) (next_tot hM hnx (by omega) ht)) | exact row_start _ _ _)), trivial⟩
         ·refine o_skip rfl rfl (decide_eq_false h10) (o_skip rfl rfl (decide_eq_false h10) (o_skip rfl rfl (decide_eq_false h10) (o_skip rfl rfl (decide_eq_false h10) (o_skip rfl rfl (decide_eq_false h10) (o_skip rfl rfl (decide_eq_false h10) (o_skip rfl rfl (decide_eq_false h10) (o_skip rfl rfl (decide_eq_false h10) ?_)))))))
          refine o_pickF Fv gn rfl (decide_eq_false h10) rfl ?_
          refine aops_end ⟨by kernel_rfl, ?_⟩
          refine hK50 _ ?_
          refine awp_condB (b := false) rfl (fun hh => absurd (hh.symm.trans rfl) (by decide)) (fun _ => ?_)
          refine awp_exit ?_
          refine hK48 _ (awp_seq fun K54 hK54 => awp_seq fun K55 hK55 => awp_region rfl (o_mv (Iv ((((j + 1) : Nat) : Int) - 1 - ((q : Nat) : Int))) rfl ?_))
          refine o_lss (a := ((((j + 1) : Nat) : Int) - 1 - ((q : Nat) : Int))) (c := ((0 : Nat) : Int)) gn rfl rfl ?_
          refine aops_end (hK55 _ ?_)
          refine awp_condQ (q := ((((j + 1) : Nat) : Int) - 1 - ((q : Nat) : Int)) < ((0 : Nat) : Int)) rfl (fun h13 => ?_) (fun h13 => ?_)
          ·refine awp_ret ?_
           exact ⟨.inr rfl, .ready, none, [(2, oM 24 m), (20, .var 3 [Nv (j + 1)]), (201, .var 84 [.row 61]), (61, .row 96 1 (gcells cV (lsT m (j + 1) (m.mod.toNat ^ (j + 1))))), (50, .row 38 1 (gcells cP (cyU m j)))], (by decide), ⟨rfl, rfl⟩, rfl, rfl, rfl, rfl, Wk.sub trivial ⟨rfl, rfl, rfl, rfl, rfl, rfl, rfl, (by first | rfl | exact row_ns (by simp) | (first | exact row_is' (next_y hM hnx (by omega) (fun e => by omega)).1 | exact row_gs' (congrArg (lsT m (j + 1)) (next_tot hM hnx (by omega) ht)) | exact row_start _ _ _)), rfl, trivial⟩⟩
          ·refine awp_skip (hK54 _ (awp_region rfl (o_mv (.row 8003) rfl (o_mv (Iv ((((j + 1) : Nat) : Int) - 1 - ((q : Nat) : Int))) rfl ?_))))
           refine n_as (v' := (Nv ((j + 1) - 1 - q))) (nm_int (by omega)) ?_
           refine i_indexRow w ((j + 1) - 1 - q) gn f10_ rfl rfl rfl (by omega) ?_
           refine i_loadRow w ((j + 1) - 1 - q) gn f11_ rfl rfl (by omega) ?_
           refine o_add (a := (w.getD ((j + 1) - 1 - q) 0)) (c := ((1 : Nat) : Int)) gn rfl rfl (by (have hg := isW_get hnx.1 (show (j + 1) - 1 - q < w.length by omega)); exact wrap64 (by omega) (by omega)) ?_
           refine i_indexRow w ((j + 1) - 1 - q) gn f10_ rfl rfl rfl (by omega) ?_
           refine i_storeRow w ((j + 1) - 1 - q) ((w.getD ((j + 1) - 1 - q) 0) + ((1 : Nat) : Int)) [(9001, .blk (.loop (lrec fn tmps ps' as' bo' D .ready none))), (9002, .blk (.deferred (some []))), (9003, pinA [(1, Iv k), (2, .ref 2 0), (8, .row 50), (9, .ref 20 0), (10, .ref 201 0), (48, .clo 88 [.ref 8001 0, .ref 8002 0])] tmps), (9004, pinL l D), (8001, .var 3 [Nv (j + 1)]), (8002, oM 24 m), (2, oM 24 m), (20, .var 3 [Nv (j + 1)]), (201, .var 84 [.row 61]), (50, .row 38 1 (gcells cP (cyU m j))), (61, .row 96 1 (gcells cV (lsT m (j + 1) (t + 1)))), (8003, (.row 3 1 (is .i64 (w.set ((j + 1) - 1 - q) ((w.getD ((j + 1) - 1 - q) 0) + ((1 : Nat) : Int))))))] gn f43_ rfl rfl rfl (by omega) rfl ?_
           refine aops_end ?_
           refine ⟨_, _, ?lt, ⟨t + 1, (next_y hM hnx (by omega) (fun e => by omega)).2, rfl, rfl⟩, ?wk⟩
           case lt => omega
           case wk => exact Wk.sub ⟨rfl, rfl, rfl, rfl, trivial⟩ ⟨rfl, rfl, rfl, rfl, rfl, rfl, rfl, rfl, rfl, rfl, (by first | rfl | exact row_ns (by simp) | (first | exact row_is' (next_y hM hnx (by omega) (fun e => by omega)).1 | exact row_gs' (congrArg (lsT m (j + 1)) (next_tot hM hnx (by omega) ht)) | exact row_start _ _ _)), (by first | rfl | exact row_ns (by simp) | (first | exact row_is' (next_y hM hnx (by omega) (fun e => by omega)).1 | exact row_gs' (congrArg (lsT m (j + 1)) (next_tot hM hnx (by omega) ht)) | exact row_start _ _ _)), trivial⟩
        ·exact hF.elim
      case nx2 =>
       rintro fn tmps D l pe m' ⟨rfl, rfl⟩
       refine hK22 _ ?_
       refine awpM_seq fun K56 hK56 => ?_
       refine awpM_lift fun mk => ?_
       refine awp_regionSW 1 70 _ 53 [] _ _ _ _ _ [.row 61, .clo 54 []] (.tup []) [(2, oM 24 m), (20, .var 3 [Nv (j + 1)]), (201, .var 84 [.row 61]), (61, .row 96 1 (gcells cV (lpN m (j + 1)))), (50, .row 38 1 (gcells cP (cyU m j)))] rfl rfl rfl f149_ ?_
       refine o_loadS (.row 61) gn f143_ rfl rfl rfl ?_
       refine aops_end ⟨_, Wk.sub (σ' := ⟨[(1, Iv k), (2, .ref 2 0), (8, .row 50), (9, .ref 20 0), (10, .ref 201 0), (48, .clo 88 [.ref 8001 0, .ref 8002 0]), (69, .row 61)], [(2, oM 24 m), (20, .var 3 [Nv (j + 1)]), (201, .var 84 [.row 61]), (61, .row 96 1 (gcells cV (lsT m (j + 1) (m.mod.toNat ^ (j + 1))))), (50, .row 38 1 (gcells cP (cyU m j)))]⟩) ⟨rfl, rfl, rfl, rfl, rfl, rfl, rfl, trivial⟩ ⟨rfl, rfl, rfl, rfl, rfl, trivial⟩, rfl, rfl, (c_sort mk c_less f148_ 61 (lsT m (j + 1) (m.mod.toNat ^ (j + 1))) rfl (fun i => lookO_set (l := [(2, oM 24 m), (20, .var 3 [Nv (j + 1)]), (201, .var 84 [.row 61]), (61, .row 96 1 (gcells cV (lsT m (j + 1) (m.mod.toNat ^ (j + 1))))), (50, .row 38 1 (gcells cP (cyU m j)))]) (i := 61) (ob := (.row 96 1 (gcells cV (lsT m (j + 1) (m.mod.toNat ^ (j + 1)))))) rfl (.row 96 1 (gcells cV (sortK (lsT m (j + 1) (m.mod.toNat ^ (j + 1)))))) i) (lsT_ne hM hf (by omega) (by omega)) (lsT_inj hM hf (by omega) (by omega)) (by have q1 := lsT_len m (j + 1) (m.mod.toNat ^ (j + 1)); have q2 := toNat_pw hM (j + 1); omega)), ?_⟩
       refine hK56 _ ?_
       refine awpM_seq fun K57 hK57 => ?_
       refine awpM_lift fun mk => ?_
       refine awp_wk (σ' := ⟨[(1, Iv k), (2, .ref 2 0), (8, .row 50), (9, .ref 20 0), (10, .ref 201 0)], [(2, oM 24 m), (50, .row 38 1 (gcells cP (cyU m j))), (20, .var 3 [Nv (j + 1)]), (201, .var 84 [.row 61]), (61, .row 96 1 (gcells cV (lpN m (j + 1))))]⟩) (Wk.sub ⟨rfl, rfl, rfl, rfl, rfl, trivial⟩ ⟨rfl, rfl, rfl, rfl, rfl, trivial⟩) ?_
       refine awp_wk (σ' := ⟨[(1, Iv k), (2, .ref 2 0), (8, .row 50), (9, .ref 20 0), (10, .ref 201 0)], [(2, oM 24 m), (50, .row 38 1 (gcells cP (cyU m j))), (20, .var 3 [Nv (j + 1)]), (201, .var 84 [.sl 1 (gcells cV (lpN m (j + 1)))])]⟩) (Wk.freeze (id := 61) (e := 96) (sz := 1) (cs := (gcells cV (lpN m (j + 1)))) rfl) ?_
       refine awp_region rfl ?_
       refine o_loadS (.sl 1 (gcells cV (lpN m (j + 1)))) gn f143_ rfl rfl rfl ?_
       refine g_len cV (lpN m (j + 1)) cV_len gn f150_ rfl ?_
       refine o_mv (Nv 0) rfl (aops_end (hK57 _ ?_))
       refine awpM_lift fun mk => ?_
       refine awp_block ?_
       refine awp_loopR (fun κ σ => ∃ (i : Nat), (i ≤ (lpN m (j + 1)).length) ∧ ((lpN m (j + 1)).length - i) = κ ∧ σ = ⟨[(1, Iv k), (2, .ref 2 0), (8, .row 50), (9, .ref 20 0), (71, .sl 1 (gcells cV (lpN m (j + 1)))), (72, Nv ((lpN m (j + 1)).length)), (73, Nv i)], [(2, oM 24 m), (20, .var 3 [Nv (j + 1)]), (50, .row 38 1 (gcells cP (cyU m j ++ (lpN m (j + 1)).take i)))]⟩) ⟨_, _, ⟨0, Nat.zero_le _, rfl, rfl⟩, ?wk10⟩ ?rd10
       case wk10 =>
        exact Wk.sub ⟨rfl, rfl, rfl, rfl, rfl, rfl, (by first | rfl | exact nm_int (by omega)), trivial⟩ ⟨rfl, rfl, (by first | rfl | exact row_ns (by simp) | (first | exact row_gs' (lsT_y (Decidable.not_not.1 (by assumption)) (cmpZ_eq0.1 (by assumption))) | exact row_gs' (lsT_n (fun e => absurd e.1 (by assumption))) | exact row_gs' (lsT_n (fun e => absurd (cmpZ_eq0.2 e.2) (by assumption))) | exact row_gs' (out_s (by omega) (by rw [loo_len hlo]; omega)) | exact row_gs' (by rw [List.take_of_length_le (by omega)]; rfl) | exact row_gs' (by simp))), trivial⟩
       rintro κ _ ⟨i, hi, rfl, rfl⟩
       refine awp_seq fun K58 hK58 => awp_region rfl ?_
       refine n_lss i ((lpN m (j + 1)).length) gn rfl rfl ?_
       refine aops_end (hK58 _ (awp_seq fun K59 hK59 => ?_))
       refine awp_condQ (q := i < ((lpN m (j + 1)).length)) rfl (fun h14 => ?_) (fun h14 => ?_)
       ·have hlo := lpN_loo hM hf (show 0 < j + 1 by omega) (by omega) (getD_memL h14)
        have hll := loo_len hlo
        refine awp_skip (hK59 _ (awp_seq fun K60 hK60 => ?_))
        refine awp_block ?_
        refine awp_seq fun K61 hK61 => awp_region rfl ?_
        refine g_index cV (lpN m (j + 1)) i cV_len rfl gn f145_ rfl rfl (by omega) ?_
        refine g_loadS cV (lpN m (j + 1)) i default (.sl 2 (gcells cW ((lpN m (j + 1)).getD i default))) cV_len gn f151_ rfl (by omega) rfl ?_
        refine o_as (.sl 2 (gcells cW ((lpN m (j + 1)).getD i default))) rfl (aops_end (hK61 _ (awp_seq fun K62 hK62 => awp_region rfl (o_as Zv rfl (aops_end (hK62 _ (awp_seq fun K63 hK63 => awp_seq fun K64 hK64 => awp_region rfl (o_mv (.sl 2 (gcells cW ((lpN m (j + 1)).getD i default))) rfl ?_))))))))
        refine g_len cW ((lpN m (j + 1)).getD i default) cW_len gn f118_ rfl ?_
        refine n_as (v' := (Nv (j + 1))) (congrArg (nm _) (by rw [loo_len hlo])) ?_
        refine o_mv (Nv 0) rfl (aops_end (hK64 _ ?_))
        refine awp_block ?_
        refine awp_loopR (fun κ σ => ∃ (q : Nat), (q ≤ j + 1) ∧ (j + 1 - q) = κ ∧ σ = ⟨[(1, Iv k), (2, .ref 2 0), (8, .row 50), (9, .ref 20 0), (71, .sl 1 (gcells cV (lpN m (j + 1)))), (72, Nv ((lpN m (j + 1)).length)), (73, Nv i), (14, .sl 2 (gcells cW ((lpN m (j + 1)).getD i default))), (77, .sl 2 (gcells cW ((lpN m (j + 1)).getD i default))), (15, .row 51), (78, Nv (j + 1)), (79, Nv q)], [(2, oM 24 m), (20, .var 3 [Nv (j + 1)]), (50, .row 38 1 (gcells cP (cyU m j ++ (lpN m (j + 1)).take i))), (51, .row 9 1 (sbs ((((lpN m (j + 1)).getD i default).take q).map txt)))]⟩) ⟨_, _, ⟨0, Nat.zero_le _, rfl, rfl⟩, ?wk11⟩ ?rd11
        case wk11 =>
         exact Wk.trans (Wk.newNil (i := 15) (id := 1601) (e := 9) (sz := 1) rfl rfl (by decide)) (Wk.trans (Wk.sub (σ' := ⟨[(1, Iv k), (2, .ref 2 0), (8, .row 50), (9, .ref 20 0), (71, .sl 1 (gcells cV (lpN m (j + 1)))), (72, Nv ((lpN m (j + 1)).length)), (73, Nv i), (14, .sl 2 (gcells cW ((lpN m (j + 1)).getD i default))), (77, .sl 2 (gcells cW ((lpN m (j + 1)).getD i default))), (15, .row 1601), (78, Nv (j + 1)), (79, Nv 0)], [(2, oM 24 m), (50, .row 38 1 (gcells cP (cyU m j ++ (lpN m (j + 1)).take i))), (20, .var 3 [Nv (j + 1)]), (1601, .row 9 1 ([]))]⟩) ⟨rfl, rfl, rfl, rfl, rfl, rfl, rfl, rfl, rfl, rfl, rfl, rfl, trivial⟩ ⟨rfl, rfl, rfl, rfl, trivial⟩) (Wk.trans (Wk.ren (id := 1601) (id' := 51) rfl) (Wk.sub ⟨rfl, rfl, rfl, rfl, rfl, rfl, rfl, rfl, rfl, (by first | rfl | simp), rfl, (by first | rfl | exact nm_int (by omega)), trivial⟩ ⟨rfl, rfl, (by first | rfl | exact row_ns (by simp) | (first | exact row_gs' (lsT_y (Decidable.not_not.1 (by assumption)) (cmpZ_eq0.1 (by assumption))) | exact row_gs' (lsT_n (fun e => absurd e.1 (by assumption))) | exact row_gs' (lsT_n (fun e => absurd (cmpZ_eq0.2 e.2) (by assumption))) | exact row_gs' (out_s (by omega) (by rw [loo_len hlo]; omega)) | exact row_gs' (by rw [List.take_of_length_le (by omega)]; rfl) | exact row_gs' (by simp))), (by first | rfl | exact row_ns (by simp) | (first | exact row_gs' (lsT_y (Decidable.not_not.1 (by assumption)) (cmpZ_eq0.1 (by assumption))) | exact row_gs' (lsT_n (fun e => absurd e.1 (by assumption))) | exact row_gs' (lsT_n (fun e => absurd (cmpZ_eq0.2 e.2) (by assumption))) | exact row_gs' (out_s (by omega) (by rw [loo_len hlo]; omega)) | exact row_gs' (by rw [List.take_of_length_le (by omega)]; rfl) | exact row_gs' (by simp))), trivial⟩)))
        rintro κ _ ⟨q, hq, rfl, rfl⟩
        refine awp_seq fun K65 hK65 => awp_region rfl ?_
        refine n_lss q (j + 1) gn rfl rfl ?_
        refine aops_end (hK65 _ (awp_seq fun K66 hK66 => ?_))
        refine awp_condQ (q := q < (j + 1)) rfl (fun h15 => ?_) (fun h15 => ?_)
        ·have hdg := loo_dig hM (by omega) hlo h15
         refine awp_skip (hK66 _ (awp_seq fun K67 hK67 => ?_))
         refine awp_block ?_
         refine awp_seq fun K68 hK68 => awp_region rfl ?_
         refine g_index cW ((lpN m (j + 1)).getD i default) q cW_len rfl gn f119_ rfl rfl (by omega) ?_
         refine g_loadA cW ((lpN m (j + 1)).getD i default) q default cW_len gn f20_ rfl (by omega) ?_
         refine o_alloc 1201 [Fv, Zv] gn f15_ rfl rfl rfl ?_
         refine o_store [(1201, oZ 90 .u32 (((lpN m (j + 1)).getD i default).getD q default)), (2, oM 24 m), (20, .var 3 [Nv (j + 1)]), (50, .row 38 1 (gcells cP (cyU m j ++ (lpN m (j + 1)).take i))), (51, .row 9 1 (sbs ((((lpN m (j + 1)).getD i default).take q).map txt)))] gn f19_ rfl rfl rfl rfl rfl rfl ?_
         refine aops_end (hK68 _ (awp_region rfl (o_mv (.row 51) rfl ?_)))
         refine o_loadA [bp ((((lpN m (j + 1)).getD i default).getD q default) < 0), .sl 1 (ns .u32 (digs (((lpN m (j + 1)).getD i default).getD q default).natAbs))] gn f20_ rfl rfl rfl rfl rfl ?_
         refine o_ct (c_wText (((lpN m (j + 1)).getD i default).getD q default) (by first | omega | assumption | (simp only [Int.natAbs_neg]; omega))) gn f58_ rfl ?_
         refine o_buildSlice 1202 (sbs ([txt (((lpN m (j + 1)).getD i default).getD q default)])) [(0, [Sv (txt (((lpN m (j + 1)).getD i default).getD q default))])] gn f152_ rfl f153_ rfl rfl rfl rfl rfl rfl rfl ?_
         refine o_append 1203 (sbs ([txt (((lpN m (j + 1)).getD i default).getD q default)])) (sbs ((((lpN m (j + 1)).getD i default).take (q + 1)).map txt)) _ [(1202, .row 9 1 (sbs ([txt (((lpN m (j + 1)).getD i default).getD q default)]))), (1201, oZ 90 .u32 (((lpN m (j + 1)).getD i default).getD q default)), (2, oM 24 m), (20, .var 3 [Nv (j + 1)]), (50, .row 38 1 (gcells cP (cyU m j ++ (lpN m (j + 1)).take i)))] gn f152_ rfl f153_ rfl rfl rfl (.inr ⟨_, _, rfl, rfl, rfl⟩) (by simp [sbs]; omega) (by simp [sbs]; omega) (strs_take (by rw [loo_len hlo]; omega)) rfl rfl ?_
         refine o_as (.row 1203) rfl (aops_end (hK67 _ (awp_region rfl ?_)))
         refine n_add q 1 gn rfl rfl (by simp only [topOf]; omega) ?_
         refine o_mv (Nv (q + 1)) rfl (aops_end ?_)
         refine ⟨_, _, ?lt, ⟨q + 1, (by omega), rfl, rfl⟩, ?wk⟩
         case lt => omega
         case wk => exact Wk.trans (Wk.sub (σ' := ⟨[(1, Iv k), (2, .ref 2 0), (8, .row 50), (9, .ref 20 0), (71, .sl 1 (gcells cV (lpN m (j + 1)))), (72, Nv ((lpN m (j + 1)).length)), (73, Nv i), (14, .sl 2 (gcells cW ((lpN m (j + 1)).getD i default))), (77, .sl 2 (gcells cW ((lpN m (j + 1)).getD i default))), (15, .row 1203), (78, Nv (j + 1)), (79, Nv (q + 1))], [(2, oM 24 m), (50, .row 38 1 (gcells cP (cyU m j ++ (lpN m (j + 1)).take i))), (20, .var 3 [Nv (j + 1)]), (1203, .row 9 1 (sbs ((((lpN m (j + 1)).getD i default).take (q + 1)).map txt)))]⟩) ⟨rfl, rfl, rfl, rfl, rfl, rfl, rfl, rfl, rfl, rfl, rfl, rfl, trivial⟩ ⟨rfl, rfl, rfl, rfl, trivial⟩) (Wk.trans (Wk.ren (id := 1203) (id' := 51) rfl) (Wk.sub ⟨rfl, rfl, rfl, rfl, rfl, rfl, rfl, rfl, rfl, (by first | rfl | simp), rfl, (by first | rfl | exact nm_int (by omega)), trivial⟩ ⟨rfl, rfl, (by first | rfl | exact row_ns (by simp) | (first | exact row_gs' (lsT_y (Decidable.not_not.1 (by assumption)) (cmpZ_eq0.1 (by assumption))) | exact row_gs' (lsT_n (fun e => absurd e.1 (by assumption))) | exact row_gs' (lsT_n (fun e => absurd (cmpZ_eq0.2 e.2) (by assumption))) | exact row_gs' (out_s (by omega) (by rw [loo_len hlo]; omega)) | exact row_gs' (by rw [List.take_of_length_le (by omega)]; rfl) | exact row_gs' (by simp))), (by first | rfl | exact row_ns (by simp) | (first | exact row_gs' (lsT_y (Decidable.not_not.1 (by assumption)) (cmpZ_eq0.1 (by assumption))) | exact row_gs' (lsT_n (fun e => absurd e.1 (by assumption))) | exact row_gs' (lsT_n (fun e => absurd (cmpZ_eq0.2 e.2) (by assumption))) | exact row_gs' (out_s (by omega) (by rw [loo_len hlo]; omega)) | exact row_gs' (by rw [List.take_of_length_le (by omega)]; rfl) | exact row_gs' (by simp))), trivial⟩))
        ·refine awp_exit ?_
         refine hK63 _ ?_
         refine awp_wk (σ' := ⟨[(1, Iv k), (2, .ref 2 0), (8, .row 50), (9, .ref 20 0), (15, .row 51), (71, .sl 1 (gcells cV (lpN m (j + 1)))), (72, Nv ((lpN m (j + 1)).length)), (73, Nv i)], [(2, oM 24 m), (50, .row 38 1 (gcells cP (cyU m j ++ (lpN m (j + 1)).take i))), (20, .var 3 [Nv (j + 1)]), (51, .row 9 1 (sbs ((((lpN m (j + 1)).getD i default).take q).map txt)))]⟩) (Wk.sub ⟨rfl, rfl, rfl, rfl, rfl, rfl, rfl, rfl, trivial⟩ ⟨rfl, rfl, rfl, rfl, trivial⟩) ?_
         refine awp_wk (σ' := ⟨[(1, Iv k), (2, .ref 2 0), (8, .row 50), (9, .ref 20 0), (15, .sl 1 (sbs ((((lpN m (j + 1)).getD i default).take q).map txt))), (71, .sl 1 (gcells cV (lpN m (j + 1)))), (72, Nv ((lpN m (j + 1)).length)), (73, Nv i)], [(2, oM 24 m), (50, .row 38 1 (gcells cP (cyU m j ++ (lpN m (j + 1)).take i))), (20, .var 3 [Nv (j + 1)])]⟩) (Wk.freeze (id := 51) (e := 9) (sz := 1) (cs := (sbs ((((lpN m (j + 1)).getD i default).take q).map txt))) rfl) ?_
         refine awp_region rfl (o_mv (.row 50) rfl (o_mv (.sl 1 (sbs ((((lpN m (j + 1)).getD i default).take q).map txt))) rfl ?_))
         refine o_build [.sl 1 (sbs ((((lpN m (j + 1)).getD i default).take q).map txt))] [(0, [.sl 1 (sbs ((((lpN m (j + 1)).getD i default).take q).map txt))])] gn f154_ f155_ rfl rfl rfl ?_
         refine o_buildSlice 1201 (gcells cP ([((lpN m (j + 1)).getD i default).take q])) [(0, [.sl 1 (sbs ((((lpN m (j + 1)).getD i default).take q).map txt))])] gn f156_ rfl f155_ rfl rfl rfl rfl rfl rfl rfl ?_
         refine g_append cP 1202 (cyU m j ++ (lpN m (j + 1)).take i) ([((lpN m (j + 1)).getD i default).take q]) [(1201, .row 38 1 (gcells cP ([((lpN m (j + 1)).getD i default).take q]))), (2, oM 24 m), (20, .var 3 [Nv (j + 1)])] cP_len rfl gn f156_ f155_ rfl rfl rfl rfl rfl (by simp only [List.length_append, List.length_cons, List.length_nil, List.length_take]; omega) (by simp only [List.length_append, List.length_cons, List.length_nil, List.length_take]; omega) rfl rfl ?_
         refine o_as (.row 1202) rfl (aops_end (hK60 _ (awp_region rfl ?_)))
         refine n_add i 1 gn rfl rfl (by simp only [topOf]; omega) ?_
         refine o_mv (Nv (i + 1)) rfl (aops_end ?_)
         refine ⟨_, _, ?lt, ⟨i + 1, (by omega), rfl, rfl⟩, ?wk⟩
         case lt => omega
         case wk => exact Wk.trans (Wk.sub (σ' := ⟨[(1, Iv k), (2, .ref 2 0), (8, .row 1202), (9, .ref 20 0), (71, .sl 1 (gcells cV (lpN m (j + 1)))), (72, Nv ((lpN m (j + 1)).length)), (73, Nv (i + 1))], [(2, oM 24 m), (1202, .row 38 1 (gcells cP ((cyU m j ++ (lpN m (j + 1)).take i) ++ ([((lpN m (j + 1)).getD i default).take q])))), (20, .var 3 [Nv (j + 1)])]⟩) ⟨rfl, rfl, rfl, rfl, rfl, rfl, rfl, trivial⟩ ⟨rfl, rfl, rfl, trivial⟩) (Wk.trans (Wk.ren (id := 1202) (id' := 50) rfl) (Wk.sub ⟨rfl, rfl, (by first | rfl | simp), rfl, rfl, rfl, (by first | rfl | exact nm_int (by omega)), trivial⟩ ⟨rfl, rfl, (by first | rfl | exact row_ns (by simp) | (first | exact row_gs' (lsT_y (Decidable.not_not.1 (by assumption)) (cmpZ_eq0.1 (by assumption))) | exact row_gs' (lsT_n (fun e => absurd e.1 (by assumption))) | exact row_gs' (lsT_n (fun e => absurd (cmpZ_eq0.2 e.2) (by assumption))) | exact row_gs' (out_s (by omega) (by rw [loo_len hlo]; omega)) | exact row_gs' (by rw [List.take_of_length_le (by omega)]; rfl) | exact row_gs' (by simp))), trivial⟩))
       ·refine awp_exit ?_
        refine hK20 _ ?_
        refine awpM_seq fun K69 hK69 => ?_
        refine awpM_seq fun K70 hK70 => ?_
        refine awpM_lift fun mk => ?_
        refine awp_region rfl ?_
        refine o_loadS (Nv (j + 1)) gn f11_ rfl rfl rfl ?_
        refine aops_end (hK70 _ ?_)
        refine awpM_lift fun mk => ?_
        refine awp_region rfl ?_
        refine o_alloc 1101 [Nv 0] gn f26_ rfl rfl rfl ?_
        refine o_store [(1101, .var 3 [Nv (j + 1)]), (2, oM 24 m), (20, .var 3 [Nv (j + 1)]), (50, .row 38 1 (gcells cP (cyU m j ++ (lpN m (j + 1)).take i)))] gn f43_ rfl rfl rfl rfl rfl rfl ?_
        refine aops_end (hK69 _ ?_)
        refine awpM_lift fun mk => ?_
        refine awp_region rfl ?_
        refine o_loadS (Nv (j + 1)) gn f11_ rfl rfl rfl ?_
        refine n_add (j + 1) 1 gn rfl rfl (by simp only [topOf]; omega) ?_
        refine o_store [(1101, .var 3 [Nv ((j + 1) + 1)]), (2, oM 24 m), (20, .var 3 [Nv (j + 1)]), (50, .row 38 1 (gcells cP (cyU m j ++ (lpN m (j + 1)).take i)))] gn f43_ rfl rfl rfl rfl rfl rfl ?_
        refine aops_end ?_
        refine ⟨_, _, ?lt, ⟨j + 1, (by omega), rfl, rfl⟩, ?wk⟩
        case lt => omega
        case wk => exact fun mk => Wk.trans (Wk.sub (σ' := ⟨[(1, Iv k), (2, .ref 2 0), (8, .row 50), (9, .ref 1101 0)], [(2, oM 24 m), (50, .row 38 1 (gcells cP (cyU m j ++ (lpN m (j + 1)).take i))), (1101, .var 3 [Nv ((j + 1) + 1)])]⟩) ⟨rfl, rfl, rfl, rfl, trivial⟩ ⟨rfl, rfl, rfl, trivial⟩) (Wk.trans (Wk.ren (id := 1101) (id' := 20) rfl) (Wk.sub ⟨rfl, rfl, rfl, (by first | rfl | simp), trivial⟩ ⟨rfl, (by first | rfl | (first | exact row_gs' (lsT_y (Decidable.not_not.1 (by assumption)) (cmpZ_eq0.1 (by assumption))) | exact row_gs' (lsT_n (fun e => absurd e.1 (by assumption))) | exact row_gs' (lsT_n (fun e => absurd (cmpZ_eq0.2 e.2) (by assumption))) | exact row_gs' (out_s (by omega) (by rw [loo_len hlo]; omega)) | exact row_gs' (by rw [List.take_of_length_le (by omega)]; rfl) | exact row_gs' (by simp))), (by first | rfl | exact row_ns (by simp) | (first | exact row_gs' (lsT_y (Decidable.not_not.1 (by assumption)) (cmpZ_eq0.1 (by assumption))) | exact row_gs' (lsT_n (fun e => absurd e.1 (by assumption))) | exact row_gs' (lsT_n (fun e => absurd (cmpZ_eq0.2 e.2) (by assumption))) | exact row_gs' (out_s (by omega) (by rw [loo_len hlo]; omega)) | exact row_gs' (by rw [List.take_of_length_le (by omega)]; rfl) | exact row_gs' (by simp))), trivial⟩))
     ·refine awp_exit ?_
      refine hK16 _ ?_
      refine awpM_seq fun K71 hK71 => ?_
      refine awpM_lift fun mk => ?_
      refine awp_region rfl (o_mv (.row 50) rfl (o_as (.row 50) rfl (o_as (Nv 0) rfl (aops_end (hK71 _ ?_)))))
      refine awpM_lift fun mk => ?_
      refine awp_wk (σ' := ⟨[(4, .row 50), (5, Nv 0)], [(50, .row 38 1 (gcells cP (cyU m j)))]⟩) (Wk.sub ⟨rfl, rfl, trivial⟩ ⟨rfl, trivial⟩) ?_
      refine awp_wk (σ' := ⟨[(4, .sl 1 (gcells cP (cyU m j))), (5, Nv 0)], []⟩) (Wk.freeze (id := 50) (e := 38) (sz := 1) (cs := (gcells cP (cyU m j))) rfl) ?_
      refine awp_ret ?_
      refine post_ret ⟨[.sl 1 (gcells cP (cyU m j)), Nv 0], ⟨AV.le_refl _, AV.le_refl _, trivial⟩, rfl, ?_⟩
      first | exact tup_eq2 (gs_as (lpL_no (by rw [chk_1 hm']; decide))) (congrArg (nm _) (chk_1 hm')) | exact tup_eq2 (gs_as (lpL_no (by rw [chk_2 hm' (fun e => absurd e.1 (by assumption))]; decide))) (congrArg (nm _) (chk_2 hm' (fun e => absurd e.1 (by assumption)))) | exact tup_eq2 (gs_as (lpL_no (by rw [chk_2 hm' (fun e => absurd e.2.1 (by omega))]; decide))) (congrArg (nm _) (chk_2 hm' (fun e => absurd e.2.1 (by omega)))) | exact tup_eq2 (gs_as (lpL_no (by rw [chk_2 hm' (may_big hM (i := i) (by omega) (by omega))]; decide))) (congrArg (nm _) (chk_2 hm' (may_big hM (i := i) (by omega) (by omega)))) | (have hjk : k.toNat = j := (by omega); exact tup_eq2 (gs_as ((lpL_ok (chk_0 hm' hmy)).trans (by rw [hjk]))) (congrArg (nm _) (chk_0 hm' hmy)))

end Go.Proofs.YtdmkejloknejdaaGreatDoor

namespace Go.Mth
open Go.Ab
theorem exW_free : freeM (kinM 3 1) := fun i hi => by
 have : i < 2 := hi
 have : i = 0 ∨ i = 1 := by omega
 rcases this with rfl | rfl <;> decide
theorem exW_ok : OkW (kinM 3 1) [1, 1, 0] := ⟨fun r hr => by
 simp only [List.mem_cons, List.not_mem_nil, or_false] at hr
 rcases hr with rfl | rfl | rfl <;> exact ⟨by decide, by decide⟩, by decide⟩
def exL : LineS := ⟨⟨#[57]⟩, ⟨#[53]⟩, ⟨#[56]⟩⟩
end Go.Mth

set_option maxRecDepth 1000000
namespace Go.Mth
open Go Go.Ab
def colM : MapM := kinM 3 1
theorem col_1 : lpN colM 1 = [[-1], [0]] := by decide +kernel
theorem col_2 : lpN colM 2 = [[1, 2]] := by decide +kernel
theorem col_3 : lpN colM 3 = [[-10, -5, -7]] := by decide +kernel
theorem col_a : ∀ k, k < 5 → lpN colM (k + 4) = [] := by decide +kernel
theorem col_9 : lpN colM 9 = [] := by decide +kernel
theorem col_10 : lpN colM 10 = [] := by decide +kernel
theorem hit_11 : (List.range 2048).filter (fun t => decide (hitW colM (wordT 2 11 t))) = [247] := by decide +kernel
theorem num_11 : (fixZ colM (wordT 2 11 247)).num = -136 := by decide +kernel
theorem orb_11 : orbL colM (-136) 11 = [-136, -68, -34, -17, -25, -37, -55, -82, -41, -61, -91] := by decide +kernel
theorem rot_11 : rotM [-136, -68, -34, -17, -25, -37, -55, -82, -41, -61, -91] = [-136, -68, -34, -17, -25, -37, -55, -82, -41, -61, -91] := by decide +kernel
theorem col_11 : lpN colM 11 = [[-136, -68, -34, -17, -25, -37, -55, -82, -41, -61, -91]] := by
 have h : lsT colM 11 2048 = [[-136, -68, -34, -17, -25, -37, -55, -82, -41, -61, -91]] := by
  unfold lsT
  rw [show colM.mod.toNat = 2 from rfl, hit_11]
  show [cyc colM (fixZ colM (wordT 2 11 247)).num 11] = _
  rw [num_11]
  unfold cyc
  rw [orb_11, rot_11]
 unfold lpN
 rw [show colM.mod.toNat ^ 11 = 2048 from rfl, h]
 rfl
def colL : List (List Int) := [[-1], [0], [1, 2], [-10, -5, -7], [-136, -68, -34, -17, -25, -37, -55, -82, -41, -61, -91]]
theorem colU : cyU colM 11 = colL := by
 have a := col_a
 show ((((((((((([] ++ lpN colM 1) ++ lpN colM 2) ++ lpN colM 3) ++ lpN colM 4) ++ lpN colM 5) ++ lpN colM 6) ++ lpN colM 7) ++ lpN colM 8) ++ lpN colM 9) ++ lpN colM 10) ++ lpN colM 11) = _
 rw [col_1, col_2, col_3, a 0 (by decide), a 1 (by decide), a 2 (by decide), a 3 (by decide), a 4 (by decide), col_9, col_10, col_11]
 rfl
theorem col_chk : chkE colM 11 = 0 := by
 have h : ∀ i, i < 2 → (kinM 3 1).mul.getD i 0 ≠ 0 := by decide
 exact chk_0 okM_ex ⟨exW_free, by decide, by decide⟩
theorem col_lp : lpL (kinM 3 1) 11 = colL := (lpL_ok col_chk).trans colU
theorem ex6_w1 : OkW (kinM 3 1) [1, 1, 0] := exW_ok
theorem ex6_w2 : OkW (kinM 3 1) [1, 0, 0] := ⟨fun r hr => by
 simp only [List.mem_cons, List.not_mem_nil, or_false] at hr
 rcases hr with rfl | rfl | rfl <;> exact ⟨by decide, by decide⟩, by decide⟩
theorem ex6_f1 : fxF (kinM 3 1) [1, 1, 0] = ⟨⟨#[45, 53]⟩, ⟨#[49]⟩⟩ ∧ cycE (kinM 3 1) [1, 1, 0] = 0 := by
 have h := cyc_0 okM_ex ⟨exW_free, ex6_w1, by decide⟩
 have e : fixZ (kinM 3 1) [1, 1, 0] = ⟨-5, 1⟩ := by rfl
 refine ⟨(if_pos h).trans ?_, h⟩
 rw [e]
 show Frc.mk (txt (-5)) (txt 1) = _
 congr 1 <;> simp [txt, txtL, decs, strN] <;> rfl
theorem ex6_f2 : fxF (kinM 3 1) [1, 0, 0] = ⟨⟨#[49]⟩, ⟨#[53]⟩⟩ ∧ cycE (kinM 3 1) [1, 0, 0] = 0 := by
 have h := cyc_0 okM_ex ⟨exW_free, ex6_w2, by decide⟩
 have e : fixZ (kinM 3 1) [1, 0, 0] = ⟨1, 5⟩ := by rfl
 refine ⟨(if_pos h).trans ?_, h⟩
 rw [e]
 show Frc.mk (txt 1) (txt 5) = _
 congr 1 <;> simp [txt, txtL, decs, strN] <;> rfl
theorem txm1 : txt (-1) = ⟨#[45, 49]⟩ := by simp [txt, txtL, decs, strN]; rfl
theorem tx0 : txt 0 = ⟨#[48]⟩ := by simp [txt, txtL, decs, strN]; rfl
theorem tx1 : txt 1 = ⟨#[49]⟩ := by simp [txt, txtL, decs, strN]; rfl
theorem tx2 : txt 2 = ⟨#[50]⟩ := by simp [txt, txtL, decs, strN]; rfl
theorem txm10 : txt (-10) = ⟨#[45, 49, 48]⟩ := by simp [txt, txtL, decs, strN]; rfl
theorem txm5 : txt (-5) = ⟨#[45, 53]⟩ := by simp [txt, txtL, decs, strN]; rfl
theorem txm7 : txt (-7) = ⟨#[45, 55]⟩ := by simp [txt, txtL, decs, strN]; rfl
theorem txm136 : txt (-136) = ⟨#[45, 49, 51, 54]⟩ := by simp [txt, txtL, decs, strN]; rfl
theorem ex6_s1 : (colL.getD 0 default).map txt = [⟨#[45, 49]⟩] := by show [txt (-1)] = _; rw [txm1]
theorem ex6_s2 : (colL.getD 1 default).map txt = [⟨#[48]⟩] := by show [txt 0] = _; rw [tx0]
theorem ex6_s3 : (colL.getD 2 default).map txt = [⟨#[49]⟩, ⟨#[50]⟩] := by show [txt 1, txt 2] = _; rw [tx1, tx2]
theorem ex6_s4 : (colL.getD 3 default).map txt = [⟨#[45, 49, 48]⟩, ⟨#[45, 53]⟩, ⟨#[45, 55]⟩] := by show [txt (-10), txt (-5), txt (-7)] = _; rw [txm10, txm5, txm7]
theorem ex6_s5 : ((colL.getD 4 default).map txt).getD 0 { data := #[] } = ⟨#[45, 49, 51, 54]⟩ := txm136
end Go.Mth

namespace Go.Proofs.YtdmkejloknejdaaGreatDoor
open Go Go.Ab Go.Mth
theorem f157_ : cx.P.underlying 36 = some (.slice 9) := by kernel_rfl
theorem f158_ : tySc cx.P 9 = true := by kernel_rfl
theorem f159_ : callable cx.P 44 = true := by kernel_rfl
theorem f160_ : callable cx.P 19 = true := by kernel_rfl
theorem f161_ : callable cx.P 10 = true := by kernel_rfl
theorem f162_ : cx.P.underlying 26 = some (.slice 38) := by kernel_rfl
theorem f163_ : tyField cx.P 38 0 = some (0, 36) := by kernel_rfl
theorem f164_ : tySc cx.P 36 = true := by kernel_rfl
theorem f165_ : callable cx.P 56 = true := by kernel_rfl
theorem c_l6Same (x y : List ByteArray) : ECalls cx 56 [.sl 1 (sbs x), .sl 1 (sbs y)] (bp (x = y)) := by
 refine ecalls_of_awp Tryz.func56 (c := _) rfl (Nat.le_of_ble_eq_true rfl) ?_
 show awp cx 26 _ (postF cx Tryz.f56 _) ⟨[(0, .sl 1 (sbs x)), (1, .sl 1 (sbs y))], []⟩
 refine awp_bound (i := 0) rfl fun hb => ?_
 replace hb := sbs_bnd hb
 refine awp_bound (i := 1) rfl fun hb2 => ?_
 replace hb2 := sbs_bnd hb2
 refine awp_seq fun K0 hK0 => awp_region rfl (o_as Fv rfl (aops_end (hK0 _ (awp_seq fun K1 hK1 => awp_seq fun K2 hK2 => awp_region rfl (o_mv (.sl 1 (sbs x)) rfl ?_)))))
 refine s_len x gn f157_ rfl ?_
 refine o_mv (.sl 1 (sbs y)) rfl ?_
 refine s_len y gn f157_ rfl ?_
 refine n_neq (x.length) (y.length) gn rfl rfl ?_
 refine aops_end (hK2 _ ?_)
 refine awp_condQ (q := (x.length) ≠ (y.length)) rfl (fun h1 => ?_) (fun h1 => ?_)
 ·refine awp_seq fun K3 hK3 => awp_region rfl (o_as Fv rfl (aops_end (hK3 _ ?_)))
  refine awp_ret ?_
  refine post_ret ⟨[Fv], ⟨AV.le_refl _, trivial⟩, rfl, ?_⟩
  exact (bl_bp (b := false) (by constructor <;> intro h <;> first | (exfalso; subst h; exact h1 rfl) | cases h)).symm
 ·refine awp_skip (hK1 _ (awp_seq fun K4 hK4 => awp_seq fun K5 hK5 => awp_region rfl (o_as (Nv 0) rfl (aops_end (hK5 _ ?_)))))
  refine awp_block ?_
  refine awp_loopR (fun κ σ => ∃ (i : Nat), (i ≤ x.length) ∧ (∀ k, k < i → x.getD k { data := #[] } = y.getD k { data := #[] }) ∧ (x.length - i) = κ ∧ σ = ⟨[(0, .sl 1 (sbs x)), (1, .sl 1 (sbs y)), (5, Nv i)], []⟩) ⟨_, _, ⟨0, (by omega), (fun k hk => by omega), rfl, rfl⟩, ?wk0⟩ ?rd0
  case wk0 =>
   exact Wk.sub ⟨rfl, rfl, (by first | rfl | exact nm_int (by omega)), trivial⟩ trivial
  rintro κ _ ⟨i, hi, hv, rfl, rfl⟩
  refine awp_seq fun K6 hK6 => awp_seq fun K7 hK7 => awp_region rfl (o_mv (Nv i) rfl (o_mv (.sl 1 (sbs x)) rfl ?_))
  refine s_len x gn f157_ rfl ?_
  refine n_lss i (x.length) gn rfl rfl ?_
  refine aops_end (hK7 _ ?_)
  refine awp_condQ (q := i < (x.length)) rfl (fun h2 => ?_) (fun h2 => ?_)
  ·refine awp_skip (hK6 _ (awp_seq fun K8 hK8 => ?_))
   refine awp_block ?_
   refine awp_seq fun K9 hK9 => awp_regionD rfl (o_mv (.sl 1 (sbs x)) rfl (o_mv (Nv i) rfl ?_))
   refine s_index x i gn f152_ rfl rfl (by omega) ?_
   refine s_loadI x i gn f158_ rfl (by omega) ?_
   refine o_mv (.sl 1 (sbs y)) rfl (o_mv (Nv i) rfl ?_)
   refine s_index y i gn f152_ rfl rfl (by omega) ?_
   refine s_loadI y i gn f158_ rfl (by omega) ?_
   refine o_neqS (a := (x.getD i { data := #[] })) (c := (y.getD i { data := #[] })) gn rfl rfl ?_
   refine aops_end ⟨by kernel_rfl, ?_⟩
   refine hK9 _ ?_
   refine awp_condQ (q := (x.getD i { data := #[] }).toList ≠ (y.getD i { data := #[] }).toList) rfl (fun h3 => ?_) (fun h3 => ?_)
   ·refine awp_seq fun K10 hK10 => awp_region rfl (o_as Fv rfl (aops_end (hK10 _ ?_)))
    refine awp_ret ?_
    refine post_ret ⟨[Fv], ⟨AV.le_refl _, trivial⟩, rfl, ?_⟩
    exact (bl_bp (b := false) (by constructor <;> intro h <;> first | (exfalso; subst h; exact h3 rfl) | cases h)).symm
   ·refine awp_skip (hK8 _ (awp_region rfl (o_mv (Nv i) rfl ?_)))
    refine n_add i 1 gn rfl rfl (by simp only [topOf]; omega) ?_
    refine o_as (Nv (i + 1)) rfl (aops_end ?_)
    refine ⟨_, _, ?lt, ⟨i + 1, (by omega), (fun k hk => by by_cases e : k = i; subst e; exact str_eq.1 (Decidable.not_not.1 h3); exact hv k (by omega)), rfl, rfl⟩, ?wk⟩
    case lt => omega
    case wk => exact Wk.sub ⟨rfl, rfl, (by first | rfl | exact nm_int (by omega)), trivial⟩ trivial
  ·refine awp_exit ?_
   refine hK4 _ (awp_seq fun K11 hK11 => awp_region rfl (o_as Tv rfl (aops_end (hK11 _ ?_))))
   refine awp_ret ?_
   refine post_ret ⟨[Tv], ⟨AV.le_refl _, trivial⟩, rfl, ?_⟩
   exact (bl_bp (b := true) ⟨fun _ => list_extS (by omega) (fun k hk => hv k (by omega)), fun _ => rfl⟩).symm

theorem c_awake6  : ECalls cx 13 [] (.lit (.bool true)) := by
 refine ecalls_of_awp Tryz.func13 (c := _) rfl (Nat.le_of_ble_eq_true rfl) ?_
 show awp cx 100 _ (postF cx Tryz.f13 _) ⟨[], []⟩
 refine awp_seq fun K0 hK0 => awp_region rfl (o_as Fv rfl (aops_end (hK0 _ (awp_seq fun K1 hK1 => awp_region rfl ?_))))
 refine o_ct c_gCollatz gn f159_ rfl ?_
 refine o_alloc 2 [Nv 0, Zv, Zv] gn f67_ rfl rfl rfl ?_
 refine o_store [(2, oM 24 (kinM 3 1))] gn f69_ rfl rfl rfl rfl rfl rfl ?_
 refine aops_end (hK1 _ (awp_seq fun K2 hK2 => awp_region rfl ?_))
 refine o_loadA [Iv ((kinM 3 1).mod), Lv ((kinM 3 1).mul), Lv ((kinM 3 1).add)] gn f63_ rfl rfl rfl rfl rfl ?_
 refine o_buildSlice 3 (ns .i64 ([1, 1, 0])) [(0, [Nv 1]), (1, [Nv 1]), (2, [Nv 0])] gn f10_ rfl f26_ rfl rfl rfl rfl rfl rfl rfl ?_
 refine o_callG [(3, 1, ns .i64 ([1, 1, 0]))] [mapV (kinM 3 1), .sl 1 (ns .i64 ([1, 1, 0]))] _ (.tup [(.agg [(Sv ({data := #[45, 53]} : ByteArray)), (Sv ({data := #[49]} : ByteArray))]), Nv 0]) [(2, oM 24 (kinM 3 1))] gn f160_ rfl ⟨⟨_, rfl⟩, trivial⟩ rfl rfl (LeL.cons (AV.le_refl _) (LeL.cons (AV.le_refl _) LeL.nil)) (by have h := c_yFixed (kinM 3 1) [1, 1, 0] (by decide); rw [ex6_f1.1, ex6_f1.2] at h; exact h) rfl ?_
 refine o_mv (.tup [(.agg [(Sv ({data := #[45, 53]} : ByteArray)), (Sv ({data := #[49]} : ByteArray))]), Nv 0]) rfl (o_extract (.agg [(Sv ({data := #[45, 53]} : ByteArray)), (Sv ({data := #[49]} : ByteArray))]) gn rfl rfl (o_extract (Nv 0) gn rfl rfl ?_))
 refine o_alloc 4 [Sv Ev, Sv Ev] gn f91_ rfl rfl rfl ?_
 refine o_store [(4, (.var 45 [(Sv ({data := #[45, 53]} : ByteArray)), (Sv ({data := #[49]} : ByteArray))])), (2, oM 24 (kinM 3 1))] gn f96_ rfl rfl rfl rfl rfl rfl ?_
 refine o_as (Nv 0) rfl (aops_end (hK2 _ (awp_seq fun K3 hK3 => awp_region rfl ?_)))
 refine o_loadA [Iv ((kinM 3 1).mod), Lv ((kinM 3 1).mul), Lv ((kinM 3 1).add)] gn f63_ rfl rfl rfl rfl rfl ?_
 refine o_buildSlice 5 (ns .i64 ([1, 0, 0])) [(0, [Nv 1]), (1, [Nv 0]), (2, [Nv 0])] gn f10_ rfl f26_ rfl rfl rfl rfl rfl rfl rfl ?_
 refine o_callG [(5, 1, ns .i64 ([1, 0, 0]))] [mapV (kinM 3 1), .sl 1 (ns .i64 ([1, 0, 0]))] _ (.tup [(.agg [(Sv ({data := #[49]} : ByteArray)), (Sv ({data := #[53]} : ByteArray))]), Nv 0]) [(4, (.var 45 [(Sv ({data := #[45, 53]} : ByteArray)), (Sv ({data := #[49]} : ByteArray))])), (2, oM 24 (kinM 3 1))] gn f160_ rfl ⟨⟨_, rfl⟩, trivial⟩ rfl rfl (LeL.cons (AV.le_refl _) (LeL.cons (AV.le_refl _) LeL.nil)) (by have h := c_yFixed (kinM 3 1) [1, 0, 0] (by decide); rw [ex6_f2.1, ex6_f2.2] at h; exact h) rfl ?_
 refine o_mv (.tup [(.agg [(Sv ({data := #[49]} : ByteArray)), (Sv ({data := #[53]} : ByteArray))]), Nv 0]) rfl (o_extract (.agg [(Sv ({data := #[49]} : ByteArray)), (Sv ({data := #[53]} : ByteArray))]) gn rfl rfl (o_extract (Nv 0) gn rfl rfl ?_))
 refine o_alloc 6 [Sv Ev, Sv Ev] gn f91_ rfl rfl rfl ?_
 refine o_store [(6, (.var 45 [(Sv ({data := #[49]} : ByteArray)), (Sv ({data := #[53]} : ByteArray))])), (4, (.var 45 [(Sv ({data := #[45, 53]} : ByteArray)), (Sv ({data := #[49]} : ByteArray))])), (2, oM 24 (kinM 3 1))] gn f96_ rfl rfl rfl rfl rfl rfl ?_
 refine o_as (Nv 0) rfl (aops_end (hK3 _ (awp_seq fun K4 hK4 => awp_region rfl ?_)))
 refine o_loadA [Iv ((kinM 3 1).mod), Lv ((kinM 3 1).mul), Lv ((kinM 3 1).add)] gn f63_ rfl rfl rfl rfl rfl ?_
 refine o_call [mapV (kinM 3 1), Nv 11] (.tup [.sl 1 (gcells cP colL), Nv 0]) gn f161_ rfl (by have h := c_Loops (kinM 3 1) 11 (by decide); rw [show lpL (kinM 3 1) 11 = colL from col_lp, show chkE (kinM 3 1) 11 = 0 from col_chk] at h; exact h) ?_
 refine o_mv (.tup [.sl 1 (gcells cP colL), Nv 0]) rfl (o_extract (.sl 1 (gcells cP colL)) gn rfl rfl (o_extract (Nv 0) gn rfl rfl (o_as (.sl 1 (gcells cP colL)) rfl (o_as (Nv 0) rfl (aops_end (hK4 _ (awp_seq fun K5 hK5 => awp_region rfl (o_mv (Nv 0) rfl ?_))))))))
 refine n_eql 0 0 gn rfl rfl ?_
 refine o_mv (bp (0 = 0)) rfl ?_
 refine n_as (v' := Tv) (by exact bpy (by first | rfl | decide | exact ex6_s1 | exact ex6_s2 | exact ex6_s3 | exact ex6_s4 | exact ex6_s5)) ?_
 refine o_loadA [(Sv ({data := #[45, 53]} : ByteArray)), (Sv ({data := #[49]} : ByteArray))] (Gd.yes rfl rfl rfl) f97_ rfl rfl rfl rfl rfl ?_
 refine o_build [(Sv ({data := #[45, 53]} : ByteArray)), (Sv ({data := #[49]} : ByteArray))] [(0, [(Sv ({data := #[45, 53]} : ByteArray))]), (1, [(Sv ({data := #[49]} : ByteArray))])] (Gd.yes rfl rfl rfl) f95_ f91_ rfl rfl rfl ?_
 refine o_eqlA [.string ({data := #[45, 53]} : ByteArray), .string ({data := #[49]} : ByteArray)] [.string ({data := #[45, 53]} : ByteArray), .string ({data := #[49]} : ByteArray)] (({data := #[45, 53]} : ByteArray) = ({data := #[45, 53]} : ByteArray) ∧ ({data := #[49]} : ByteArray) = ({data := #[49]} : ByteArray)) (Gd.yes rfl rfl rfl) rfl rfl (eq_api_Frac _ _ _ _) ?_
 refine o_pickT (bp (({data := #[45, 53]} : ByteArray) = ({data := #[45, 53]} : ByteArray) ∧ ({data := #[49]} : ByteArray) = ({data := #[49]} : ByteArray))) gn rfl rfl rfl ?_
 refine o_mv (bp (({data := #[45, 53]} : ByteArray) = ({data := #[45, 53]} : ByteArray) ∧ ({data := #[49]} : ByteArray) = ({data := #[49]} : ByteArray))) rfl ?_
 refine n_as (v' := Tv) (by exact bpy (by first | rfl | decide | exact ex6_s1 | exact ex6_s2 | exact ex6_s3 | exact ex6_s4 | exact ex6_s5)) ?_
 refine o_move (Nv 0) (Gd.yes rfl rfl rfl) rfl ?_
 refine n_eql 0 0 (Gd.yes rfl rfl rfl) rfl rfl ?_
 refine o_pickT (bp (0 = 0)) gn rfl rfl rfl ?_
 refine o_mv (bp (0 = 0)) rfl ?_
 refine n_as (v' := Tv) (by exact bpy (by first | rfl | decide | exact ex6_s1 | exact ex6_s2 | exact ex6_s3 | exact ex6_s4 | exact ex6_s5)) ?_
 refine o_loadA [(Sv ({data := #[49]} : ByteArray)), (Sv ({data := #[53]} : ByteArray))] (Gd.yes rfl rfl rfl) f97_ rfl rfl rfl rfl rfl ?_
 refine o_build [(Sv ({data := #[49]} : ByteArray)), (Sv ({data := #[53]} : ByteArray))] [(0, [(Sv ({data := #[49]} : ByteArray))]), (1, [(Sv ({data := #[53]} : ByteArray))])] (Gd.yes rfl rfl rfl) f95_ f91_ rfl rfl rfl ?_
 refine o_eqlA [.string ({data := #[49]} : ByteArray), .string ({data := #[53]} : ByteArray)] [.string ({data := #[49]} : ByteArray), .string ({data := #[53]} : ByteArray)] (({data := #[49]} : ByteArray) = ({data := #[49]} : ByteArray) ∧ ({data := #[53]} : ByteArray) = ({data := #[53]} : ByteArray)) (Gd.yes rfl rfl rfl) rfl rfl (eq_api_Frac _ _ _ _) ?_
 refine o_pickT (bp (({data := #[49]} : ByteArray) = ({data := #[49]} : ByteArray) ∧ ({data := #[53]} : ByteArray) = ({data := #[53]} : ByteArray))) gn rfl rfl rfl ?_
 refine o_mv (bp (({data := #[49]} : ByteArray) = ({data := #[49]} : ByteArray) ∧ ({data := #[53]} : ByteArray) = ({data := #[53]} : ByteArray))) rfl ?_
 refine n_as (v' := Tv) (by exact bpy (by first | rfl | decide | exact ex6_s1 | exact ex6_s2 | exact ex6_s3 | exact ex6_s4 | exact ex6_s5)) ?_
 refine o_move (Nv 0) (Gd.yes rfl rfl rfl) rfl ?_
 refine n_eql 0 0 (Gd.yes rfl rfl rfl) rfl rfl ?_
 refine o_pickT (bp (0 = 0)) gn rfl rfl rfl ?_
 refine o_mv (bp (0 = 0)) rfl ?_
 refine n_as (v' := Tv) (by exact bpy (by first | rfl | decide | exact ex6_s1 | exact ex6_s2 | exact ex6_s3 | exact ex6_s4 | exact ex6_s5)) ?_
 refine o_move (.sl 1 (gcells cP colL)) (Gd.yes rfl rfl rfl) rfl ?_
 refine g_len cP colL cP_len (Gd.yes rfl rfl rfl) f162_ rfl ?_
 refine n_eql (colL.length) 5 (Gd.yes rfl rfl rfl) rfl rfl ?_
 refine o_pickT (bp ((colL.length) = 5)) gn rfl rfl rfl ?_
 refine o_mv (bp ((colL.length) = 5)) rfl ?_
 refine n_as (v' := Tv) (by exact bpy (by first | rfl | decide | exact ex6_s1 | exact ex6_s2 | exact ex6_s3 | exact ex6_s4 | exact ex6_s5)) ?_
 refine o_move (.sl 1 (gcells cP colL)) (Gd.yes rfl rfl rfl) rfl ?_
 refine g_index cP colL 0 cP_len rfl (Gd.yes rfl rfl rfl) f156_ rfl rfl (by decide) ?_
 refine g_field cP colL 0 cP_len (Gd.yes rfl rfl rfl) f163_ rfl (by decide) rfl ?_
 refine g_loadS cP colL 0 default (.sl 1 (sbs ((colL.getD 0 default).map txt))) cP_len (Gd.yes rfl rfl rfl) f164_ rfl (by decide) rfl ?_
 refine o_buildSlice 7 (sbs ([({data := #[45, 49]} : ByteArray)])) [(0, [(Sv ({data := #[45, 49]} : ByteArray))])] (Gd.yes rfl rfl rfl) f152_ rfl f153_ rfl rfl rfl rfl rfl rfl rfl ?_
 refine o_callG [(7, 1, (sbs ([({data := #[45, 49]} : ByteArray)])))] [.sl 1 (sbs ((colL.getD 0 default).map txt)), (.sl 1 (sbs ([({data := #[45, 49]} : ByteArray)])))] _ (bp ((colL.getD 0 default).map txt = [({data := #[45, 49]} : ByteArray)])) [(6, (.var 45 [(Sv ({data := #[49]} : ByteArray)), (Sv ({data := #[53]} : ByteArray))])), (4, (.var 45 [(Sv ({data := #[45, 53]} : ByteArray)), (Sv ({data := #[49]} : ByteArray))])), (2, oM 24 (kinM 3 1))] (Gd.yes rfl rfl rfl) f165_ rfl ⟨⟨_, rfl⟩, trivial⟩ rfl rfl (LeL.cons (AV.le_refl _) (LeL.cons (AV.le_refl _) LeL.nil)) (c_l6Same ((colL.getD 0 default).map txt) ([({data := #[45, 49]} : ByteArray)])) rfl ?_
 refine o_pickT (bp ((colL.getD 0 default).map txt = [({data := #[45, 49]} : ByteArray)])) gn rfl rfl rfl ?_
 refine o_mv (bp ((colL.getD 0 default).map txt = [({data := #[45, 49]} : ByteArray)])) rfl ?_
 refine n_as (v' := Tv) (by exact bpy (by first | rfl | decide | exact ex6_s1 | exact ex6_s2 | exact ex6_s3 | exact ex6_s4 | exact ex6_s5)) ?_
 refine o_move (.sl 1 (gcells cP colL)) (Gd.yes rfl rfl rfl) rfl ?_
 refine g_index cP colL 1 cP_len rfl (Gd.yes rfl rfl rfl) f156_ rfl rfl (by decide) ?_
 refine g_field cP colL 1 cP_len (Gd.yes rfl rfl rfl) f163_ rfl (by decide) rfl ?_
 refine g_loadS cP colL 1 default (.sl 1 (sbs ((colL.getD 1 default).map txt))) cP_len (Gd.yes rfl rfl rfl) f164_ rfl (by decide) rfl ?_
 refine o_buildSlice 8 (sbs ([({data := #[48]} : ByteArray)])) [(0, [(Sv ({data := #[48]} : ByteArray))])] (Gd.yes rfl rfl rfl) f152_ rfl f153_ rfl rfl rfl rfl rfl rfl rfl ?_
 refine o_callG [(8, 1, (sbs ([({data := #[48]} : ByteArray)])))] [.sl 1 (sbs ((colL.getD 1 default).map txt)), (.sl 1 (sbs ([({data := #[48]} : ByteArray)])))] _ (bp ((colL.getD 1 default).map txt = [({data := #[48]} : ByteArray)])) [(6, (.var 45 [(Sv ({data := #[49]} : ByteArray)), (Sv ({data := #[53]} : ByteArray))])), (4, (.var 45 [(Sv ({data := #[45, 53]} : ByteArray)), (Sv ({data := #[49]} : ByteArray))])), (2, oM 24 (kinM 3 1))] (Gd.yes rfl rfl rfl) f165_ rfl ⟨⟨_, rfl⟩, trivial⟩ rfl rfl (LeL.cons (AV.le_refl _) (LeL.cons (AV.le_refl _) LeL.nil)) (c_l6Same ((colL.getD 1 default).map txt) ([({data := #[48]} : ByteArray)])) rfl ?_
 refine o_pickT (bp ((colL.getD 1 default).map txt = [({data := #[48]} : ByteArray)])) gn rfl rfl rfl ?_
 refine o_mv (bp ((colL.getD 1 default).map txt = [({data := #[48]} : ByteArray)])) rfl ?_
 refine n_as (v' := Tv) (by exact bpy (by first | rfl | decide | exact ex6_s1 | exact ex6_s2 | exact ex6_s3 | exact ex6_s4 | exact ex6_s5)) ?_
 refine o_move (.sl 1 (gcells cP colL)) (Gd.yes rfl rfl rfl) rfl ?_
 refine g_index cP colL 2 cP_len rfl (Gd.yes rfl rfl rfl) f156_ rfl rfl (by decide) ?_
 refine g_field cP colL 2 cP_len (Gd.yes rfl rfl rfl) f163_ rfl (by decide) rfl ?_
 refine g_loadS cP colL 2 default (.sl 1 (sbs ((colL.getD 2 default).map txt))) cP_len (Gd.yes rfl rfl rfl) f164_ rfl (by decide) rfl ?_
 refine o_buildSlice 9 (sbs ([({data := #[49]} : ByteArray), ({data := #[50]} : ByteArray)])) [(0, [(Sv ({data := #[49]} : ByteArray))]), (1, [(Sv ({data := #[50]} : ByteArray))])] (Gd.yes rfl rfl rfl) f152_ rfl f153_ rfl rfl rfl rfl rfl rfl rfl ?_
 refine o_callG [(9, 1, (sbs ([({data := #[49]} : ByteArray), ({data := #[50]} : ByteArray)])))] [.sl 1 (sbs ((colL.getD 2 default).map txt)), (.sl 1 (sbs ([({data := #[49]} : ByteArray), ({data := #[50]} : ByteArray)])))] _ (bp ((colL.getD 2 default).map txt = [({data := #[49]} : ByteArray), ({data := #[50]} : ByteArray)])) [(6, (.var 45 [(Sv ({data := #[49]} : ByteArray)), (Sv ({data := #[53]} : ByteArray))])), (4, (.var 45 [(Sv ({data := #[45, 53]} : ByteArray)), (Sv ({data := #[49]} : ByteArray))])), (2, oM 24 (kinM 3 1))] (Gd.yes rfl rfl rfl) f165_ rfl ⟨⟨_, rfl⟩, trivial⟩ rfl rfl (LeL.cons (AV.le_refl _) (LeL.cons (AV.le_refl _) LeL.nil)) (c_l6Same ((colL.getD 2 default).map txt) ([({data := #[49]} : ByteArray), ({data := #[50]} : ByteArray)])) rfl ?_
 refine o_pickT (bp ((colL.getD 2 default).map txt = [({data := #[49]} : ByteArray), ({data := #[50]} : ByteArray)])) gn rfl rfl rfl ?_
 refine o_mv (bp ((colL.getD 2 default).map txt = [({data := #[49]} : ByteArray), ({data := #[50]} : ByteArray)])) rfl ?_
 refine n_as (v' := Tv) (by exact bpy (by first | rfl | decide | exact ex6_s1 | exact ex6_s2 | exact ex6_s3 | exact ex6_s4 | exact ex6_s5)) ?_
 refine o_move (.sl 1 (gcells cP colL)) (Gd.yes rfl rfl rfl) rfl ?_
 refine g_index cP colL 3 cP_len rfl (Gd.yes rfl rfl rfl) f156_ rfl rfl (by decide) ?_
 refine g_field cP colL 3 cP_len (Gd.yes rfl rfl rfl) f163_ rfl (by decide) rfl ?_
 refine g_loadS cP colL 3 default (.sl 1 (sbs ((colL.getD 3 default).map txt))) cP_len (Gd.yes rfl rfl rfl) f164_ rfl (by decide) rfl ?_
 refine o_buildSlice 10 (sbs ([({data := #[45, 49, 48]} : ByteArray), ({data := #[45, 53]} : ByteArray), ({data := #[45, 55]} : ByteArray)])) [(0, [(Sv ({data := #[45, 49, 48]} : ByteArray))]), (1, [(Sv ({data := #[45, 53]} : ByteArray))]), (2, [(Sv ({data := #[45, 55]} : ByteArray))])] (Gd.yes rfl rfl rfl) f152_ rfl f153_ rfl rfl rfl rfl rfl rfl rfl ?_
 refine o_callG [(10, 1, (sbs ([({data := #[45, 49, 48]} : ByteArray), ({data := #[45, 53]} : ByteArray), ({data := #[45, 55]} : ByteArray)])))] [.sl 1 (sbs ((colL.getD 3 default).map txt)), (.sl 1 (sbs ([({data := #[45, 49, 48]} : ByteArray), ({data := #[45, 53]} : ByteArray), ({data := #[45, 55]} : ByteArray)])))] _ (bp ((colL.getD 3 default).map txt = [({data := #[45, 49, 48]} : ByteArray), ({data := #[45, 53]} : ByteArray), ({data := #[45, 55]} : ByteArray)])) [(6, (.var 45 [(Sv ({data := #[49]} : ByteArray)), (Sv ({data := #[53]} : ByteArray))])), (4, (.var 45 [(Sv ({data := #[45, 53]} : ByteArray)), (Sv ({data := #[49]} : ByteArray))])), (2, oM 24 (kinM 3 1))] (Gd.yes rfl rfl rfl) f165_ rfl ⟨⟨_, rfl⟩, trivial⟩ rfl rfl (LeL.cons (AV.le_refl _) (LeL.cons (AV.le_refl _) LeL.nil)) (c_l6Same ((colL.getD 3 default).map txt) ([({data := #[45, 49, 48]} : ByteArray), ({data := #[45, 53]} : ByteArray), ({data := #[45, 55]} : ByteArray)])) rfl ?_
 refine o_pickT (bp ((colL.getD 3 default).map txt = [({data := #[45, 49, 48]} : ByteArray), ({data := #[45, 53]} : ByteArray), ({data := #[45, 55]} : ByteArray)])) gn rfl rfl rfl ?_
 refine o_mv (bp ((colL.getD 3 default).map txt = [({data := #[45, 49, 48]} : ByteArray), ({data := #[45, 53]} : ByteArray), ({data := #[45, 55]} : ByteArray)])) rfl ?_
 refine n_as (v' := Tv) (by exact bpy (by first | rfl | decide | exact ex6_s1 | exact ex6_s2 | exact ex6_s3 | exact ex6_s4 | exact ex6_s5)) ?_
 refine o_move (.sl 1 (gcells cP colL)) (Gd.yes rfl rfl rfl) rfl ?_
 refine g_index cP colL 4 cP_len rfl (Gd.yes rfl rfl rfl) f156_ rfl rfl (by decide) ?_
 refine g_field cP colL 4 cP_len (Gd.yes rfl rfl rfl) f163_ rfl (by decide) rfl ?_
 refine g_loadS cP colL 4 default (.sl 1 (sbs ((colL.getD 4 default).map txt))) cP_len (Gd.yes rfl rfl rfl) f164_ rfl (by decide) rfl ?_
 refine s_len ((colL.getD 4 default).map txt) (Gd.yes rfl rfl rfl) f157_ rfl ?_
 refine n_eql (((colL.getD 4 default).map txt).length) 11 (Gd.yes rfl rfl rfl) rfl rfl ?_
 refine o_pickT (bp ((((colL.getD 4 default).map txt).length) = 11)) gn rfl rfl rfl ?_
 refine o_mv (bp ((((colL.getD 4 default).map txt).length) = 11)) rfl ?_
 refine n_as (v' := Tv) (by exact bpy (by first | rfl | decide | exact ex6_s1 | exact ex6_s2 | exact ex6_s3 | exact ex6_s4 | exact ex6_s5)) ?_
 refine o_move (.sl 1 (gcells cP colL)) (Gd.yes rfl rfl rfl) rfl ?_
 refine g_index cP colL 4 cP_len rfl (Gd.yes rfl rfl rfl) f156_ rfl rfl (by decide) ?_
 refine g_field cP colL 4 cP_len (Gd.yes rfl rfl rfl) f163_ rfl (by decide) rfl ?_
 refine g_loadS cP colL 4 default (.sl 1 (sbs ((colL.getD 4 default).map txt))) cP_len (Gd.yes rfl rfl rfl) f164_ rfl (by decide) rfl ?_
 refine s_index ((colL.getD 4 default).map txt) 0 (Gd.yes rfl rfl rfl) f152_ rfl rfl (by decide) ?_
 refine s_loadI ((colL.getD 4 default).map txt) 0 (Gd.yes rfl rfl rfl) f158_ rfl (by decide) ?_
 refine o_eqlS (a := (((colL.getD 4 default).map txt).getD 0 { data := #[] })) (c := ({data := #[45, 49, 51, 54]} : ByteArray)) (Gd.yes rfl rfl rfl) rfl rfl ?_
 refine o_pickT (bp ((((colL.getD 4 default).map txt).getD 0 { data := #[] }).toList = ({data := #[45, 49, 51, 54]} : ByteArray).toList)) gn rfl rfl rfl ?_
 refine o_as (bp ((((colL.getD 4 default).map txt).getD 0 { data := #[] }).toList = ({data := #[45, 49, 51, 54]} : ByteArray).toList)) rfl (aops_end (hK5 _ ?_))
 refine awp_ret ?_
 refine post_ret ⟨[(bp ((((colL.getD 4 default).map txt).getD 0 { data := #[] }).toList = ({data := #[45, 49, 51, 54]} : ByteArray).toList))], ⟨AV.le_refl _, trivial⟩, rfl, ?_⟩
 exact (bpy (by rw [ex6_s5])).symm

end Go.Proofs.YtdmkejloknejdaaGreatDoor

namespace Go.Proofs.YtdmkejloknejdaaGreatDoor
open Go Go.Ab Go.Mth Go.ChangeShapes Go.WideShapes Go.ChangeAt Go.RowKit
end Go.Proofs.YtdmkejloknejdaaGreatDoor

namespace Go.Proofs.YtdmkejloknejdaaGreatDoor
open Go Go.Ab Go.Mth
theorem f166_ : callable cx.P 9 = true := by kernel_rfl
theorem f167_ : callable cx.P 11 = true := by kernel_rfl
theorem f168_ : callable cx.P 12 = true := by kernel_rfl
theorem f169_ : callable cx.P 13 = true := by kernel_rfl
theorem f170_ : callable cx.P 14 = true := by kernel_rfl
theorem f171_ : callable cx.P 15 = true := by kernel_rfl
theorem f172_ : callable cx.P 16 = true := by kernel_rfl
theorem f173_ : callable cx.P 17 = true := by kernel_rfl
theorem c_vRests (m : MapM) (k : Int) (hM : OkM m) (hkb : k ≤ 9223372036854775807) : ECalls cx 15 [mapV m, Iv k] (.lit (.int .i64 (rstN m k))) := by
 refine ecalls_of_awp Tryz.func15 (c := _) rfl (Nat.le_of_ble_eq_true rfl) ?_
 show awp cx 21 _ (postF cx Tryz.f15 _) ⟨[(0, mapV m), (1, Iv k)], []⟩
 have hM2 := hM
 obtain ⟨o1, o2, o3, o4, o5⟩ := hM2
 refine awp_seq fun K0 hK0 => awp_region rfl ?_
 refine o_box 2 [Iv m.mod, Lv m.mul, Lv m.add] gn rfl rfl ?_
 refine o_as (Nv 0) rfl (aops_end (hK0 _ (awp_seq fun K1 hK1 => awp_region rfl (o_as (Nv 1) rfl ?_))))
 refine n_as (v' := (Iv (m.mod ^ 0))) (by exact congrArg (fun z => AV.lit (.int .i64 z)) (Int.pow_zero _).symm) ?_
 refine aops_end (hK1 _ (awp_seq fun K2 hK2 => awp_seq fun K3 hK3 => awp_region rfl (o_as (Nv 0) rfl (aops_end (hK3 _ ?_)))))
 refine awp_block ?_
 refine awp_loopR (fun κ σ => ∃ (i : Nat), (((i : Nat) : Int) ≤ k ∨ i = 0) ∧ (m.mod ^ i ≤ 65536) ∧ ((k - ((i : Nat) : Int)).toNat) = κ ∧ σ = ⟨[(1, Iv k), (2, .ref 2 0), (5, Iv (m.mod ^ i)), (6, Nv i)], [(2, oM 24 m)]⟩) ⟨_, _, ⟨0, .inr rfl, (by rw [Int.pow_zero]; decide), rfl, rfl⟩, ?wk0⟩ ?rd0
 case wk0 =>
  exact Wk.sub ⟨rfl, rfl, (by first | rfl | exact int_eq (by omega) | exact int_nm (by omega)), (by first | rfl | exact nm_int (by omega)), trivial⟩ ⟨rfl, trivial⟩
 rintro κ _ ⟨i, hi, hb, rfl, rfl⟩
 have hpp : 0 < m.mod ^ i := Int.pow_pos (by omega)
 have hmb := Int.mul_le_mul hb o2 (show (0 : Int) ≤ m.mod by omega) (by decide)
 have hml := Int.mul_pos hpp (show 0 < m.mod by omega)
 refine awp_seq fun K4 hK4 => awp_seq fun K5 hK5 => awp_region rfl (o_mv (Nv i) rfl (o_mv (Iv k) rfl ?_))
 refine o_lss (a := ((i : Nat) : Int)) (c := k) gn rfl rfl ?_
 refine aops_end (hK5 _ ?_)
 refine awp_condQ (q := ((i : Nat) : Int) < k) rfl (fun h1 => ?_) (fun h1 => ?_)
 ·refine awp_skip (hK4 _ (awp_seq fun K6 hK6 => ?_))
  refine awp_block ?_
  refine awp_seq fun K7 hK7 => awp_region rfl (o_mv (Iv (m.mod ^ i)) rfl ?_)
  refine o_fieldRef 0 gn f59_ rfl rfl ?_
  refine o_loadS (Iv m.mod) gn f11_ rfl rfl rfl ?_
  refine o_mul (a := (m.mod ^ i)) (c := m.mod) gn rfl rfl (by exact wrap64 (by omega) (by omega)) ?_
  refine n_as (v' := (Iv (m.mod ^ (i + 1)))) (by exact congrArg (fun z => AV.lit (.int .i64 z)) (Int.pow_succ _ _).symm) ?_
  refine o_as (Iv (m.mod ^ (i + 1))) rfl (aops_end (hK7 _ (awp_seq fun K8 hK8 => awp_region rfl (o_mv (Iv (m.mod ^ (i + 1))) rfl ?_))))
  refine o_gtr (a := (m.mod ^ (i + 1))) (c := ((65536 : Nat) : Int)) gn rfl rfl ?_
  refine aops_end (hK8 _ ?_)
  refine awp_condQ (q := ((65536 : Nat) : Int) < (m.mod ^ (i + 1))) rfl (fun h2 => ?_) (fun h2 => ?_)
  ·refine awp_seq fun K9 hK9 => awp_region rfl (o_as (Nv 0) rfl (aops_end (hK9 _ ?_)))
   refine awp_ret ?_
   refine post_ret ⟨[Nv 0], ⟨AV.le_refl _, trivial⟩, rfl, ?_⟩
   first | exact congrArg (fun z => AV.lit (.int .i64 z)) (rst_big (i := i) hM (by omega) (by omega)) | exact congrArg (fun z => AV.lit (.int .i64 z)) (if_neg (fun e => by have := e.1; omega)) | exact congrArg (fun z => AV.lit (.int .i64 z)) ((if_pos ⟨by omega, by rw [show k.toNat = i by omega]; exact hb⟩).trans (by rw [show k.toNat = i by omega]))
  ·refine awp_skip (hK6 _ (awp_region rfl (o_mv (Nv i) rfl ?_)))
   refine n_add i 1 gn rfl rfl (by simp only [topOf]; omega) ?_
   refine o_as (Nv (i + 1)) rfl (aops_end ?_)
   refine ⟨_, _, ?lt, ⟨i + 1, (.inl (by omega)), (by omega), rfl, rfl⟩, ?wk⟩
   case lt => omega
   case wk => exact Wk.sub ⟨rfl, rfl, (by first | rfl | exact int_eq (by omega) | exact int_nm (by omega)), (by first | rfl | exact nm_int (by omega)), trivial⟩ ⟨rfl, trivial⟩
 ·refine awp_exit ?_
  refine hK2 _ (awp_seq fun K10 hK10 => awp_seq fun K11 hK11 => awp_region rfl (o_mv (Iv k) rfl ?_))
  refine o_lss (a := k) (c := ((1 : Nat) : Int)) gn rfl rfl ?_
  refine aops_end (hK11 _ ?_)
  refine awp_condQ (q := k < ((1 : Nat) : Int)) rfl (fun h3 => ?_) (fun h3 => ?_)
  ·refine awp_seq fun K12 hK12 => awp_region rfl (o_as (Nv 0) rfl (aops_end (hK12 _ ?_)))
   refine awp_ret ?_
   refine post_ret ⟨[Nv 0], ⟨AV.le_refl _, trivial⟩, rfl, ?_⟩
   first | exact congrArg (fun z => AV.lit (.int .i64 z)) (rst_big (i := i) hM (by omega) (by omega)) | exact congrArg (fun z => AV.lit (.int .i64 z)) (if_neg (fun e => by have := e.1; omega)) | exact congrArg (fun z => AV.lit (.int .i64 z)) ((if_pos ⟨by omega, by rw [show k.toNat = i by omega]; exact hb⟩).trans (by rw [show k.toNat = i by omega]))
  ·refine awp_skip (hK10 _ (awp_seq fun K13 hK13 => awp_region rfl (o_mv (Iv (m.mod ^ i)) rfl (o_as (Iv (m.mod ^ i)) rfl (aops_end (hK13 _ ?_))))))
   refine awp_ret ?_
   refine post_ret ⟨[Iv (m.mod ^ i)], ⟨AV.le_refl _, trivial⟩, rfl, ?_⟩
   first | exact congrArg (fun z => AV.lit (.int .i64 z)) (rst_big (i := i) hM (by omega) (by omega)) | exact congrArg (fun z => AV.lit (.int .i64 z)) (if_neg (fun e => by have := e.1; omega)) | exact congrArg (fun z => AV.lit (.int .i64 z)) ((if_pos ⟨by omega, by rw [show k.toNat = i by omega]; exact hb⟩).trans (by rw [show k.toNat = i by omega]))

theorem c_CycleLoops (m : MapM) (k : Int) (h1m : m.mul.length ≤ 17592186044416) (h2m : m.add.length ≤ 17592186044416) (hkb : -9223372036854775808 ≤ k ∧ k ≤ 9223372036854775807) : ECalls cx 3 [mapV m, Iv k] (.lit (.bool true)) := by
 refine ecalls_of_awp Tryz.func3 (c := _) rfl (Nat.le_of_ble_eq_true rfl) ?_
 show awp cx 115 _ (postF cx Tryz.f3 _) ⟨[(0, mapV m), (1, Iv k)], []⟩
 have hkb2 := hkb.2
 refine awp_seq fun K0 hK0 => awp_region rfl ?_
 refine o_box 2 [Iv m.mod, Lv m.mul, Lv m.add] gn rfl rfl ?_
 refine o_as Fv rfl (aops_end (hK0 _ (awp_seq fun K1 hK1 => awp_region rfl ?_)))
 refine o_loadA [Iv m.mod, Lv m.mul, Lv m.add] gn f63_ rfl rfl rfl rfl rfl ?_
 refine o_ct (c_gTwin m (by omega) (by omega)) gn f166_ rfl ?_
 refine o_alloc 3 [Nv 0, Zv, Zv] gn f67_ rfl rfl rfl ?_
 refine o_store [(3, oM 24 m), (2, oM 24 m)] gn f69_ rfl rfl rfl rfl rfl rfl ?_
 refine aops_end (hK1 _ (awp_seq fun K2 hK2 => awp_region rfl ?_))
 refine o_loadA [Iv m.mod, Lv m.mul, Lv m.add] gn f63_ rfl rfl rfl rfl rfl ?_
 refine o_mv (Iv k) rfl ?_
 refine o_ct (c_Loops m k (by first | assumption | omega)) gn f161_ rfl ?_
 refine o_mv (.tup [.sl 1 (gcells cP (lpL m k)), Nv (chkE m k)]) rfl (o_extract (.sl 1 (gcells cP (lpL m k))) gn rfl rfl (o_extract (Nv (chkE m k)) gn rfl rfl (o_as (.sl 1 (gcells cP (lpL m k))) rfl (o_as (Nv (chkE m k)) rfl (aops_end (hK2 _ (awp_seq fun K3 hK3 => ?_)))))))
 refine awp_block ?_
 refine awp_seq fun K4 hK4 => awp_region rfl ?_
 refine o_loadA [Iv m.mod, Lv m.mul, Lv m.add] gn f63_ rfl rfl rfl rfl rfl ?_
 refine o_loadA [Iv m.mod, Lv m.mul, Lv m.add] gn f63_ rfl rfl rfl rfl rfl ?_
 refine o_ct (c_gSame m m) gn f167_ rfl ?_
 refine o_notP (q := m = m) gn rfl ?_
 refine o_as (bp (¬ (m = m))) rfl (aops_end (hK4 _ ?_))
 refine awp_condB (b := decide (¬ (m = m))) rfl (fun hh => absurd (hh.symm.trans (decide_eq_false (fun h => h rfl))) (by decide)) (fun _ => ?_)
 refine awp_seq fun K5 hK5 => awp_region rfl ?_
 refine o_loadA [Iv m.mod, Lv m.mul, Lv m.add] gn f63_ rfl rfl rfl rfl rfl ?_
 refine o_ct (c_gValid m) gn f168_ rfl ?_
 refine o_not (b := okM m) gn rfl ?_
 refine o_as (.lit (.bool (!(okM m)))) rfl (aops_end (hK5 _ ?_))
 refine awp_condB (b := !(okM m)) rfl (fun h1 => ?_) (fun h1 => ?_)
 ·have hm' : ¬ okM m = true := by simpa using h1
  have hc := chk_1 (k := k) hm'
  have hx := lpL_no (m := m) (k := k) (by omega)
  refine awp_seq fun K6 hK6 => awp_region rfl (o_mv (.sl 1 (gcells cP (lpL m k))) rfl ?_)
  refine n_as (v' := (.sl 1 (gcells cP ([])))) (by rw [hx]) ?_
  refine g_len cP ([]) cP_len gn f162_ rfl ?_
  refine n_eql (([]).length) 0 gn rfl rfl ?_
  refine n_as (v' := Tv) (by exact bpy rfl) ?_
  refine o_mv Tv rfl (o_move (Nv (chkE m k)) (Gd.yes rfl rfl rfl) rfl ?_)
  refine n_as (v' := (Nv 1)) (by rw [hc]) ?_
  refine n_eql 1 1 (Gd.yes rfl rfl rfl) rfl rfl ?_
  refine o_pickT (bp (1 = 1)) gn rfl rfl rfl ?_
  refine o_mv (bp (1 = 1)) rfl ?_
  refine o_ct c_awake6 (Gd.yes rfl rfl (decide_eq_true (by decide))) f169_ rfl ?_
  refine o_pickT Tv gn rfl (decide_eq_true (by decide)) rfl ?_
  refine o_as Tv rfl (aops_end (hK6 _ ?_))
  refine awp_ret ?_
  refine post_ret ⟨[Tv], ⟨AV.le_refl _, trivial⟩, rfl, ?_⟩
  first | rfl | simp [bp]
 ·have hm' : okM m = true := by simpa using h1
  have hM := okM_iff.1 hm'
  refine awp_seq fun K7 hK7 => awp_region rfl ?_
  refine o_loadA [Iv m.mod, Lv m.mul, Lv m.add] gn f63_ rfl rfl rfl rfl rfl ?_
  refine o_ct (c_gRegular m (by first | assumption | exact okM_iff.1 (by assumption))) gn f170_ rfl ?_
  refine o_notP (q := freeM m) gn rfl ?_
  refine o_mv (bp (¬ (freeM m))) rfl ?_
  refine o_splitP (q := ¬ (freeM m)) 42 rfl (fun h2 => ?_) (fun h2 => ?_)
  ·have hc := chk_2 (k := k) hm' (fun e => h2 e.1)
   have hx := lpL_no (m := m) (k := k) (by omega)
   refine o_skip rfl rfl (decide_eq_true h2) (o_skip rfl rfl (decide_eq_true h2) (o_skip rfl rfl (decide_eq_true h2) (o_skip rfl rfl (decide_eq_true h2) ?_)))
   refine o_pickT Tv gn rfl (decide_eq_true h2) rfl ?_
   refine o_as Tv rfl (aops_end (hK7 _ ?_))
   refine awp_condB (b := true) rfl (fun _ => ?_) (fun hh => absurd (hh.symm.trans rfl) (by decide))
   refine awp_seq fun K8 hK8 => awp_region rfl (o_mv (.sl 1 (gcells cP (lpL m k))) rfl ?_)
   refine n_as (v' := (.sl 1 (gcells cP ([])))) (by rw [hx]) ?_
   refine g_len cP ([]) cP_len gn f162_ rfl ?_
   refine n_eql (([]).length) 0 gn rfl rfl ?_
   refine n_as (v' := Tv) (by exact bpy rfl) ?_
   refine o_mv Tv rfl (o_move (Nv (chkE m k)) (Gd.yes rfl rfl rfl) rfl ?_)
   refine n_as (v' := (Nv 2)) (by rw [hc]) ?_
   refine n_eql 2 2 (Gd.yes rfl rfl rfl) rfl rfl ?_
   refine o_pickT (bp (2 = 2)) gn rfl rfl rfl ?_
   refine o_mv (bp (2 = 2)) rfl ?_
   refine o_ct c_awake6 (Gd.yes rfl rfl (decide_eq_true (by decide))) f169_ rfl ?_
   refine o_pickT Tv gn rfl (decide_eq_true (by decide)) rfl ?_
   refine o_as Tv rfl (aops_end (hK8 _ ?_))
   refine awp_ret ?_
   refine post_ret ⟨[Tv], ⟨AV.le_refl _, trivial⟩, rfl, ?_⟩
   first | rfl | simp [bp]
  ·refine o_loadA [Iv m.mod, Lv m.mul, Lv m.add] (Gd.yes rfl rfl (decide_eq_false h2)) f63_ rfl rfl rfl rfl rfl ?_
   refine o_move (Iv k) (Gd.yes rfl rfl (decide_eq_false h2)) rfl ?_
   refine o_ct (c_vRests m k (by first | assumption | exact okM_iff.1 (by assumption)) (by first | assumption | omega)) (Gd.yes rfl rfl (decide_eq_false h2)) f171_ rfl ?_
   refine o_eql (a := (rstN m k)) (c := ((0 : Nat) : Int)) (Gd.yes rfl rfl (decide_eq_false h2)) rfl rfl ?_
   refine o_pickF (bp ((rstN m k) = ((0 : Nat) : Int))) gn rfl (decide_eq_false h2) rfl ?_
   refine o_as (bp ((rstN m k) = ((0 : Nat) : Int))) rfl (aops_end (hK7 _ ?_))
   refine awp_condQ (q := (rstN m k) = ((0 : Nat) : Int)) rfl (fun h3 => ?_) (fun h3 => ?_)
   ·have hc := chk_2 (k := k) hm' (fun e => by have h9 := ((may_iff hM).2 e).2; omega)
    have hx := lpL_no (m := m) (k := k) (by omega)
    refine awp_seq fun K9 hK9 => awp_region rfl (o_mv (.sl 1 (gcells cP (lpL m k))) rfl ?_)
    refine n_as (v' := (.sl 1 (gcells cP ([])))) (by rw [hx]) ?_
    refine g_len cP ([]) cP_len gn f162_ rfl ?_
    refine n_eql (([]).length) 0 gn rfl rfl ?_
    refine n_as (v' := Tv) (by exact bpy rfl) ?_
    refine o_mv Tv rfl (o_move (Nv (chkE m k)) (Gd.yes rfl rfl rfl) rfl ?_)
    refine n_as (v' := (Nv 2)) (by rw [hc]) ?_
    refine n_eql 2 2 (Gd.yes rfl rfl rfl) rfl rfl ?_
    refine o_pickT (bp (2 = 2)) gn rfl rfl rfl ?_
    refine o_mv (bp (2 = 2)) rfl ?_
    refine o_ct c_awake6 (Gd.yes rfl rfl (decide_eq_true (by decide))) f169_ rfl ?_
    refine o_pickT Tv gn rfl (decide_eq_true (by decide)) rfl ?_
    refine o_as Tv rfl (aops_end (hK9 _ ?_))
    refine awp_ret ?_
    refine post_ret ⟨[Tv], ⟨AV.le_refl _, trivial⟩, rfl, ?_⟩
    first | rfl | simp [bp]
   ·have hmy : mayS m k := ⟨Decidable.not_not.1 h2, Decidable.byContradiction fun e => h3 (if_neg e)⟩
    have hc := chk_0 hm' hmy
    have hx := lpL_ok hc
    have hk16 : k.toNat ≤ 16 := may_16 hM hmy.2.2
    have hul := cyU_len m hM k.toNat
    have hpw := toNat_pw hM k.toNat
    have hul2 := Nat.mul_le_mul hk16 (show m.mod.toNat ^ k.toNat ≤ 65536 by have := hmy.2.2; omega)
    refine awp_skip (hK3 _ (awp_seq fun K10 hK10 => awp_region rfl ?_))
    refine o_loadA [Iv m.mod, Lv m.mul, Lv m.add] gn f63_ rfl rfl rfl rfl rfl ?_
    refine o_mv (Iv k) rfl ?_
    refine o_ct (c_zLoops m k hM hmy) gn f172_ rfl ?_
    refine o_as (.sl 1 (gcells cM (cyU m k.toNat))) rfl (aops_end (hK10 _ (awp_seq fun K11 hK11 => awp_seq fun K12 hK12 => awp_region rfl (o_mv (Nv (chkE m k)) rfl ?_))))
    refine n_as (v' := (Nv 0)) (by rw [hc]) ?_
    refine n_neq 0 0 gn rfl rfl ?_
    refine o_mv (bp (0 ≠ 0)) rfl ?_
    refine o_move (.sl 1 (gcells cP (lpL m k))) (Gd.yes rfl rfl (decide_eq_false (by decide))) rfl ?_
    refine n_as (v' := (.sl 1 (gcells cP (cyU m k.toNat)))) (by rw [hx]) ?_
    refine g_len cP (cyU m k.toNat) cP_len (Gd.yes rfl rfl (decide_eq_false (by decide))) f162_ rfl ?_
    refine o_move (.sl 1 (gcells cM (cyU m k.toNat))) (Gd.yes rfl rfl (decide_eq_false (by decide))) rfl ?_
    refine g_len cM (cyU m k.toNat) cM_len (Gd.yes rfl rfl (decide_eq_false (by decide))) f134_ rfl ?_
    refine n_neq ((cyU m k.toNat).length) ((cyU m k.toNat).length) (Gd.yes rfl rfl (decide_eq_false (by decide))) rfl rfl ?_
    refine n_as (v' := Fv) (by exact bp_no (fun e => e rfl)) ?_
    refine o_pickF Fv gn rfl (decide_eq_false (by decide)) rfl ?_
    refine aops_end (hK12 _ ?_)
    refine awp_condB (b := false) rfl (fun hh => absurd (hh.symm.trans rfl) (by decide)) (fun _ => ?_)
    refine awp_skip (hK11 _ (awp_seq fun K13 hK13 => awp_seq fun K14 hK14 => awp_region rfl (o_as (Nv 0) rfl (aops_end (hK14 _ ?_)))))
    refine awp_block ?_
    refine awp_loopR (fun κ σ => ∃ (i : Nat), (i ≤ (cyU m k.toNat).length) ∧ ((cyU m k.toNat).length - i) = κ ∧ σ = ⟨[(6, .sl 1 (gcells cP (cyU m k.toNat))), (8, .sl 1 (gcells cM (cyU m k.toNat))), (9, Nv i)], []⟩) ⟨_, _, ⟨0, Nat.zero_le _, rfl, rfl⟩, ?wk0⟩ ?rd0
    case wk0 =>
     exact Wk.sub ⟨(by first | rfl | (exact congrArg (fun l => AV.sl 1 (gcells cP l)) hx)), rfl, (by first | rfl | exact nm_int (by omega)), trivial⟩ trivial
    rintro κ _ ⟨i, hi, rfl, rfl⟩
    refine awp_seq fun K15 hK15 => awp_seq fun K16 hK16 => awp_region rfl (o_mv (Nv i) rfl (o_mv (.sl 1 (gcells cP (cyU m k.toNat))) rfl ?_))
    refine g_len cP (cyU m k.toNat) cP_len gn f162_ rfl ?_
    refine n_lss i ((cyU m k.toNat).length) gn rfl rfl ?_
    refine aops_end (hK16 _ ?_)
    refine awp_condQ (q := i < ((cyU m k.toNat).length)) rfl (fun h4 => ?_) (fun h4 => ?_)
    ·have hin := getD_memL (l := cyU m k.toNat) (i := i) (by omega)
     obtain ⟨c1, c2⟩ := cyU_loo hM hmy.1 (by omega) hin
     have hml : (List.map txt ((cyU m k.toNat).getD i default)).length = ((cyU m k.toNat).getD i default).length := List.length_map (f := txt)
     refine awp_skip (hK15 _ (awp_seq fun K17 hK17 => ?_))
     refine awp_block ?_
     refine awp_seq fun K18 hK18 => awp_seq fun K19 hK19 => awp_regionD rfl (o_mv (.sl 1 (gcells cP (cyU m k.toNat))) rfl (o_mv (Nv i) rfl ?_))
     refine g_index cP (cyU m k.toNat) i cP_len rfl gn f156_ rfl rfl (by omega) ?_
     refine g_field cP (cyU m k.toNat) i cP_len gn f163_ rfl (by omega) rfl ?_
     refine g_loadS cP (cyU m k.toNat) i default (.sl 1 (sbs (((cyU m k.toNat).getD i default).map txt))) cP_len gn f164_ rfl (by omega) rfl ?_
     refine s_len (((cyU m k.toNat).getD i default).map txt) gn f157_ rfl ?_
     refine n_as (v' := (Nv (((cyU m k.toNat).getD i default).length))) (by exact congrArg (nm _) hml) ?_
     refine o_mv (.sl 1 (gcells cM (cyU m k.toNat))) rfl (o_mv (Nv i) rfl ?_)
     refine g_index cM (cyU m k.toNat) i cM_len rfl gn f135_ rfl rfl (by omega) ?_
     refine g_loadS cM (cyU m k.toNat) i default (.sl 2 (gcells cN ((cyU m k.toNat).getD i default))) cM_len gn f136_ rfl (by omega) rfl ?_
     refine g_len cN ((cyU m k.toNat).getD i default) cN_len gn f127_ rfl ?_
     refine n_neq (((cyU m k.toNat).getD i default).length) (((cyU m k.toNat).getD i default).length) gn rfl rfl ?_
     refine n_as (v' := Fv) (by exact bp_no (fun e => e rfl)) ?_
     refine aops_end ⟨by kernel_rfl, ?_⟩
     refine hK19 _ ?_
     refine awp_condB (b := false) rfl (fun hh => absurd (hh.symm.trans rfl) (by decide)) (fun _ => ?_)
     refine awp_skip (hK18 _ (awp_seq fun K20 hK20 => awp_region rfl (o_as (Nv 0) rfl (aops_end (hK20 _ ?_)))))
     refine awp_block ?_
     refine awp_loopR (fun κ σ => ∃ (j : Nat), (j ≤ ((cyU m k.toNat).getD i default).length) ∧ (((cyU m k.toNat).getD i default).length - j) = κ ∧ σ = ⟨[(6, .sl 1 (gcells cP (cyU m k.toNat))), (8, .sl 1 (gcells cM (cyU m k.toNat))), (9, Nv i), (10, Nv j)], []⟩) ⟨_, _, ⟨0, Nat.zero_le _, rfl, rfl⟩, ?wk1⟩ ?rd1
     case wk1 =>
      exact Wk.sub ⟨rfl, rfl, rfl, (by first | rfl | exact nm_int (by omega)), trivial⟩ trivial
     rintro κ _ ⟨j, hj, rfl, rfl⟩
     refine awp_seq fun K21 hK21 => awp_seq fun K22 hK22 => awp_region rfl (o_mv (Nv j) rfl (o_mv (.sl 1 (gcells cM (cyU m k.toNat))) rfl (o_mv (Nv i) rfl ?_)))
     refine g_index cM (cyU m k.toNat) i cM_len rfl gn f135_ rfl rfl (by omega) ?_
     refine g_loadS cM (cyU m k.toNat) i default (.sl 2 (gcells cN ((cyU m k.toNat).getD i default))) cM_len gn f136_ rfl (by omega) rfl ?_
     refine g_len cN ((cyU m k.toNat).getD i default) cN_len gn f127_ rfl ?_
     refine n_lss j (((cyU m k.toNat).getD i default).length) gn rfl rfl ?_
     refine aops_end (hK22 _ ?_)
     refine awp_condQ (q := j < (((cyU m k.toNat).getD i default).length)) rfl (fun h5 => ?_) (fun h5 => ?_)
     ·have hdg := loo_dig hM (by omega) c2 (i := j) (by omega)
      refine awp_skip (hK21 _ (awp_seq fun K23 hK23 => ?_))
      refine awp_block ?_
      refine awp_seq fun K24 hK24 => awp_regionD rfl (o_mv (.sl 1 (gcells cP (cyU m k.toNat))) rfl (o_mv (Nv i) rfl ?_))
      refine g_index cP (cyU m k.toNat) i cP_len rfl gn f156_ rfl rfl (by omega) ?_
      refine g_field cP (cyU m k.toNat) i cP_len gn f163_ rfl (by omega) rfl ?_
      refine g_loadS cP (cyU m k.toNat) i default (.sl 1 (sbs (((cyU m k.toNat).getD i default).map txt))) cP_len gn f164_ rfl (by omega) rfl ?_
      refine o_mv (Nv j) rfl ?_
      refine s_index (((cyU m k.toNat).getD i default).map txt) j gn f152_ rfl rfl (by omega) ?_
      refine s_loadI (((cyU m k.toNat).getD i default).map txt) j gn f158_ rfl (by omega) ?_
      refine n_as (v' := (Sv (txt (((cyU m k.toNat).getD i default).getD j default)))) (by exact str_as (map_getD (by omega))) ?_
      refine o_mv (.sl 1 (gcells cM (cyU m k.toNat))) rfl (o_mv (Nv i) rfl ?_)
      refine g_index cM (cyU m k.toNat) i cM_len rfl gn f135_ rfl rfl (by omega) ?_
      refine g_loadS cM (cyU m k.toNat) i default (.sl 2 (gcells cN ((cyU m k.toNat).getD i default))) cM_len gn f136_ rfl (by omega) rfl ?_
      refine o_mv (Nv j) rfl ?_
      refine g_index cN ((cyU m k.toNat).getD i default) j cN_len rfl gn f125_ rfl rfl (by omega) ?_
      refine g_loadA cN ((cyU m k.toNat).getD i default) j default cN_len gn f14_ rfl (by omega) ?_
      refine o_ct (c_rText (((cyU m k.toNat).getD i default).getD j default) (by first | omega | assumption | (simp only [Int.natAbs_neg]; omega))) gn f173_ rfl ?_
      refine o_neqS (a := (txt (((cyU m k.toNat).getD i default).getD j default))) (c := (txt (((cyU m k.toNat).getD i default).getD j default))) gn rfl rfl ?_
      refine n_as (v' := Fv) (by exact bp_no (fun e => e rfl)) ?_
      refine aops_end ⟨by kernel_rfl, ?_⟩
      refine hK24 _ ?_
      refine awp_condB (b := false) rfl (fun hh => absurd (hh.symm.trans rfl) (by decide)) (fun _ => ?_)
      refine awp_skip (hK23 _ (awp_region rfl (o_mv (Nv j) rfl ?_)))
      refine n_add j 1 gn rfl rfl (by simp only [topOf]; omega) ?_
      refine o_as (Nv (j + 1)) rfl (aops_end ?_)
      refine ⟨_, _, ?lt, ⟨j + 1, (by omega), rfl, rfl⟩, ?wk⟩
      case lt => omega
      case wk => exact Wk.sub ⟨rfl, rfl, rfl, (by first | rfl | exact nm_int (by omega)), trivial⟩ trivial
     ·refine awp_exit ?_
      refine hK17 _ (awp_region rfl (o_mv (Nv i) rfl ?_))
      refine n_add i 1 gn rfl rfl (by simp only [topOf]; omega) ?_
      refine o_as (Nv (i + 1)) rfl (aops_end ?_)
      refine ⟨_, _, ?lt, ⟨i + 1, (by omega), rfl, rfl⟩, ?wk⟩
      case lt => omega
      case wk => exact Wk.sub ⟨rfl, rfl, (by first | rfl | exact nm_int (by omega)), trivial⟩ trivial
    ·refine awp_exit ?_
     refine hK13 _ (awp_seq fun K25 hK25 => awp_region rfl ?_)
     refine o_ct c_awake6 gn f169_ rfl ?_
     refine o_as Tv rfl (aops_end (hK25 _ ?_))
     refine awp_ret ?_
     refine post_ret ⟨[Tv], ⟨AV.le_refl _, trivial⟩, rfl, ?_⟩
     first | rfl | simp [bp]

end Go.Proofs.YtdmkejloknejdaaGreatDoor

namespace Go.Proofs.YtdmkejloknejdaaGreatDoor.cycleLoops
open Go Go.Ab Go.Mth Go.ChangeShapes Go.WideShapes Go.ChangeAt Go.RowKit
noncomputable def laid5 : List (String × DataW Unit) := [("math/bits.deBruijn32tab", Rows.laid_math_bits_deBruijn32tab), ("math/bits.deBruijn64tab", Rows.laid_math_bits_deBruijn64tab), ("internal/strconv.uint64pow10", Rows.laid_internal_strconv_uint64pow10)]
theorem laid5_met {W : World} (h : laidMetH Tryz.prog laid5 W) : laidMet Tryz.prog laid5 W := (MakeChecks.laidMetH_plain _ _ _ (by kernel_rfl)).mp h
theorem laid5_tab {W : World} (h : laidMet Tryz.prog laid5 W) : laidMet Tryz.prog (("internal/strconv.uint64pow10", Lib.tabData .u64 Lib.pow10Tab) :: []) W := h.tail.tail
set_option maxRecDepth 100000 in
theorem tabG_of {W : World} (h : laidMetH Tryz.prog laid5 W) : TabG (memOf W) :=
 var_mem gTab (Lib.tabIs_of_head gTab gTabType uTab uElTab cElTab cTab (laid5_tab (laid5_met h)))
theorem reads (os : Os) {H : Type} (enc : TypeId × Value → H) : ∃ places, DataW.whole enc Tryz.prog ((World.laidAll Tryz.prog os laid5).forCall (fun _ _ => 0) ⟨#[], #[.agg #[.int .i64 0, .slice none 0 0, .slice none 0 0], .int .i64 0], []⟩).memory Tryz.f3.params.toList Rows.cycleLoopsSpec.vars false (#[.agg #[.int .i64 0, .slice none 0 0, .slice none 0 0], .int .i64 0] : Array Value).toList 8 = some ([.agg [.lit (.int .i64 0), .nil, .nil], .lit (.int .i64 0)], [], places) := ⟨[], by kernel_rfl⟩
theorem met (os : Os) : laidMetH Tryz.prog laid5 ((World.laidAll Tryz.prog os laid5).forCall (fun _ _ => 0) ⟨#[], #[.agg #[.int .i64 0, .slice none 0 0, .slice none 0 0], .int .i64 0], []⟩).memory := (MakeChecks.laidMetH_plain _ _ _ (by kernel_rfl)).mpr (laidMet_laidAll _ (by kernel_rfl) (by kernel_rfl))
theorem specs {H : Type} (ds : List (DataW H)) (h : ds.length = 2) : (Rows.cycleLoopsSpec.fn H ds).results = [.lit (.bool true)] ∧ (Rows.cycleLoopsSpec.fn H ds).args = ds ∧ (Rows.cycleLoopsSpec.fn H ds).vars = [] := by
 rcases ds with _ | ⟨d0, _ | ⟨d1, _ | ⟨e, t⟩⟩⟩ <;> simp at h <;> exact ⟨rfl, rfl, rfl⟩
set_option maxRecDepth 100000 in
theorem opened {H : Type} (enc : TypeId × Value → H) (W : World) (base : Nat) (args : Array Value) (ds : List (DataW H)) (ps : List MemPlace) (hval : ∀ (j : Nat) t v, (#[24, 3] : Array TypeId)[j]? = some t → args[j]? = some v → Value.okWide Tryz.prog W .any base t v)
  (hA : DataW.TrodAll enc Tryz.prog W 0 (fun _ => true) true [24, 3] args.toList ds ps) (hsz : (DataW.weightsEach Tryz.prog [24, 3] ds).all (· ≤ reachBytes) = true) : ∃ xs, RepL (memOf W) xs noLoc args.toList ∧ ECalls cx 3 xs (.lit (.bool true)) := by
 obtain ⟨v0, vs0, d0, ds0, p0, q0, hargs, rfl, rfl, h0, r0⟩ := trodAll_cons hA
 obtain ⟨v1, vs1, d1, ds1, p1, q1, rfl, rfl, rfl, h1, r1⟩ := trodAll_cons r0
 obtain ⟨rfl, rfl, rfl⟩ := trodAll_nil r1
 obtain rfl : args = #[v0, v1] := by cases args; simp_all
 obtain ⟨m0, e0, b0, c0⟩ := rep_map (hval 0 24 v0 rfl rfl) h0 (fun n hn => by simpa using List.all_eq_true.1 hsz n (DataW.weights_mem_each (j := 0) rfl rfl n hn))
 obtain ⟨k1, e1, b1⟩ := rep_int (hval 1 3 v1 rfl rfl) h1
 exact ⟨[mapV m0, .lit (.int .i64 k1)], RepL.cons e0 (RepL.cons e1 (by simp only [RepL])), c_CycleLoops m0 k1 b0 c0 b1⟩
set_option maxRecDepth 100000 in
theorem lifted (os : Os) (started : os.Started) (H : Type) (enc : TypeId × Value → H) (F : Stop.Interp) :
  ReturnsInHanded {} Tryz.checked os 3 .any ((OpenSpec.ofChange Rows.cycleLoopsSpec).preRow enc Tryz.prog Tryz.f3 Rows.cycleLoopsRow.domain false Rows.cycleLoopsRow.laid) (((OpenSpec.ofChange Rows.cycleLoopsSpec).at F).post enc Tryz.prog Tryz.f3 false true false false) := by
 obtain ⟨places, hx⟩ := reads os enc
 refine lifted_of (C := Tryz.checked) started cx rfl ownT (by kernel_rfl) Tryz.func3 (witness_laid #[.agg #[.int .i64 0, .slice none 0 0, .slice none 0 0], .int .i64 0] (by kernel_rfl) (by kernel_rfl) (by kernel_rfl) (OpenSpec.preRow_of_cond 8 hx (by kernel_rfl) (fun k hk => by cases hk) (by kernel_rfl) (met os))) laidOutT (by kernel_rfl) (tb := 4) (by kernel_rfl) u4T rfl (fun ds h => specs ds (h.trans (by kernel_rfl))) (fun W h => tabG_of h) ?_
 intro W base args ds ps hval hA hsz
 exact opened enc W base args ds ps hval hA hsz
theorem said : Rows.CycleLoopsSaid :=
 OpenClaim.holds_of_cond 3 Tryz.f3 rfl rfl rfl rfl rfl rfl rfl ⟨rfl, rfl, rfl, rfl, rfl⟩ rfl rfl rfl rfl rfl (by kernel_rfl) Tryz.func3 (by kernel_rfl)
  (of_decide_eq_true (by kernel_rfl)) (by unfold Func.isWrapper; first | (rw [if_pos (by decide +kernel)]; kernel_rfl) | (rw [if_neg (by decide +kernel)]; exact ⟨rfl, rfl⟩))
  (fun os started H enc _ F => by rw [OpenClaim.pre_eq_preRow]; exact lifted os started H enc F)
theorem plain (f : FuncId) (fn : Func) (hf : Tryz.pinned.checked.prog.funcNamed "katabasis/katabasislaw06.CycleLoops" = some f) (hfn : Tryz.pinned.checked.prog.funcs[f]? = some fn) :
  true = Tryz.pinned.checked.prog.looks [] ∧ ∀ (j : Nat) t, fn.params[j]? = some t → Tryz.pinned.checked.prog.wantsStandIn t = false := by
 obtain rfl : f = 3 := Option.some.inj ((show Tryz.prog.funcNamed "katabasis/katabasislaw06.CycleLoops" = some 3 by kernel_rfl).symm.trans hf) |>.symm
 obtain rfl : fn = Tryz.f3 := (Option.some.inj (Tryz.func3.symm.trans hfn)).symm
 refine ⟨by kernel_rfl, fun j t ht => ?_⟩
 rw [Tryz.params3] at ht
 have : t = 24 ∨ t = 3 := by have h := Array.mem_of_getElem? ht; simp at h; first | exact h | (rcases h with h | h | h | h <;> simp [h]) | (rcases h with h | h | h <;> simp [h]) | (rcases h with h | h <;> simp [h])
 rcases this with rfl | rfl
 ·exact (show Tryz.prog.wantsStandIn 24 = false by kernel_rfl)
 ·exact (show Tryz.prog.wantsStandIn 3 = false by kernel_rfl)
end Go.Proofs.YtdmkejloknejdaaGreatDoor.cycleLoops
namespace Go.Proofs.YtdmkejloknejdaaGreatDoor
open Go
theorem cycleLoops_holds : Rows.CycleLoopsCardSaid :=
 Claim7.holds_tied_plain_at .later [] _ _ _ _ cycleLoops.said (fun _ h => by cases h) (by kernel_rfl) (fun _ h => by cases h) cycleLoops_row_tie rfl ⟨rfl, rfl⟩ (by kernel_rfl) rfl cycleLoops.plain (by kernel_rfl)
#print axioms cycleLoops_holds
end Go.Proofs.YtdmkejloknejdaaGreatDoor

