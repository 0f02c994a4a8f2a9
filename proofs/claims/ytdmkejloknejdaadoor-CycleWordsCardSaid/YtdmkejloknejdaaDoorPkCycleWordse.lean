/- The law 'katabasislaw06.CycleWords' is true for every map and list: a primitive word whose Fixed is an integer belongs to exactly one loop, of the fractions of Turn. Its condition: none but the row's own (the listed tables of the library). -/
import Derived.Test.YtdmkejloknejdaaDoorPkCycleWordsd
set_option linter.unusedVariables false
set_option linter.unusedSimpArgs false
namespace Go.Proofs.YtdmkejloknejdaaDoor
open Go Go.Ab Go.Mth
theorem f95_ : tySize cx.P 3 = some 1 := by kernel_rfl
theorem f96_ : tyZero cx.P 57 = some [Go.Value.slice none 0 0] := by kernel_rfl
theorem f97_ : callable cx.P 23 = true := by kernel_rfl
theorem f98_ : callable cx.P 40 = true := by kernel_rfl
theorem f99_ : callable cx.P 24 = true := by kernel_rfl
theorem f100_ : tySc cx.P 57 = true := by kernel_rfl
theorem f101_ : callable cx.P 27 = true := by kernel_rfl
theorem f102_ : tyElem cx.P 57 = some (62, 1, 24) := by kernel_rfl
theorem f103_ : tyZero cx.P 62 = some [Go.Value.slice none 0 0] := by kernel_rfl
theorem f104_ : tySize cx.P 57 = some 1 := by kernel_rfl
theorem f105_ : callable cx.P 29 = true := by kernel_rfl
theorem f106_ : callable cx.P 28 = true := by kernel_rfl
theorem f107_ : cx.P.underlying 57 = some (.slice 62) := by kernel_rfl
theorem f108_ : tySc cx.P 62 = true := by kernel_rfl
theorem f109_ : tyElem cx.P 41 = some (9, 1, 16) := by kernel_rfl
theorem f110_ : tyZero cx.P 9 = some [(Go.Value.string {data := #[]})] := by kernel_rfl
theorem f111_ : tyPlaces cx.P 43 = some (fun i => (#[(0, 1)] : Array (Nat × Nat))[i]?) := by kernel_rfl
theorem f112_ : tyZero cx.P 43 = some [Go.Value.slice none 0 0] := by kernel_rfl
theorem f113_ : tyElem cx.P 38 = some (43, 1, 24) := by kernel_rfl
theorem c_Loops (m : MapM) (k : Int) (hkb : k ≤ 9223372036854775807) : ECalls cx 11 [mapV m, Iv k] (.tup [.sl 1 (gcells cP (lpL m k)), nm .i64 (chkE m k)]) := by
 refine ecalls_of_awpM Tryd.func11 (c := _) rfl (Nat.le_of_ble_eq_true rfl) ?_
 show awpM cx 97 _ (postF cx Tryd.f11 _) ⟨[(0, mapV m), (1, Iv k)], []⟩
 refine awpM_seq fun K0 hK0 => ?_
 refine awpM_lift fun mk => ?_
 refine awp_region rfl ?_
 refine o_box 2 [Iv m.mod, Lv m.mul, Lv m.add] gn rfl rfl ?_
 refine o_as Zv rfl (o_as (Nv 0) rfl (aops_end (hK0 _ ?_)))
 refine awpM_seq fun K1 hK1 => ?_
 refine awpM_lift fun mk => ?_
 refine awp_block ?_
 refine awp_seq fun K2 hK2 => awp_region rfl ?_
 refine o_loadA [Iv m.mod, Lv m.mul, Lv m.add] gn f49_ rfl rfl rfl rfl rfl ?_
 refine o_ct (c_sValid m) gn f78_ rfl ?_
 refine o_not (b := okM m) gn rfl ?_
 refine o_as (.lit (.bool (!(okM m)))) rfl (aops_end (hK2 _ ?_))
 refine awp_condB (b := !(okM m)) rfl (fun h1 => ?_) (fun h1 => ?_)
 ·have hm' : ¬ okM m = true := by simpa using h1
  refine awp_seq fun K3 hK3 => awp_region rfl (o_as Zv rfl (o_as (Nv 1) rfl (aops_end (hK3 _ ?_))))
  refine awp_ret ?_
  refine post_ret ⟨[.sl 1 (gcells cP ([])), Nv 1], ⟨(AV.le_nil' (by decide) (by first | rfl | simp [digs_zero, ns, is])), AV.le_refl _, trivial⟩, rfl, ?_⟩
  first | exact tup_eq2 (gs_as (lpL_no (by rw [chk_1 hm']; decide))) (congrArg (nm _) (chk_1 hm')) | exact tup_eq2 (gs_as (lpL_no (by rw [chk_2 hm' (fun e => absurd e.1 (by assumption))]; decide))) (congrArg (nm _) (chk_2 hm' (fun e => absurd e.1 (by assumption)))) | exact tup_eq2 (gs_as (lpL_no (by rw [chk_2 hm' (fun e => absurd e.2.1 (by omega))]; decide))) (congrArg (nm _) (chk_2 hm' (fun e => absurd e.2.1 (by omega)))) | exact tup_eq2 (gs_as (lpL_no (by rw [chk_2 hm' (may_big hM (i := i) (by omega) (by omega))]; decide))) (congrArg (nm _) (chk_2 hm' (may_big hM (i := i) (by omega) (by omega)))) | (have hjk : k.toNat = j := (by omega); exact tup_eq2 (gs_as ((lpL_ok (chk_0 hm' hmy)).trans (by rw [hjk]))) (congrArg (nm _) (chk_0 hm' hmy)))
 ·have hm' : okM m = true := by simpa using h1
  have hM := okM_iff.1 hm'
  have hM2 := hM
  obtain ⟨o1, o2, o3, o4, o5⟩ := hM2
  refine awp_seq fun K4 hK4 => awp_region rfl ?_
  refine o_loadA [Iv m.mod, Lv m.mul, Lv m.add] gn f49_ rfl rfl rfl rfl rfl ?_
  refine o_ct (c_sFree m (by first | assumption | exact okM_iff.1 (by assumption))) gn f79_ rfl ?_
  refine o_notP (q := freeM m) gn rfl ?_
  refine o_mv (bp (¬ (freeM m))) rfl ?_
  refine o_splitP (q := ¬ (freeM m)) 26 rfl (fun h2 => ?_) (fun h2 => ?_)
  ·refine o_skip rfl rfl (decide_eq_true h2) (o_skip rfl rfl (decide_eq_true h2) ?_)
   refine o_pickT Tv gn rfl (decide_eq_true h2) rfl ?_
   refine o_as Tv rfl (aops_end (hK4 _ ?_))
   refine awp_condB (b := true) rfl (fun _ => ?_) (fun hh => absurd (hh.symm.trans rfl) (by decide))
   refine awp_seq fun K5 hK5 => awp_region rfl (o_as Zv rfl (o_as (Nv 2) rfl (aops_end (hK5 _ ?_))))
   refine awp_ret ?_
   refine post_ret ⟨[.sl 1 (gcells cP ([])), Nv 2], ⟨(AV.le_nil' (by decide) (by first | rfl | simp [digs_zero, ns, is])), AV.le_refl _, trivial⟩, rfl, ?_⟩
   first | exact tup_eq2 (gs_as (lpL_no (by rw [chk_1 hm']; decide))) (congrArg (nm _) (chk_1 hm')) | exact tup_eq2 (gs_as (lpL_no (by rw [chk_2 hm' (fun e => absurd e.1 (by assumption))]; decide))) (congrArg (nm _) (chk_2 hm' (fun e => absurd e.1 (by assumption)))) | exact tup_eq2 (gs_as (lpL_no (by rw [chk_2 hm' (fun e => absurd e.2.1 (by omega))]; decide))) (congrArg (nm _) (chk_2 hm' (fun e => absurd e.2.1 (by omega)))) | exact tup_eq2 (gs_as (lpL_no (by rw [chk_2 hm' (may_big hM (i := i) (by omega) (by omega))]; decide))) (congrArg (nm _) (chk_2 hm' (may_big hM (i := i) (by omega) (by omega)))) | (have hjk : k.toNat = j := (by omega); exact tup_eq2 (gs_as ((lpL_ok (chk_0 hm' hmy)).trans (by rw [hjk]))) (congrArg (nm _) (chk_0 hm' hmy)))
  ·refine o_move (Iv k) (Gd.yes rfl rfl (decide_eq_false h2)) rfl ?_
   refine o_lss (a := k) (c := ((1 : Nat) : Int)) (Gd.yes rfl rfl (decide_eq_false h2)) rfl rfl ?_
   refine o_pickF (bp (k < ((1 : Nat) : Int))) gn rfl (decide_eq_false h2) rfl ?_
   refine o_as (bp (k < ((1 : Nat) : Int))) rfl (aops_end (hK4 _ ?_))
   refine awp_condQ (q := k < ((1 : Nat) : Int)) rfl (fun h3 => ?_) (fun h3 => ?_)
   ·refine awp_seq fun K6 hK6 => awp_region rfl (o_as Zv rfl (o_as (Nv 2) rfl (aops_end (hK6 _ ?_))))
    refine awp_ret ?_
    refine post_ret ⟨[.sl 1 (gcells cP ([])), Nv 2], ⟨(AV.le_nil' (by decide) (by first | rfl | simp [digs_zero, ns, is])), AV.le_refl _, trivial⟩, rfl, ?_⟩
    first | exact tup_eq2 (gs_as (lpL_no (by rw [chk_1 hm']; decide))) (congrArg (nm _) (chk_1 hm')) | exact tup_eq2 (gs_as (lpL_no (by rw [chk_2 hm' (fun e => absurd e.1 (by assumption))]; decide))) (congrArg (nm _) (chk_2 hm' (fun e => absurd e.1 (by assumption)))) | exact tup_eq2 (gs_as (lpL_no (by rw [chk_2 hm' (fun e => absurd e.2.1 (by omega))]; decide))) (congrArg (nm _) (chk_2 hm' (fun e => absurd e.2.1 (by omega)))) | exact tup_eq2 (gs_as (lpL_no (by rw [chk_2 hm' (may_big hM (i := i) (by omega) (by omega))]; decide))) (congrArg (nm _) (chk_2 hm' (may_big hM (i := i) (by omega) (by omega)))) | (have hjk : k.toNat = j := (by omega); exact tup_eq2 (gs_as ((lpL_ok (chk_0 hm' hmy)).trans (by rw [hjk]))) (congrArg (nm _) (chk_0 hm' hmy)))
   ·refine awp_skip (hK1 _ ?_)
    refine awpM_seq fun K7 hK7 => ?_
    refine awpM_seq fun K8 hK8 => ?_
    refine awpM_lift fun mk => ?_
    refine awp_region rfl (o_as (Nv 1) rfl ?_)
    refine n_as (v' := (Iv (m.mod ^ 0))) (by exact congrArg (fun z => AV.lit (.int .i64 z)) (Int.pow_zero _).symm) ?_
    refine o_as (Nv 0) rfl (aops_end (hK8 _ ?_))
    refine awpM_lift fun mk => ?_
    refine awp_block ?_
    refine awp_loopR (fun κ σ => ∃ (i : Nat), (((i : Nat) : Int) ≤ k) ∧ (m.mod ^ i ≤ 65536) ∧ ((k - ((i : Nat) : Int)).toNat) = κ ∧ σ = ⟨[(1, Iv k), (2, .ref 2 0), (6, Iv (m.mod ^ i)), (7, Nv i)], [(2, oM 24 m)]⟩) ⟨_, _, ⟨0, (by omega), (by rw [Int.pow_zero]; decide), rfl, rfl⟩, ?wk0⟩ ?rd0
    case wk0 =>
     exact Wk.sub ⟨rfl, rfl, (by first | rfl | exact int_eq (by omega) | exact int_nm (by omega)), (by first | rfl | exact nm_int (by omega)), trivial⟩ ⟨(by first | rfl | (first | exact row_gs' (lsT_y (Decidable.not_not.1 (by assumption)) (cmpZ_eq0.1 (by assumption))) | exact row_gs' (lsT_n (fun e => absurd e.1 (by assumption))) | exact row_gs' (lsT_n (fun e => absurd (cmpZ_eq0.2 e.2) (by assumption))) | exact row_gs' (out_s (by omega) (by rw [loo_len hlo]; omega)) | exact row_gs' (by rw [List.take_of_length_le (by omega)]; rfl) | exact row_gs' (by simp))), trivial⟩
    rintro κ _ ⟨i, hi, hb, rfl, rfl⟩
    have hpp : 0 < m.mod ^ i := Int.pow_pos (by omega)
    have hmb := Int.mul_le_mul hb o2 (show (0 : Int) ≤ m.mod by omega) (by decide)
    have hml := Int.mul_pos hpp (show 0 < m.mod by omega)
    refine awp_seq fun K9 hK9 => awp_seq fun K10 hK10 => awp_region rfl (o_mv (Nv i) rfl (o_mv (Iv k) rfl ?_))
    refine o_lss (a := ((i : Nat) : Int)) (c := k) gn rfl rfl ?_
    refine aops_end (hK10 _ ?_)
    refine awp_condQ (q := ((i : Nat) : Int) < k) rfl (fun h4 => ?_) (fun h4 => ?_)
    ·refine awp_skip (hK9 _ (awp_seq fun K11 hK11 => ?_))
     refine awp_block ?_
     refine awp_seq fun K12 hK12 => awp_region rfl (o_mv (Iv (m.mod ^ i)) rfl ?_)
     refine o_fieldRef 0 gn f36_ rfl rfl ?_
     refine o_loadS (Iv m.mod) gn f37_ rfl rfl rfl ?_
     refine o_mul (a := (m.mod ^ i)) (c := m.mod) gn rfl rfl (by exact wrap64 (by omega) (by omega)) ?_
     refine n_as (v' := (Iv (m.mod ^ (i + 1)))) (by exact congrArg (fun z => AV.lit (.int .i64 z)) (Int.pow_succ _ _).symm) ?_
     refine o_as (Iv (m.mod ^ (i + 1))) rfl (aops_end (hK12 _ (awp_seq fun K13 hK13 => awp_region rfl (o_mv (Iv (m.mod ^ (i + 1))) rfl ?_))))
     refine o_gtr (a := (m.mod ^ (i + 1))) (c := ((65536 : Nat) : Int)) gn rfl rfl ?_
     refine aops_end (hK13 _ ?_)
     refine awp_condQ (q := ((65536 : Nat) : Int) < (m.mod ^ (i + 1))) rfl (fun h5 => ?_) (fun h5 => ?_)
     ·refine awp_seq fun K14 hK14 => awp_region rfl (o_as Zv rfl (o_as (Nv 2) rfl (aops_end (hK14 _ ?_))))
      refine awp_ret ?_
      refine post_ret ⟨[.sl 1 (gcells cP ([])), Nv 2], ⟨(AV.le_nil' (by decide) (by first | rfl | simp [digs_zero, ns, is])), AV.le_refl _, trivial⟩, rfl, ?_⟩
      first | exact tup_eq2 (gs_as (lpL_no (by rw [chk_1 hm']; decide))) (congrArg (nm _) (chk_1 hm')) | exact tup_eq2 (gs_as (lpL_no (by rw [chk_2 hm' (fun e => absurd e.1 (by assumption))]; decide))) (congrArg (nm _) (chk_2 hm' (fun e => absurd e.1 (by assumption)))) | exact tup_eq2 (gs_as (lpL_no (by rw [chk_2 hm' (fun e => absurd e.2.1 (by omega))]; decide))) (congrArg (nm _) (chk_2 hm' (fun e => absurd e.2.1 (by omega)))) | exact tup_eq2 (gs_as (lpL_no (by rw [chk_2 hm' (may_big hM (i := i) (by omega) (by omega))]; decide))) (congrArg (nm _) (chk_2 hm' (may_big hM (i := i) (by omega) (by omega)))) | (have hjk : k.toNat = j := (by omega); exact tup_eq2 (gs_as ((lpL_ok (chk_0 hm' hmy)).trans (by rw [hjk]))) (congrArg (nm _) (chk_0 hm' hmy)))
     ·refine awp_skip (hK11 _ (awp_region rfl (o_mv (Nv i) rfl ?_)))
      refine n_add i 1 gn rfl rfl (by simp only [topOf]; omega) ?_
      refine o_as (Nv (i + 1)) rfl (aops_end ?_)
      refine ⟨_, _, ?lt, ⟨i + 1, (by omega), (by omega), rfl, rfl⟩, ?wk⟩
      case lt => omega
      case wk => exact Wk.sub ⟨rfl, rfl, (by first | rfl | exact int_eq (by omega) | exact int_nm (by omega)), (by first | rfl | exact nm_int (by omega)), trivial⟩ ⟨rfl, trivial⟩
    ·refine awp_exit ?_
     refine hK7 _ ?_
     refine awpM_seq fun K15 hK15 => ?_
     refine awpM_lift fun mk => ?_
     have hf : freeM m := Decidable.not_not.1 (show ¬ ¬ freeM m by assumption)
     have hk1 : 1 ≤ k := by omega
     have hmy : mayS m k := ⟨hf, hk1, by rw [show k.toNat = i by omega]; exact hb⟩
     have hk16 : k.toNat ≤ 16 := may_16 hM hmy.2.2
     refine awp_region rfl (o_as Zv rfl (aops_end (hK15 _ ?_)))
     refine awpM_seq fun K16 hK16 => ?_
     refine awpM_seq fun K17 hK17 => ?_
     refine awpM_lift fun mk => ?_
     refine awp_region rfl ?_
     refine o_alloc 101 [Nv 0] gn f46_ rfl rfl rfl ?_
     refine o_store [(101, .var 3 [Nv 1]), (2, oM 24 m)] gn f95_ rfl rfl rfl rfl rfl rfl ?_
     refine aops_end (hK17 _ ?_)
     refine awpM_block ?_
     refine awpM_loopR (fun κ σ => ∃ (j : Nat), (((j : Nat) : Int) ≤ k) ∧ ((k + 1 - ((j : Nat) : Int)).toNat) = κ ∧ σ = ⟨[(1, Iv k), (2, .ref 2 0), (8, .row 50), (9, .ref 20 0)], [(2, oM 24 m), (20, .var 3 [Nv (j + 1)]), (50, .row 43 1 (gcells cP (cyU m j)))]⟩) ⟨_, _, ⟨0, (by omega), rfl, rfl⟩, ?wk1⟩ ?rd1
     case wk1 =>
      exact fun mk => Wk.trans (Wk.newNil (i := 8) (id := 602) (e := 43) (sz := 1) rfl rfl (by decide)) (Wk.trans (Wk.sub (σ' := ⟨[(1, Iv k), (2, .ref 2 0), (8, .row 602), (9, .ref 101 0)], [(2, oM 24 m), (602, .row 43 1 (gcells cP ([]))), (101, .var 3 [Nv 1])]⟩) ⟨rfl, rfl, rfl, rfl, trivial⟩ ⟨rfl, rfl, rfl, trivial⟩) (Wk.trans (Wk.ren (id := 602) (id' := 50) rfl) (Wk.trans (Wk.ren (id := 101) (id' := 20) rfl) (Wk.sub ⟨rfl, rfl, (by first | rfl | simp), (by first | rfl | simp), trivial⟩ ⟨rfl, (by first | rfl | (first | exact row_gs' (lsT_y (Decidable.not_not.1 (by assumption)) (cmpZ_eq0.1 (by assumption))) | exact row_gs' (lsT_n (fun e => absurd e.1 (by assumption))) | exact row_gs' (lsT_n (fun e => absurd (cmpZ_eq0.2 e.2) (by assumption))) | exact row_gs' (out_s (by omega) (by rw [loo_len hlo]; omega)) | exact row_gs' (by rw [List.take_of_length_le (by omega)]; rfl) | exact row_gs' (by simp))), (by first | rfl | exact row_ns (by simp) | (first | exact row_gs' (lsT_y (Decidable.not_not.1 (by assumption)) (cmpZ_eq0.1 (by assumption))) | exact row_gs' (lsT_n (fun e => absurd e.1 (by assumption))) | exact row_gs' (lsT_n (fun e => absurd (cmpZ_eq0.2 e.2) (by assumption))) | exact row_gs' (out_s (by omega) (by rw [loo_len hlo]; omega)) | exact row_gs' (by rw [List.take_of_length_le (by omega)]; rfl) | exact row_gs' (by simp))), trivial⟩))))
     rintro κ _ ⟨j, hj, rfl, rfl⟩
     refine awpM_seq fun K18 hK18 => ?_
     refine awpM_seq fun K19 hK19 => ?_
     refine awpM_lift fun mk => ?_
     refine awp_region rfl ?_
     refine o_loadS (Nv (j + 1)) gn f37_ rfl rfl rfl ?_
     refine o_mv (Iv k) rfl ?_
     refine o_leq (a := ((j + 1 : Nat) : Int)) (c := k) gn rfl rfl ?_
     refine aops_end (hK19 _ ?_)
     refine awpM_lift fun mk => ?_
     refine awp_condQ (q := ((j + 1 : Nat) : Int) ≤ k) rfl (fun h6 => ?_) (fun h6 => ?_)
     ·refine awp_skip (hK18 _ ?_)
      refine awpM_seq fun K20 hK20 => ?_
      refine awpM_block ?_
      refine awpM_seq fun K21 hK21 => ?_
      refine awpM_lift fun mk => ?_
      have hpj : m.mod ^ (j + 1) ≤ 65536 := Int.le_trans (pow_le_of hM (j := (j + 1)) (k := k.toNat) (by omega)) hmy.2.2
      have hpp : 0 < m.mod ^ (j + 1) := Int.pow_pos (by omega)
      have hpl := lpN_len m (j + 1)
      have hpw := toNat_pw hM (j + 1)
      have hcu := cyU_len m hM j
      have hpj2 := pow_le_of hM (j := j) (k := (j + 1)) (by omega)
      have hpw2 := toNat_pw hM j
      have hcu2 := Nat.mul_le_mul (show j ≤ 16 by omega) (show m.mod.toNat ^ j ≤ 65536 by omega)
      refine awp_region rfl ?_
      refine o_alloc 201 [Zv] gn f96_ rfl rfl rfl ?_
      refine aops_end (hK21 _ ?_)
      refine awpM_seq fun K22 hK22 => ?_
      refine awpM_seq fun K23 hK23 => ?_
      refine awpM_lift fun mk => ?_
      refine awp_region rfl ?_
      refine o_loadA [Iv m.mod, Lv m.mul, Lv m.add] gn f49_ rfl rfl rfl rfl rfl ?_
      refine o_loadS (Nv (j + 1)) gn f37_ rfl rfl rfl ?_
      refine o_callW 8001 8002 [mapV m, Nv (j + 1)] gn f97_ rfl rfl rfl rfl (c_words m (j + 1)) rfl rfl ?_
      refine aops_end (hK23 _ ?_)
      refine awpM_block ?_
      refine awpM_wk (fun mk => Wk.nilIn (i := 201) (id := 61) (ty := 57) (e := 62) (sz := 1) rfl rfl (by decide)) ?_
      refine awpM_wk (σ' := ⟨[(1, Iv k), (2, .ref 2 0), (8, .row 50), (9, .ref 20 0), (10, .ref 201 0), (48, .clo 40 [.ref 8001 0, .ref 8002 0])], [(8001, .var 3 [Nv (j + 1)]), (8002, oM 24 m), (2, oM 24 m), (20, .var 3 [Nv (j + 1)]), (201, .var 57 [.row 61]), (61, .row 62 1 ([])), (50, .row 43 1 (gcells cP (cyU m j)))]⟩) (fun mk => Wk.sub ⟨rfl, rfl, rfl, rfl, rfl, rfl, trivial⟩ ⟨rfl, rfl, rfl, rfl, rfl, rfl, rfl, trivial⟩) ?_
      refine awpM_rangeG (C := cx) rfl (gf := 40) (fnI := Tryd.f40) (caps := [.ref 8001 0, .ref 8002 0]) (so := [(1, Iv k), (2, .ref 2 0), (8, .row 50), (9, .ref 20 0), (10, .ref 201 0), (48, .clo 40 [.ref 8001 0, .ref 8002 0])]) ⟨rfl, rfl, rfl, rfl, rfl, rfl, trivial⟩ Tryd.func40 rfl f98_ (by decide) rfl rfl rfl rfl rfl (fun fn tmps D l pe m' => pe = none ∧ m' = [(2, oM 24 m), (20, .var 3 [Nv (j + 1)]), (201, .var 57 [.row 61]), (61, .row 62 1 (gcells cV (lsT m (j + 1) (m.mod.toNat ^ (j + 1))))), (50, .row 43 1 (gcells cP (cyU m j)))]) ?it2 ?nx2
      case it2 =>
       intro ps' as' bo' e1' e2' e3' fn tmps D l hsz
       refine awp_wk (σ' := ⟨[(0, .lit (.func (.yield l) #[] #[])), (1, .ref 8001 0), (2, .ref 8002 0)], [(9001, .blk (.loop (lrec fn tmps ps' as' bo' D .ready none))), (9002, .blk (.deferred (some []))), (9003, pinA [(1, Iv k), (2, .ref 2 0), (8, .row 50), (9, .ref 20 0), (10, .ref 201 0), (48, .clo 40 [.ref 8001 0, .ref 8002 0])] tmps), (9004, pinL l D), (8001, .var 3 [Nv (j + 1)]), (8002, oM 24 m), (2, oM 24 m), (20, .var 3 [Nv (j + 1)]), (201, .var 57 [.row 61]), (61, .row 62 1 ([])), (50, .row 43 1 (gcells cP (cyU m j)))]⟩) (Wk.sub ⟨rfl, rfl, rfl, trivial⟩ ⟨rfl, rfl, rfl, rfl, rfl, rfl, rfl, rfl, rfl, rfl, rfl, trivial⟩) ?_
       refine awp_seq fun K24 hK24 => awp_region rfl ?_
       refine o_loadS (Nv (j + 1)) gn f37_ rfl rfl rfl ?_
       refine n_make 8003 (j + 1) gn f42_ f46_ rfl rfl (by omega) rfl rfl ?_
       refine o_as (.row 8003) rfl (aops_end (hK24 _ ?_))
       refine awp_block ?_
       refine awp_loopR (fun κ σ => ∃ (t : Nat), (((t : Nat) : Int) < m.mod ^ (j + 1)) ∧ ((m.mod ^ (j + 1)).toNat - t) = κ ∧ σ = ⟨[(0, .lit (.func (.yield l) #[] #[])), (1, .ref 8001 0), (2, .ref 8002 0), (4, .row 8003)], [(9001, .blk (.loop (lrec fn tmps ps' as' bo' D .ready none))), (9002, .blk (.deferred (some []))), (9003, pinA [(1, Iv k), (2, .ref 2 0), (8, .row 50), (9, .ref 20 0), (10, .ref 201 0), (48, .clo 40 [.ref 8001 0, .ref 8002 0])] tmps), (9004, pinL l D), (8001, .var 3 [Nv (j + 1)]), (8002, oM 24 m), (2, oM 24 m), (20, .var 3 [Nv (j + 1)]), (201, .var 57 [.row 61]), (50, .row 43 1 (gcells cP (cyU m j))), (8003, .row 3 1 (is .i64 (wordT m.mod.toNat (j + 1) t))), (61, .row 62 1 (gcells cV (lsT m (j + 1) t)))]⟩) ⟨_, _, ⟨0, (by have : 0 < m.mod ^ (j + 1) := Int.pow_pos (by omega); omega), rfl, rfl⟩, ?wk3⟩ ?rd3
       case wk3 =>
        exact Wk.sub ⟨rfl, rfl, rfl, rfl, trivial⟩ ⟨rfl, rfl, rfl, rfl, rfl, rfl, rfl, rfl, rfl, rfl, (by first | rfl | exact row_ns (by simp) | (first | exact row_is' (next_y hM hnx (by omega) (fun e => by omega)).1 | exact row_gs' (congrArg (lsT m (j + 1)) (next_tot hM hnx (by omega) ht)) | exact row_start _ _ _)), (by first | rfl | exact row_ns (by simp) | (first | exact row_is' (next_y hM hnx (by omega) (fun e => by omega)).1 | exact row_gs' (congrArg (lsT m (j + 1)) (next_tot hM hnx (by omega) ht)) | exact row_start _ _ _)), trivial⟩
       rintro κ _ ⟨t, ht, rfl, rfl⟩
       refine awp_block ?_
       refine awp_seq fun K25 hK25 => awp_seq fun K26 hK26 => ?_
       refine awp_regionYK 2 10 _ _ _ _ _ _ l [.row 8003] rfl rfl ?_
       refine o_mv (.lit (.func (.yield l) #[] #[])) rfl (o_mv (.row 8003) rfl ?_)
       refine aops_end ⟨⟨[(8, .lit (.func (.yield l) #[] #[])), (9, .row 8003), (0, .lit (.func (.yield l) #[] #[])), (1, .ref 8001 0), (2, .ref 8002 0), (4, .row 8003)], [(9001, .blk (.loop (lrec fn tmps ps' as' bo' D .ready none))), (9002, .blk (.deferred (some []))), (9003, pinA [(1, Iv k), (2, .ref 2 0), (8, .row 50), (9, .ref 20 0), (10, .ref 201 0), (48, .clo 40 [.ref 8001 0, .ref 8002 0])] tmps), (9004, pinL l D), (8001, .var 3 [Nv (j + 1)]), (8002, oM 24 m), (2, oM 24 m), (20, .var 3 [Nv (j + 1)]), (201, .var 57 [.row 61]), (50, .row 43 1 (gcells cP (cyU m j))), (8003, .row 3 1 (is .i64 (wordT m.mod.toNat (j + 1) t))), (61, .row 62 1 (gcells cV (lsT m (j + 1) t)))]⟩, Wk.sub ⟨rfl, rfl, rfl, rfl, rfl, rfl, trivial⟩ ⟨rfl, rfl, rfl, rfl, rfl, rfl, rfl, rfl, rfl, rfl, rfl, rfl, trivial⟩, rfl, rfl, YldAt.mono (yldAt_of_roundG (so := [(1, Iv k), (2, .ref 2 0), (8, .row 50), (9, .ref 20 0), (10, .ref 201 0), (48, .clo 40 [.ref 8001 0, .ref 8002 0])]) (n := 97) (D' := D) (KN := fun mm => mm = [(9002, .blk (.deferred (some []))), (9003, pinA [(1, Iv k), (2, .ref 2 0), (8, .row 50), (9, .ref 20 0), (10, .ref 201 0), (48, .clo 40 [.ref 8001 0, .ref 8002 0])] tmps), (9004, pinL l D), (8001, .var 3 [Nv (j + 1)]), (8002, oM 24 m), (2, oM 24 m), (20, .var 3 [Nv (j + 1)]), (201, .var 57 [.row 61]), (50, .row 43 1 (gcells cP (cyU m j))), (8003, .row 3 1 (is .i64 (wordT m.mod.toNat (j + 1) t))), (61, .row 62 1 (gcells cV (lsT m (j + 1) (t + 1))))]) (KX := fun _ _ => False) rfl e1' e2' e3' hsz (by decide) rfl rfl rfl rfl rfl rfl fun us => ?rnd4) ?aft4⟩
       case rnd4 =>
        have hwl := wordT_len m.mod.toNat (j + 1) t
        have hW : OkW m (wordT m.mod.toNat (j + 1) t) := ⟨wordT_is hM _ _, by omega⟩
        have hne : (wordT m.mod.toNat (j + 1) t) ≠ [] := fun e => by rw [e] at hwl; simp at hwl
        obtain ⟨f1, f2⟩ := fix_len hM hf hW hne
        obtain ⟨l1, l2, l3⟩ := line_len hM (wordT m.mod.toNat (j + 1) t) hW.1
        have l4 := hW.2
        have l5 := len_subZ (lineZ m (wordT m.mod.toNat (j + 1) t)).div (lineZ m (wordT m.mod.toNat (j + 1) t)).mul
        have l6 := line_ne hM hf hW.1 hne
        have t1 := lsT_len m (j + 1) t
        have t2 : t < 65536 := by have := toNat_pw hM (j + 1); omega
        show awp cx 97 _ _ ⟨[(49, .row 8003), (1, Iv k), (2, .ref 2 0), (8, .row 50), (9, .ref 20 0), (10, .ref 201 0), (48, .clo 40 [.ref 8001 0, .ref 8002 0])], [(9005, .pin [.lit (.func (.yield l) #[] #[]), .row 8003, .lit (.func (.yield l) #[] #[]), .ref 8001 0, .ref 8002 0, .row 8003] us), (9001, .blk (.loop (lrec fn tmps ps' as' bo' D .ready none))), (9002, .blk (.deferred (some []))), (9003, pinA [(1, Iv k), (2, .ref 2 0), (8, .row 50), (9, .ref 20 0), (10, .ref 201 0), (48, .clo 40 [.ref 8001 0, .ref 8002 0])] tmps), (9004, pinL l D), (8001, .var 3 [Nv (j + 1)]), (8002, oM 24 m), (2, oM 24 m), (20, .var 3 [Nv (j + 1)]), (201, .var 57 [.row 61]), (50, .row 43 1 (gcells cP (cyU m j))), (8003, .row 3 1 (is .i64 (wordT m.mod.toNat (j + 1) t))), (61, .row 62 1 (gcells cV (lsT m (j + 1) t)))]⟩
        refine awp_region rfl (o_as (.row 8003) rfl (aops_end ?_))
        refine ⟨[(49, .row 8003), (1, Iv k), (2, .ref 2 0), (8, .row 50), (9, .ref 20 0), (10, .ref 201 0), (48, .clo 40 [.ref 8001 0, .ref 8002 0]), (11, .row 8003)], [(9005, .pin [.lit (.func (.yield l) #[] #[]), .row 8003, .lit (.func (.yield l) #[] #[]), .ref 8001 0, .ref 8002 0, .row 8003] us), (9002, .blk (.deferred (some []))), (9003, pinA [(1, Iv k), (2, .ref 2 0), (8, .row 50), (9, .ref 20 0), (10, .ref 201 0), (48, .clo 40 [.ref 8001 0, .ref 8002 0])] tmps), (9004, pinL l D), (8001, .var 3 [Nv (j + 1)]), (8002, oM 24 m), (2, oM 24 m), (20, .var 3 [Nv (j + 1)]), (201, .var 57 [.row 61]), (50, .row 43 1 (gcells cP (cyU m j))), (8003, .row 3 1 (is .i64 (wordT m.mod.toNat (j + 1) t))), (61, .row 62 1 (gcells cV (lsT m (j + 1) t)))], Wk.sub ⟨rfl, rfl, rfl, rfl, rfl, rfl, rfl, rfl, trivial⟩ ⟨rfl, rfl, rfl, rfl, rfl, rfl, rfl, rfl, rfl, rfl, rfl, rfl, rfl, trivial⟩, rfl, ?_⟩
        refine awp_block ?_
        refine awp_seq fun K27 hK27 => awp_seq fun K28 hK28 => awp_region rfl (o_mv (.row 8003) rfl ?_)
        refine o_callB [(8003, 1, is .i64 (wordT m.mod.toNat (j + 1) t))] [Lv (wordT m.mod.toNat (j + 1) t)] _ (.bool (decide (firstP (wordT m.mod.toNat (j + 1) t)))) gn f99_ rfl ⟨⟨_, rfl⟩, trivial⟩ rfl rfl (LeL.cons (AV.le_refl _) LeL.nil) (c_first (wordT m.mod.toNat (j + 1) t) (by first | (rw [wordT_len]; omega) | omega)) ?_
        refine o_notP (q := firstP (wordT m.mod.toNat (j + 1) t)) gn rfl ?_
        refine aops_end (hK28 _ ?_)
        refine awp_condQ (q := ¬ (firstP (wordT m.mod.toNat (j + 1) t))) rfl (fun h7 => ?_) (fun h7 => ?_)
        ·refine awp_exit ?_
         exact ⟨[(9002, .blk (.deferred (some []))), (9003, pinA [(1, Iv k), (2, .ref 2 0), (8, .row 50), (9, .ref 20 0), (10, .ref 201 0), (48, .clo 40 [.ref 8001 0, .ref 8002 0])] tmps), (9004, pinL l D), (8001, .var 3 [Nv (j + 1)]), (8002, oM 24 m), (2, oM 24 m), (20, .var 3 [Nv (j + 1)]), (201, .var 57 [.row 61]), (50, .row 43 1 (gcells cP (cyU m j))), (8003, .row 3 1 (is .i64 (wordT m.mod.toNat (j + 1) t))), (61, .row 62 1 (gcells cV (lsT m (j + 1) (t + 1))))], Wk.sub trivial ⟨rfl, rfl, rfl, rfl, rfl, rfl, rfl, rfl, rfl, rfl, rfl, rfl, (by first | rfl | exact row_ns (by simp) | (first | exact row_gs' (lsT_y (Decidable.not_not.1 (by assumption)) (cmpZ_eq0.1 (by assumption))) | exact row_gs' (lsT_n (fun e => absurd e.1 (by assumption))) | exact row_gs' (lsT_n (fun e => absurd (cmpZ_eq0.2 e.2) (by assumption))) | exact row_gs' (out_s (by omega) (by rw [loo_len hlo]; omega)) | exact row_gs' (by rw [List.take_of_length_le (by omega)]; rfl) | exact row_gs' (by simp))), trivial⟩, rfl, rfl, rfl⟩
        ·refine awp_skip (hK27 _ (awp_seq fun K29 hK29 => ?_))
         refine awp_wk (σ' := ⟨[(49, .row 8003), (1, Iv k), (2, .ref 2 0), (8, .row 50), (9, .ref 20 0), (10, .ref 201 0), (48, .clo 40 [.ref 8001 0, .ref 8002 0]), (11, .row 8003), (50, .row 8003), (51, bp (firstP (wordT m.mod.toNat (j + 1) t))), (52, bp (¬ (firstP (wordT m.mod.toNat (j + 1) t))))], [(9001, .blk (.loop (lrec fn tmps ps' as' bo' D .busy none))), (9005, .pin [.lit (.func (.yield l) #[] #[]), .row 8003, .lit (.func (.yield l) #[] #[]), .ref 8001 0, .ref 8002 0, .row 8003] us), (9002, .blk (.deferred (some []))), (9003, pinA [(1, Iv k), (2, .ref 2 0), (8, .row 50), (9, .ref 20 0), (10, .ref 201 0), (48, .clo 40 [.ref 8001 0, .ref 8002 0])] tmps), (9004, pinL l D), (8001, .var 3 [Nv (j + 1)]), (8002, oM 24 m), (2, oM 24 m), (20, .var 3 [Nv (j + 1)]), (201, .var 57 [.row 61]), (50, .row 43 1 (gcells cP (cyU m j))), (8003, .row 3 1 (is .i64 (wordT m.mod.toNat (j + 1) t))), (61, .row 62 1 (gcells cV (lsT m (j + 1) t)))]⟩) (Wk.sub ⟨rfl, rfl, rfl, rfl, rfl, rfl, rfl, rfl, rfl, rfl, rfl, trivial⟩ ⟨rfl, rfl, rfl, rfl, rfl, rfl, rfl, rfl, rfl, rfl, rfl, rfl, rfl, trivial⟩) ?_
         refine awp_regionSK 2 55 _ 18 [] _ _ _ _ _ [mapV m, .row 8003] (frW (fixZ m (wordT m.mod.toNat (j + 1) t))) [(9001, .blk (.loop (lrec fn tmps ps' as' bo' D .busy none))), (9005, .pin [.lit (.func (.yield l) #[] #[]), .row 8003, .lit (.func (.yield l) #[] #[]), .ref 8001 0, .ref 8002 0, .row 8003] us), (9002, .blk (.deferred (some []))), (9003, pinA [(1, Iv k), (2, .ref 2 0), (8, .row 50), (9, .ref 20 0), (10, .ref 201 0), (48, .clo 40 [.ref 8001 0, .ref 8002 0])] tmps), (9004, pinL l D), (8001, .var 3 [Nv (j + 1)]), (8002, oM 24 m), (2, oM 24 m), (20, .var 3 [Nv (j + 1)]), (201, .var 57 [.row 61]), (50, .row 43 1 (gcells cP (cyU m j))), (8003, .row 3 1 (is .i64 (wordT m.mod.toNat (j + 1) t))), (61, .row 62 1 (gcells cV (lsT m (j + 1) t)))] rfl rfl f82_ ?_
         refine o_loadA [Iv m.mod, Lv m.mul, Lv m.add] gn f49_ rfl rfl rfl rfl rfl ?_
         refine o_mv (.row 8003) rfl ?_
         refine aops_end ⟨rfl, rfl, ?sc5, ?_⟩
         case sc5 =>
          refine scalls_of_awpB 9014 Tryd.func18 (c := _) rfl (Nat.le_of_ble_eq_true rfl) rfl rfl rfl (fun us5 => ?_)
          show awp cx 17 _ (postS cx Tryd.f18 (frW (fixZ m (wordT m.mod.toNat (j + 1) t))) [(9001, .blk (.loop (lrec fn tmps ps' as' bo' D .busy none))), (9005, .pin [.lit (.func (.yield l) #[] #[]), .row 8003, .lit (.func (.yield l) #[] #[]), .ref 8001 0, .ref 8002 0, .row 8003] us), (9002, .blk (.deferred (some []))), (9003, pinA [(1, Iv k), (2, .ref 2 0), (8, .row 50), (9, .ref 20 0), (10, .ref 201 0), (48, .clo 40 [.ref 8001 0, .ref 8002 0])] tmps), (9004, pinL l D), (8001, .var 3 [Nv (j + 1)]), (8002, oM 24 m), (2, oM 24 m), (20, .var 3 [Nv (j + 1)]), (201, .var 57 [.row 61]), (50, .row 43 1 (gcells cP (cyU m j))), (8003, .row 3 1 (is .i64 (wordT m.mod.toNat (j + 1) t))), (61, .row 62 1 (gcells cV (lsT m (j + 1) t)))] 9014 [.row 8003, mapV m, .row 8003, Iv k, .ref 2 0, .row 50, .ref 20 0, .ref 201 0, .clo 40 [.ref 8001 0, .ref 8002 0], .row 8003, .row 8003, bp (firstP (wordT m.mod.toNat (j + 1) t)), bp (¬ (firstP (wordT m.mod.toNat (j + 1) t)))] us5) ⟨[(0, mapV m), (1, .row 8003)], [(9014, .pin [.row 8003, mapV m, .row 8003, Iv k, .ref 2 0, .row 50, .ref 20 0, .ref 201 0, .clo 40 [.ref 8001 0, .ref 8002 0], .row 8003, .row 8003, bp (firstP (wordT m.mod.toNat (j + 1) t)), bp (¬ (firstP (wordT m.mod.toNat (j + 1) t)))] us5), (9001, .blk (.loop (lrec fn tmps ps' as' bo' D .busy none))), (9005, .pin [.lit (.func (.yield l) #[] #[]), .row 8003, .lit (.func (.yield l) #[] #[]), .ref 8001 0, .ref 8002 0, .row 8003] us), (9002, .blk (.deferred (some []))), (9003, pinA [(1, Iv k), (2, .ref 2 0), (8, .row 50), (9, .ref 20 0), (10, .ref 201 0), (48, .clo 40 [.ref 8001 0, .ref 8002 0])] tmps), (9004, pinL l D), (8001, .var 3 [Nv (j + 1)]), (8002, oM 24 m), (2, oM 24 m), (20, .var 3 [Nv (j + 1)]), (201, .var 57 [.row 61]), (50, .row 43 1 (gcells cP (cyU m j))), (8003, .row 3 1 (is .i64 (wordT m.mod.toNat (j + 1) t))), (61, .row 62 1 (gcells cV (lsT m (j + 1) t)))]⟩
          refine awp_seq fun K30 hK30 => awp_region rfl ?_
          refine o_box 8004 [Iv m.mod, Lv m.mul, Lv m.add] gn rfl rfl ?_
          refine o_alloc 8005 [Fv, Zv, Fv, Zv] gn f64_ rfl rfl rfl ?_
          refine aops_end (hK30 _ (awp_seq fun K31 hK31 => ?_))
          refine awp_wk (σ' := ⟨[(0, mapV m), (1, .row 8003), (2, .ref 8004 0), (4, .ref 8005 0)], [(8005, .var 52 [Fv, Zv, Fv, Zv]), (8004, oM 24 m), (9014, .pin [.row 8003, mapV m, .row 8003, Iv k, .ref 2 0, .row 50, .ref 20 0, .ref 201 0, .clo 40 [.ref 8001 0, .ref 8002 0], .row 8003, .row 8003, bp (firstP (wordT m.mod.toNat (j + 1) t)), bp (¬ (firstP (wordT m.mod.toNat (j + 1) t)))] us5), (9001, .blk (.loop (lrec fn tmps ps' as' bo' D .busy none))), (9005, .pin [.lit (.func (.yield l) #[] #[]), .row 8003, .lit (.func (.yield l) #[] #[]), .ref 8001 0, .ref 8002 0, .row 8003] us), (9002, .blk (.deferred (some []))), (9003, pinA [(1, Iv k), (2, .ref 2 0), (8, .row 50), (9, .ref 20 0), (10, .ref 201 0), (48, .clo 40 [.ref 8001 0, .ref 8002 0])] tmps), (9004, pinL l D), (8001, .var 3 [Nv (j + 1)]), (8002, oM 24 m), (2, oM 24 m), (20, .var 3 [Nv (j + 1)]), (201, .var 57 [.row 61]), (50, .row 43 1 (gcells cP (cyU m j))), (8003, .row 3 1 (is .i64 (wordT m.mod.toNat (j + 1) t))), (61, .row 62 1 (gcells cV (lsT m (j + 1) t)))]⟩) (Wk.sub ⟨rfl, rfl, rfl, rfl, trivial⟩ ⟨rfl, rfl, rfl, rfl, rfl, rfl, rfl, rfl, rfl, rfl, rfl, rfl, rfl, rfl, rfl, rfl, trivial⟩) ?_
          refine awp_regionSK 2 8 _ 33 [] _ _ _ _ _ [mapV m, .row 8003] (linW (lineZ m (wordT m.mod.toNat (j + 1) t))) [(8005, .var 52 [Fv, Zv, Fv, Zv]), (8004, oM 24 m), (9014, .pin [.row 8003, mapV m, .row 8003, Iv k, .ref 2 0, .row 50, .ref 20 0, .ref 201 0, .clo 40 [.ref 8001 0, .ref 8002 0], .row 8003, .row 8003, bp (firstP (wordT m.mod.toNat (j + 1) t)), bp (¬ (firstP (wordT m.mod.toNat (j + 1) t)))] us5), (9001, .blk (.loop (lrec fn tmps ps' as' bo' D .busy none))), (9005, .pin [.lit (.func (.yield l) #[] #[]), .row 8003, .lit (.func (.yield l) #[] #[]), .ref 8001 0, .ref 8002 0, .row 8003] us), (9002, .blk (.deferred (some []))), (9003, pinA [(1, Iv k), (2, .ref 2 0), (8, .row 50), (9, .ref 20 0), (10, .ref 201 0), (48, .clo 40 [.ref 8001 0, .ref 8002 0])] tmps), (9004, pinL l D), (8001, .var 3 [Nv (j + 1)]), (8002, oM 24 m), (2, oM 24 m), (20, .var 3 [Nv (j + 1)]), (201, .var 57 [.row 61]), (50, .row 43 1 (gcells cP (cyU m j))), (8003, .row 3 1 (is .i64 (wordT m.mod.toNat (j + 1) t))), (61, .row 62 1 (gcells cV (lsT m (j + 1) t)))] rfl rfl f76_ ?_
          refine o_loadA [Iv m.mod, Lv m.mul, Lv m.add] gn f49_ rfl rfl rfl rfl rfl ?_
          refine o_mv (.row 8003) rfl ?_
          refine aops_end ⟨rfl, rfl, ?sc6, ?_⟩
          case sc6 =>
           refine scalls_of_awpB 9015 Tryd.func33 (c := _) rfl (Nat.le_of_ble_eq_true rfl) rfl rfl rfl (fun us6 => ?_)
           show awp cx 25 _ (postS cx Tryd.f33 (linW (lineZ m (wordT m.mod.toNat (j + 1) t))) [(8005, .var 52 [Fv, Zv, Fv, Zv]), (8004, oM 24 m), (9014, .pin [.row 8003, mapV m, .row 8003, Iv k, .ref 2 0, .row 50, .ref 20 0, .ref 201 0, .clo 40 [.ref 8001 0, .ref 8002 0], .row 8003, .row 8003, bp (firstP (wordT m.mod.toNat (j + 1) t)), bp (¬ (firstP (wordT m.mod.toNat (j + 1) t)))] us5), (9001, .blk (.loop (lrec fn tmps ps' as' bo' D .busy none))), (9005, .pin [.lit (.func (.yield l) #[] #[]), .row 8003, .lit (.func (.yield l) #[] #[]), .ref 8001 0, .ref 8002 0, .row 8003] us), (9002, .blk (.deferred (some []))), (9003, pinA [(1, Iv k), (2, .ref 2 0), (8, .row 50), (9, .ref 20 0), (10, .ref 201 0), (48, .clo 40 [.ref 8001 0, .ref 8002 0])] tmps), (9004, pinL l D), (8001, .var 3 [Nv (j + 1)]), (8002, oM 24 m), (2, oM 24 m), (20, .var 3 [Nv (j + 1)]), (201, .var 57 [.row 61]), (50, .row 43 1 (gcells cP (cyU m j))), (8003, .row 3 1 (is .i64 (wordT m.mod.toNat (j + 1) t))), (61, .row 62 1 (gcells cV (lsT m (j + 1) t)))] 9015 [.row 8003, mapV m, mapV m, .row 8003, .ref 8004 0, .ref 8005 0] us6) ⟨[(0, mapV m), (1, .row 8003)], [(9015, .pin [.row 8003, mapV m, mapV m, .row 8003, .ref 8004 0, .ref 8005 0] us6), (8005, .var 52 [Fv, Zv, Fv, Zv]), (8004, oM 24 m), (9014, .pin [.row 8003, mapV m, .row 8003, Iv k, .ref 2 0, .row 50, .ref 20 0, .ref 201 0, .clo 40 [.ref 8001 0, .ref 8002 0], .row 8003, .row 8003, bp (firstP (wordT m.mod.toNat (j + 1) t)), bp (¬ (firstP (wordT m.mod.toNat (j + 1) t)))] us5), (9001, .blk (.loop (lrec fn tmps ps' as' bo' D .busy none))), (9005, .pin [.lit (.func (.yield l) #[] #[]), .row 8003, .lit (.func (.yield l) #[] #[]), .ref 8001 0, .ref 8002 0, .row 8003] us), (9002, .blk (.deferred (some []))), (9003, pinA [(1, Iv k), (2, .ref 2 0), (8, .row 50), (9, .ref 20 0), (10, .ref 201 0), (48, .clo 40 [.ref 8001 0, .ref 8002 0])] tmps), (9004, pinL l D), (8001, .var 3 [Nv (j + 1)]), (8002, oM 24 m), (2, oM 24 m), (20, .var 3 [Nv (j + 1)]), (201, .var 57 [.row 61]), (50, .row 43 1 (gcells cP (cyU m j))), (8003, .row 3 1 (is .i64 (wordT m.mod.toNat (j + 1) t))), (61, .row 62 1 (gcells cV (lsT m (j + 1) t)))]⟩
           refine awp_seq fun K32 hK32 => awp_region rfl ?_
           refine o_box 8006 [Iv m.mod, Lv m.mul, Lv m.add] gn rfl rfl ?_
           refine o_alloc 8007 [Fv, Zv, Fv, Zv, Fv, Zv] gn f56_ rfl rfl rfl ?_
           refine aops_end (hK32 _ (awp_seq fun K33 hK33 => awp_region rfl ?_))
           refine o_ct (c_wOf (1 : Int) (by first | decide | omega) (by first | decide | omega)) gn f25_ rfl ?_
           refine o_ct (c_wOf (0 : Int) (by first | decide | omega) (by first | decide | omega)) gn f25_ rfl ?_
           refine o_ct (c_wOf (1 : Int) (by first | decide | omega) (by first | decide | omega)) gn f25_ rfl ?_
           refine o_build [(bp ((1 : Int) < 0)), (.sl 1 (ns .u32 (digs (1 : Int).natAbs))), (bp ((0 : Int) < 0)), (.sl 1 (ns .u32 (digs (0 : Int).natAbs))), (bp ((1 : Int) < 0)), (.sl 1 (ns .u32 (digs (1 : Int).natAbs)))] [(0, [(bp ((1 : Int) < 0)), (.sl 1 (ns .u32 (digs (1 : Int).natAbs)))]), (1, [(bp ((0 : Int) < 0)), (.sl 1 (ns .u32 (digs (0 : Int).natAbs)))]), (2, [(bp ((1 : Int) < 0)), (.sl 1 (ns .u32 (digs (1 : Int).natAbs)))])] gn f57_ f56_ rfl rfl rfl ?_
           refine o_alloc 8008 [Fv, Zv, Fv, Zv, Fv, Zv] gn f56_ rfl rfl rfl ?_
           refine o_store [(8008, (.var 69 [(bp ((1 : Int) < 0)), (.sl 1 (ns .u32 (digs (1 : Int).natAbs))), (bp ((0 : Int) < 0)), (.sl 1 (ns .u32 (digs (0 : Int).natAbs))), (bp ((1 : Int) < 0)), (.sl 1 (ns .u32 (digs (1 : Int).natAbs)))])), (8007, .var 69 [Fv, Zv, Fv, Zv, Fv, Zv]), (8006, oM 24 m), (9015, .pin [.row 8003, mapV m, mapV m, .row 8003, .ref 8004 0, .ref 8005 0] us6), (8005, .var 52 [Fv, Zv, Fv, Zv]), (8004, oM 24 m), (9014, .pin [.row 8003, mapV m, .row 8003, Iv k, .ref 2 0, .row 50, .ref 20 0, .ref 201 0, .clo 40 [.ref 8001 0, .ref 8002 0], .row 8003, .row 8003, bp (firstP (wordT m.mod.toNat (j + 1) t)), bp (¬ (firstP (wordT m.mod.toNat (j + 1) t)))] us5), (9001, .blk (.loop (lrec fn tmps ps' as' bo' D .busy none))), (9005, .pin [.lit (.func (.yield l) #[] #[]), .row 8003, .lit (.func (.yield l) #[] #[]), .ref 8001 0, .ref 8002 0, .row 8003] us), (9002, .blk (.deferred (some []))), (9003, pinA [(1, Iv k), (2, .ref 2 0), (8, .row 50), (9, .ref 20 0), (10, .ref 201 0), (48, .clo 40 [.ref 8001 0, .ref 8002 0])] tmps), (9004, pinL l D), (8001, .var 3 [Nv (j + 1)]), (8002, oM 24 m), (2, oM 24 m), (20, .var 3 [Nv (j + 1)]), (201, .var 57 [.row 61]), (50, .row 43 1 (gcells cP (cyU m j))), (8003, .row 3 1 (is .i64 (wordT m.mod.toNat (j + 1) t))), (61, .row 62 1 (gcells cV (lsT m (j + 1) t)))] gn f58_ rfl rfl rfl rfl rfl rfl ?_
           refine aops_end (hK33 _ (awp_seq fun K34 hK34 => awp_region rfl ?_))
           refine o_makeFunc [.ref 8006 0, .ref 8008 0] gn rfl ?_
           refine o_as (.clo 50 [.ref 8006 0, .ref 8008 0]) rfl (aops_end (hK34 _ (awp_seq fun K35 hK35 => awp_seq fun K36 hK36 => awp_region rfl (o_mv (.row 8003) rfl ?_))))
           refine o_lenRow ((wordT m.mod.toNat (j + 1) t).length) gn f40_ rfl rfl (by simp [is]) ?_
           refine o_mv (Nv 0) rfl (aops_end (hK36 _ ?_))
           refine awp_block ?_
           refine awp_loopR (fun κ σ => ∃ (v : Nat), ∃ (ln : LinZ), (v ≤ (wordT m.mod.toNat (j + 1) t).length) ∧ (ln = lineZ m ((wordT m.mod.toNat (j + 1) t).take v)) ∧ ((wordT m.mod.toNat (j + 1) t).length - v) = κ ∧ σ = ⟨[(2, .ref 8006 0), (4, .ref 8007 0), (5, .ref 8008 0), (6, .clo 50 [.ref 8006 0, .ref 8008 0]), (14, .row 8003), (15, Nv ((wordT m.mod.toNat (j + 1) t).length)), (16, Nv v)], [(9015, .pin [.row 8003, mapV m, mapV m, .row 8003, .ref 8004 0, .ref 8005 0] us6), (8005, .var 52 [Fv, Zv, Fv, Zv]), (8004, oM 24 m), (9014, .pin [.row 8003, mapV m, .row 8003, Iv k, .ref 2 0, .row 50, .ref 20 0, .ref 201 0, .clo 40 [.ref 8001 0, .ref 8002 0], .row 8003, .row 8003, bp (firstP (wordT m.mod.toNat (j + 1) t)), bp (¬ (firstP (wordT m.mod.toNat (j + 1) t)))] us5), (9001, .blk (.loop (lrec fn tmps ps' as' bo' D .busy none))), (9005, .pin [.lit (.func (.yield l) #[] #[]), .row 8003, .lit (.func (.yield l) #[] #[]), .ref 8001 0, .ref 8002 0, .row 8003] us), (9002, .blk (.deferred (some []))), (9003, pinA [(1, Iv k), (2, .ref 2 0), (8, .row 50), (9, .ref 20 0), (10, .ref 201 0), (48, .clo 40 [.ref 8001 0, .ref 8002 0])] tmps), (9004, pinL l D), (8001, .var 3 [Nv (j + 1)]), (8002, oM 24 m), (2, oM 24 m), (20, .var 3 [Nv (j + 1)]), (201, .var 57 [.row 61]), (50, .row 43 1 (gcells cP (cyU m j))), (8003, .row 3 1 (is .i64 (wordT m.mod.toNat (j + 1) t))), (61, .row 62 1 (gcells cV (lsT m (j + 1) t))), (8006, oM 24 m), (8007, .var 69 [Fv, Zv, Fv, Zv, Fv, Zv]), (8008, .var 69 [Bv (ln.mul), Dv (ln.mul), Bv (ln.add), Dv (ln.add), Bv (ln.div), Dv (ln.div)])]⟩) ⟨_, _, ⟨0, oneZ, (by omega), rfl, rfl, rfl⟩, ?wk7⟩ ?rd7
           case wk7 =>
            exact Wk.sub ⟨rfl, rfl, rfl, rfl, rfl, rfl, (by first | rfl | exact nm_int (by omega)), trivial⟩ ⟨rfl, rfl, rfl, rfl, rfl, rfl, rfl, rfl, rfl, rfl, rfl, rfl, rfl, rfl, rfl, rfl, rfl, rfl, rfl, rfl, trivial⟩
           rintro κ _ ⟨v, ln, hv, hl2, rfl, rfl⟩
           refine awp_seq fun K37 hK37 => awp_region rfl ?_
           refine n_lss v ((wordT m.mod.toNat (j + 1) t).length) gn rfl rfl ?_
           refine aops_end (hK37 _ (awp_seq fun K38 hK38 => ?_))
           refine awp_condQ (q := v < ((wordT m.mod.toNat (j + 1) t).length)) rfl (fun h8 => ?_) (fun h8 => ?_)
           ·refine awp_skip (hK38 _ (awp_seq fun K39 hK39 => ?_))
            refine awp_block ?_
            refine awp_seq fun K40 hK40 => awp_region rfl ?_
            refine i_indexRow (wordT m.mod.toNat (j + 1) t) v gn f42_ rfl rfl rfl (by omega) ?_
            refine i_loadRow (wordT m.mod.toNat (j + 1) t) v gn f37_ rfl rfl (by omega) ?_
            refine n_as (v' := (Nv (((wordT m.mod.toNat (j + 1) t).getD v 0).toNat))) (nm_int (by have hwj := isW_get hW.1 (show v < (wordT m.mod.toNat (j + 1) t).length by assumption); omega)) ?_
            refine o_as (Nv (((wordT m.mod.toNat (j + 1) t).getD v 0).toNat)) rfl (aops_end (hK40 _ ?_))
            refine awp_wk (σ' := ⟨[(2, .ref 8006 0), (4, .ref 8007 0), (5, .ref 8008 0), (6, .clo 50 [.ref 8006 0, .ref 8008 0]), (14, .row 8003), (15, Nv ((wordT m.mod.toNat (j + 1) t).length)), (16, Nv v), (17, bp (v < ((wordT m.mod.toNat (j + 1) t).length))), (18, .ref 8003 v), (19, Nv (((wordT m.mod.toNat (j + 1) t).getD v 0).toNat)), (8, Nv (((wordT m.mod.toNat (j + 1) t).getD v 0).toNat))], [(9015, .pin [.row 8003, mapV m, mapV m, .row 8003, .ref 8004 0, .ref 8005 0] us6), (8005, .var 52 [Fv, Zv, Fv, Zv]), (8004, oM 24 m), (9014, .pin [.row 8003, mapV m, .row 8003, Iv k, .ref 2 0, .row 50, .ref 20 0, .ref 201 0, .clo 40 [.ref 8001 0, .ref 8002 0], .row 8003, .row 8003, bp (firstP (wordT m.mod.toNat (j + 1) t)), bp (¬ (firstP (wordT m.mod.toNat (j + 1) t)))] us5), (9001, .blk (.loop (lrec fn tmps ps' as' bo' D .busy none))), (9005, .pin [.lit (.func (.yield l) #[] #[]), .row 8003, .lit (.func (.yield l) #[] #[]), .ref 8001 0, .ref 8002 0, .row 8003] us), (9002, .blk (.deferred (some []))), (9003, pinA [(1, Iv k), (2, .ref 2 0), (8, .row 50), (9, .ref 20 0), (10, .ref 201 0), (48, .clo 40 [.ref 8001 0, .ref 8002 0])] tmps), (9004, pinL l D), (8001, .var 3 [Nv (j + 1)]), (8002, oM 24 m), (2, oM 24 m), (20, .var 3 [Nv (j + 1)]), (201, .var 57 [.row 61]), (50, .row 43 1 (gcells cP (cyU m j))), (8003, .row 3 1 (is .i64 (wordT m.mod.toNat (j + 1) t))), (61, .row 62 1 (gcells cV (lsT m (j + 1) t))), (8006, oM 24 m), (8007, .var 69 [Fv, Zv, Fv, Zv, Fv, Zv]), (8008, .var 69 [Bv (ln.mul), Dv (ln.mul), Bv (ln.add), Dv (ln.add), Bv (ln.div), Dv (ln.div)])]⟩) (Wk.sub ⟨rfl, rfl, rfl, rfl, rfl, rfl, rfl, rfl, rfl, rfl, rfl, trivial⟩ ⟨rfl, rfl, rfl, rfl, rfl, rfl, rfl, rfl, rfl, rfl, rfl, rfl, rfl, rfl, rfl, rfl, rfl, rfl, rfl, rfl, trivial⟩) ?_
            refine awp_regionSK 2 22 _ 50 [.ref 8006 0, .ref 8008 0] _ _ _ _ _ [Nv (((wordT m.mod.toNat (j + 1) t).getD v 0).toNat), .ref 8006 0, .ref 8008 0] (linW (thenZ m ln ((wordT m.mod.toNat (j + 1) t).getD v 0))) [(9015, .pin [.row 8003, mapV m, mapV m, .row 8003, .ref 8004 0, .ref 8005 0] us6), (8005, .var 52 [Fv, Zv, Fv, Zv]), (8004, oM 24 m), (9014, .pin [.row 8003, mapV m, .row 8003, Iv k, .ref 2 0, .row 50, .ref 20 0, .ref 201 0, .clo 40 [.ref 8001 0, .ref 8002 0], .row 8003, .row 8003, bp (firstP (wordT m.mod.toNat (j + 1) t)), bp (¬ (firstP (wordT m.mod.toNat (j + 1) t)))] us5), (9001, .blk (.loop (lrec fn tmps ps' as' bo' D .busy none))), (9005, .pin [.lit (.func (.yield l) #[] #[]), .row 8003, .lit (.func (.yield l) #[] #[]), .ref 8001 0, .ref 8002 0, .row 8003] us), (9002, .blk (.deferred (some []))), (9003, pinA [(1, Iv k), (2, .ref 2 0), (8, .row 50), (9, .ref 20 0), (10, .ref 201 0), (48, .clo 40 [.ref 8001 0, .ref 8002 0])] tmps), (9004, pinL l D), (8001, .var 3 [Nv (j + 1)]), (8002, oM 24 m), (2, oM 24 m), (20, .var 3 [Nv (j + 1)]), (201, .var 57 [.row 61]), (50, .row 43 1 (gcells cP (cyU m j))), (8003, .row 3 1 (is .i64 (wordT m.mod.toNat (j + 1) t))), (61, .row 62 1 (gcells cV (lsT m (j + 1) t))), (8006, oM 24 m), (8007, .var 69 [Fv, Zv, Fv, Zv, Fv, Zv]), (8008, .var 69 [Bv (ln.mul), Dv (ln.mul), Bv (ln.add), Dv (ln.add), Bv (ln.div), Dv (ln.div)])] rfl rfl f59_ ?_
            refine o_mv (.clo 50 [.ref 8006 0, .ref 8008 0]) rfl (o_mv (Nv (((wordT m.mod.toNat (j + 1) t).getD v 0).toNat)) rfl ?_)
            refine aops_end ⟨rfl, rfl, ?sc8, ?_⟩
            case sc8 =>
             refine scalls_of_awpB 9017 Tryd.func50 (c := _) rfl (Nat.le_of_ble_eq_true rfl) rfl rfl rfl (fun us8 => ?_)
             show awp cx 37 _ (postS cx Tryd.f50 (linW (thenZ m ln ((wordT m.mod.toNat (j + 1) t).getD v 0))) [(9015, .pin [.row 8003, mapV m, mapV m, .row 8003, .ref 8004 0, .ref 8005 0] us6), (8005, .var 52 [Fv, Zv, Fv, Zv]), (8004, oM 24 m), (9014, .pin [.row 8003, mapV m, .row 8003, Iv k, .ref 2 0, .row 50, .ref 20 0, .ref 201 0, .clo 40 [.ref 8001 0, .ref 8002 0], .row 8003, .row 8003, bp (firstP (wordT m.mod.toNat (j + 1) t)), bp (¬ (firstP (wordT m.mod.toNat (j + 1) t)))] us5), (9001, .blk (.loop (lrec fn tmps ps' as' bo' D .busy none))), (9005, .pin [.lit (.func (.yield l) #[] #[]), .row 8003, .lit (.func (.yield l) #[] #[]), .ref 8001 0, .ref 8002 0, .row 8003] us), (9002, .blk (.deferred (some []))), (9003, pinA [(1, Iv k), (2, .ref 2 0), (8, .row 50), (9, .ref 20 0), (10, .ref 201 0), (48, .clo 40 [.ref 8001 0, .ref 8002 0])] tmps), (9004, pinL l D), (8001, .var 3 [Nv (j + 1)]), (8002, oM 24 m), (2, oM 24 m), (20, .var 3 [Nv (j + 1)]), (201, .var 57 [.row 61]), (50, .row 43 1 (gcells cP (cyU m j))), (8003, .row 3 1 (is .i64 (wordT m.mod.toNat (j + 1) t))), (61, .row 62 1 (gcells cV (lsT m (j + 1) t))), (8006, oM 24 m), (8007, .var 69 [Fv, Zv, Fv, Zv, Fv, Zv]), (8008, .var 69 [Bv (ln.mul), Dv (ln.mul), Bv (ln.add), Dv (ln.add), Bv (ln.div), Dv (ln.div)])] 9017 [Nv (((wordT m.mod.toNat (j + 1) t).getD v 0).toNat), .clo 50 [.ref 8006 0, .ref 8008 0], .ref 8006 0, .ref 8007 0, .ref 8008 0, .clo 50 [.ref 8006 0, .ref 8008 0], .row 8003, Nv ((wordT m.mod.toNat (j + 1) t).length), Nv v, bp (v < ((wordT m.mod.toNat (j + 1) t).length)), .ref 8003 v, Nv (((wordT m.mod.toNat (j + 1) t).getD v 0).toNat), Nv (((wordT m.mod.toNat (j + 1) t).getD v 0).toNat)] us8) ⟨[(0, Nv (((wordT m.mod.toNat (j + 1) t).getD v 0).toNat)), (1, .ref 8006 0), (2, .ref 8008 0)], [(9017, .pin [Nv (((wordT m.mod.toNat (j + 1) t).getD v 0).toNat), .clo 50 [.ref 8006 0, .ref 8008 0], .ref 8006 0, .ref 8007 0, .ref 8008 0, .clo 50 [.ref 8006 0, .ref 8008 0], .row 8003, Nv ((wordT m.mod.toNat (j + 1) t).length), Nv v, bp (v < ((wordT m.mod.toNat (j + 1) t).length)), .ref 8003 v, Nv (((wordT m.mod.toNat (j + 1) t).getD v 0).toNat), Nv (((wordT m.mod.toNat (j + 1) t).getD v 0).toNat)] us8), (9015, .pin [.row 8003, mapV m, mapV m, .row 8003, .ref 8004 0, .ref 8005 0] us6), (8005, .var 52 [Fv, Zv, Fv, Zv]), (8004, oM 24 m), (9014, .pin [.row 8003, mapV m, .row 8003, Iv k, .ref 2 0, .row 50, .ref 20 0, .ref 201 0, .clo 40 [.ref 8001 0, .ref 8002 0], .row 8003, .row 8003, bp (firstP (wordT m.mod.toNat (j + 1) t)), bp (¬ (firstP (wordT m.mod.toNat (j + 1) t)))] us5), (9001, .blk (.loop (lrec fn tmps ps' as' bo' D .busy none))), (9005, .pin [.lit (.func (.yield l) #[] #[]), .row 8003, .lit (.func (.yield l) #[] #[]), .ref 8001 0, .ref 8002 0, .row 8003] us), (9002, .blk (.deferred (some []))), (9003, pinA [(1, Iv k), (2, .ref 2 0), (8, .row 50), (9, .ref 20 0), (10, .ref 201 0), (48, .clo 40 [.ref 8001 0, .ref 8002 0])] tmps), (9004, pinL l D), (8001, .var 3 [Nv (j + 1)]), (8002, oM 24 m), (2, oM 24 m), (20, .var 3 [Nv (j + 1)]), (201, .var 57 [.row 61]), (50, .row 43 1 (gcells cP (cyU m j))), (8003, .row 3 1 (is .i64 (wordT m.mod.toNat (j + 1) t))), (61, .row 62 1 (gcells cV (lsT m (j + 1) t))), (8006, oM 24 m), (8007, .var 69 [Fv, Zv, Fv, Zv, Fv, Zv]), (8008, .var 69 [Bv (ln.mul), Dv (ln.mul), Bv (ln.add), Dv (ln.add), Bv (ln.div), Dv (ln.div)])]⟩
             have hwj := isW_get hW.1 (show v < (wordT m.mod.toNat (j + 1) t).length by assumption)
             have hor := o5 (((wordT m.mod.toNat (j + 1) t).getD v 0).toNat) (by omega)
             obtain ⟨J1, J2, J3⟩ := line_len hM ((wordT m.mod.toNat (j + 1) t).take v) (isW_take hW.1 v)
             have J4 : ((wordT m.mod.toNat (j + 1) t).take v).length ≤ 200 := by rw [List.length_take]; omega
             rw [← hl2] at J1 J2 J3
             have hq1 := small_len (z := ((m.mul).getD (((wordT m.mod.toNat (j + 1) t).getD v 0).toNat) 0)) (by omega)
             have ha1 := small_len (z := ((m.add).getD (((wordT m.mod.toNat (j + 1) t).getD v 0).toNat) 0)) (by omega)
             have hd1 := small_len (z := m.mod) (by omega)
             have hm1 := len_mulZ ln.mul ((m.mul).getD (((wordT m.mod.toNat (j + 1) t).getD v 0).toNat) 0)
             have hm2 := len_mulZ ln.add ((m.mul).getD (((wordT m.mod.toNat (j + 1) t).getD v 0).toNat) 0)
             have hm3 := len_mulZ ln.div ((m.add).getD (((wordT m.mod.toNat (j + 1) t).getD v 0).toNat) 0)
             refine awp_seq fun K41 hK41 => awp_region rfl ?_
             refine o_alloc 8009 [Fv, Zv, Fv, Zv, Fv, Zv] gn f56_ rfl rfl rfl ?_
             refine aops_end (hK41 _ (awp_seq fun K42 hK42 => awp_region rfl ?_))
             refine o_fieldRef 1 gn f38_ rfl rfl ?_
             refine o_loadS (Lv m.mul) gn f39_ rfl rfl rfl ?_
             refine o_mv (Nv (((wordT m.mod.toNat (j + 1) t).getD v 0).toNat)) rfl ?_
             refine i_index m.mul (((wordT m.mod.toNat (j + 1) t).getD v 0).toNat) gn f42_ rfl rfl (by omega) ?_
             refine i_loadI m.mul (((wordT m.mod.toNat (j + 1) t).getD v 0).toNat) gn f37_ rfl (by omega) ?_
             refine o_ct (c_wOf ((m.mul).getD (((wordT m.mod.toNat (j + 1) t).getD v 0).toNat) 0) (by first | decide | omega) (by first | decide | omega)) gn f25_ rfl ?_
             refine o_alloc 8010 [Fv, Zv] gn f5_ rfl rfl rfl ?_
             refine o_store [(8010, oZ 50 .u32 ((m.mul).getD (((wordT m.mod.toNat (j + 1) t).getD v 0).toNat) 0)), (8009, .var 69 [Fv, Zv, Fv, Zv, Fv, Zv]), (9017, .pin [Nv (((wordT m.mod.toNat (j + 1) t).getD v 0).toNat), .clo 50 [.ref 8006 0, .ref 8008 0], .ref 8006 0, .ref 8007 0, .ref 8008 0, .clo 50 [.ref 8006 0, .ref 8008 0], .row 8003, Nv ((wordT m.mod.toNat (j + 1) t).length), Nv v, bp (v < ((wordT m.mod.toNat (j + 1) t).length)), .ref 8003 v, Nv (((wordT m.mod.toNat (j + 1) t).getD v 0).toNat), Nv (((wordT m.mod.toNat (j + 1) t).getD v 0).toNat)] us8), (9015, .pin [.row 8003, mapV m, mapV m, .row 8003, .ref 8004 0, .ref 8005 0] us6), (8005, .var 52 [Fv, Zv, Fv, Zv]), (8004, oM 24 m), (9014, .pin [.row 8003, mapV m, .row 8003, Iv k, .ref 2 0, .row 50, .ref 20 0, .ref 201 0, .clo 40 [.ref 8001 0, .ref 8002 0], .row 8003, .row 8003, bp (firstP (wordT m.mod.toNat (j + 1) t)), bp (¬ (firstP (wordT m.mod.toNat (j + 1) t)))] us5), (9001, .blk (.loop (lrec fn tmps ps' as' bo' D .busy none))), (9005, .pin [.lit (.func (.yield l) #[] #[]), .row 8003, .lit (.func (.yield l) #[] #[]), .ref 8001 0, .ref 8002 0, .row 8003] us), (9002, .blk (.deferred (some []))), (9003, pinA [(1, Iv k), (2, .ref 2 0), (8, .row 50), (9, .ref 20 0), (10, .ref 201 0), (48, .clo 40 [.ref 8001 0, .ref 8002 0])] tmps), (9004, pinL l D), (8001, .var 3 [Nv (j + 1)]), (8002, oM 24 m), (2, oM 24 m), (20, .var 3 [Nv (j + 1)]), (201, .var 57 [.row 61]), (50, .row 43 1 (gcells cP (cyU m j))), (8003, .row 3 1 (is .i64 (wordT m.mod.toNat (j + 1) t))), (61, .row 62 1 (gcells cV (lsT m (j + 1) t))), (8006, oM 24 m), (8007, .var 69 [Fv, Zv, Fv, Zv, Fv, Zv]), (8008, .var 69 [Bv (ln.mul), Dv (ln.mul), Bv (ln.add), Dv (ln.add), Bv (ln.div), Dv (ln.div)])] gn f9_ rfl rfl rfl rfl rfl rfl ?_
             refine aops_end (hK42 _ (awp_seq fun K43 hK43 => awp_regionD rfl ?_))
             refine o_fieldRef 0 gn f60_ rfl rfl ?_
             refine o_loadA [Bv (ln.mul), Dv (ln.mul)] gn f10_ rfl rfl rfl rfl rfl ?_
             refine o_loadA [bp ((m.mul).getD (((wordT m.mod.toNat (j + 1) t).getD v 0).toNat) 0 < 0), .sl 1 (ns .u32 (digs ((m.mul).getD (((wordT m.mod.toNat (j + 1) t).getD v 0).toNat) 0).natAbs))] gn f10_ rfl rfl rfl rfl rfl ?_
             refine o_ct (c_wMul (ln.mul) ((m.mul).getD (((wordT m.mod.toNat (j + 1) t).getD v 0).toNat) 0) (by first | omega | assumption | (simp only [Int.natAbs_neg]; omega)) (by first | omega | assumption | (simp only [Int.natAbs_neg]; omega))) gn f44_ rfl ?_
             refine o_fieldRef 2 gn f61_ rfl rfl ?_
             refine o_loadA [Bv (ln.add), Dv (ln.add)] gn f10_ rfl rfl rfl rfl rfl ?_
             refine o_loadA [bp ((m.mul).getD (((wordT m.mod.toNat (j + 1) t).getD v 0).toNat) 0 < 0), .sl 1 (ns .u32 (digs ((m.mul).getD (((wordT m.mod.toNat (j + 1) t).getD v 0).toNat) 0).natAbs))] gn f10_ rfl rfl rfl rfl rfl ?_
             refine o_ct (c_wMul (ln.add) ((m.mul).getD (((wordT m.mod.toNat (j + 1) t).getD v 0).toNat) 0) (by first | omega | assumption | (simp only [Int.natAbs_neg]; omega)) (by first | omega | assumption | (simp only [Int.natAbs_neg]; omega))) gn f44_ rfl ?_
             refine o_fieldRef 4 gn f62_ rfl rfl ?_
             refine o_loadA [Bv (ln.div), Dv (ln.div)] gn f10_ rfl rfl rfl rfl rfl ?_
             refine o_fieldRef 2 gn f41_ rfl rfl ?_
             refine o_loadS (Lv m.add) gn f39_ rfl rfl rfl ?_
             refine o_mv (Nv (((wordT m.mod.toNat (j + 1) t).getD v 0).toNat)) rfl ?_
             refine i_index m.add (((wordT m.mod.toNat (j + 1) t).getD v 0).toNat) gn f42_ rfl rfl (by omega) ?_
             refine i_loadI m.add (((wordT m.mod.toNat (j + 1) t).getD v 0).toNat) gn f37_ rfl (by omega) ?_
             refine o_ct (c_wOf ((m.add).getD (((wordT m.mod.toNat (j + 1) t).getD v 0).toNat) 0) (by first | decide | omega) (by first | decide | omega)) gn f25_ rfl ?_
             refine o_ct (c_wMul (ln.div) ((m.add).getD (((wordT m.mod.toNat (j + 1) t).getD v 0).toNat) 0) (by first | omega | assumption | (simp only [Int.natAbs_neg]; omega)) (by first | omega | assumption | (simp only [Int.natAbs_neg]; omega))) gn f44_ rfl ?_
             refine o_ct (c_wAdd ((ln.add) * (m.mul).getD (((wordT m.mod.toNat (j + 1) t).getD v 0).toNat) 0) ((ln.div) * (m.add).getD (((wordT m.mod.toNat (j + 1) t).getD v 0).toNat) 0) (by first | omega | assumption | (simp only [Int.natAbs_neg]; omega)) (by first | omega | assumption | (simp only [Int.natAbs_neg]; omega))) gn f21_ rfl ?_
             refine o_fieldRef 4 gn f62_ rfl rfl ?_
             refine o_loadA [Bv (ln.div), Dv (ln.div)] gn f10_ rfl rfl rfl rfl rfl ?_
             refine o_fieldRef 0 gn f36_ rfl rfl ?_
             refine o_loadS (Iv m.mod) gn f37_ rfl rfl rfl ?_
             refine o_ct (c_wOf m.mod (by first | decide | omega) (by first | decide | omega)) gn f25_ rfl ?_
             refine o_ct (c_wMul (ln.div) m.mod (by first | omega | assumption | (simp only [Int.natAbs_neg]; omega)) (by first | omega | assumption | (simp only [Int.natAbs_neg]; omega))) gn f44_ rfl ?_
             refine o_build [bp (((ln.mul) * (m.mul).getD (((wordT m.mod.toNat (j + 1) t).getD v 0).toNat) 0) < 0), .sl 1 (ns .u32 (digs ((ln.mul) * (m.mul).getD (((wordT m.mod.toNat (j + 1) t).getD v 0).toNat) 0).natAbs)), bp ((((ln.add) * (m.mul).getD (((wordT m.mod.toNat (j + 1) t).getD v 0).toNat) 0) + ((ln.div) * (m.add).getD (((wordT m.mod.toNat (j + 1) t).getD v 0).toNat) 0)) < 0), .sl 1 (ns .u32 (digs (((ln.add) * (m.mul).getD (((wordT m.mod.toNat (j + 1) t).getD v 0).toNat) 0) + ((ln.div) * (m.add).getD (((wordT m.mod.toNat (j + 1) t).getD v 0).toNat) 0)).natAbs)), bp (((ln.div) * m.mod) < 0), .sl 1 (ns .u32 (digs ((ln.div) * m.mod).natAbs))] [(0, [bp (((ln.mul) * (m.mul).getD (((wordT m.mod.toNat (j + 1) t).getD v 0).toNat) 0) < 0), .sl 1 (ns .u32 (digs ((ln.mul) * (m.mul).getD (((wordT m.mod.toNat (j + 1) t).getD v 0).toNat) 0).natAbs))]), (1, [bp ((((ln.add) * (m.mul).getD (((wordT m.mod.toNat (j + 1) t).getD v 0).toNat) 0) + ((ln.div) * (m.add).getD (((wordT m.mod.toNat (j + 1) t).getD v 0).toNat) 0)) < 0), .sl 1 (ns .u32 (digs (((ln.add) * (m.mul).getD (((wordT m.mod.toNat (j + 1) t).getD v 0).toNat) 0) + ((ln.div) * (m.add).getD (((wordT m.mod.toNat (j + 1) t).getD v 0).toNat) 0)).natAbs))]), (2, [bp (((ln.div) * m.mod) < 0), .sl 1 (ns .u32 (digs ((ln.div) * m.mod).natAbs))])] gn f57_ f56_ rfl rfl rfl ?_
             refine o_store [(8010, oZ 50 .u32 ((m.mul).getD (((wordT m.mod.toNat (j + 1) t).getD v 0).toNat) 0)), (8009, .var 69 [bp (((ln.mul) * (m.mul).getD (((wordT m.mod.toNat (j + 1) t).getD v 0).toNat) 0) < 0), .sl 1 (ns .u32 (digs ((ln.mul) * (m.mul).getD (((wordT m.mod.toNat (j + 1) t).getD v 0).toNat) 0).natAbs)), bp ((((ln.add) * (m.mul).getD (((wordT m.mod.toNat (j + 1) t).getD v 0).toNat) 0) + ((ln.div) * (m.add).getD (((wordT m.mod.toNat (j + 1) t).getD v 0).toNat) 0)) < 0), .sl 1 (ns .u32 (digs (((ln.add) * (m.mul).getD (((wordT m.mod.toNat (j + 1) t).getD v 0).toNat) 0) + ((ln.div) * (m.add).getD (((wordT m.mod.toNat (j + 1) t).getD v 0).toNat) 0)).natAbs)), bp (((ln.div) * m.mod) < 0), .sl 1 (ns .u32 (digs ((ln.div) * m.mod).natAbs))]), (9017, .pin [Nv (((wordT m.mod.toNat (j + 1) t).getD v 0).toNat), .clo 50 [.ref 8006 0, .ref 8008 0], .ref 8006 0, .ref 8007 0, .ref 8008 0, .clo 50 [.ref 8006 0, .ref 8008 0], .row 8003, Nv ((wordT m.mod.toNat (j + 1) t).length), Nv v, bp (v < ((wordT m.mod.toNat (j + 1) t).length)), .ref 8003 v, Nv (((wordT m.mod.toNat (j + 1) t).getD v 0).toNat), Nv (((wordT m.mod.toNat (j + 1) t).getD v 0).toNat)] us8), (9015, .pin [.row 8003, mapV m, mapV m, .row 8003, .ref 8004 0, .ref 8005 0] us6), (8005, .var 52 [Fv, Zv, Fv, Zv]), (8004, oM 24 m), (9014, .pin [.row 8003, mapV m, .row 8003, Iv k, .ref 2 0, .row 50, .ref 20 0, .ref 201 0, .clo 40 [.ref 8001 0, .ref 8002 0], .row 8003, .row 8003, bp (firstP (wordT m.mod.toNat (j + 1) t)), bp (¬ (firstP (wordT m.mod.toNat (j + 1) t)))] us5), (9001, .blk (.loop (lrec fn tmps ps' as' bo' D .busy none))), (9005, .pin [.lit (.func (.yield l) #[] #[]), .row 8003, .lit (.func (.yield l) #[] #[]), .ref 8001 0, .ref 8002 0, .row 8003] us), (9002, .blk (.deferred (some []))), (9003, pinA [(1, Iv k), (2, .ref 2 0), (8, .row 50), (9, .ref 20 0), (10, .ref 201 0), (48, .clo 40 [.ref 8001 0, .ref 8002 0])] tmps), (9004, pinL l D), (8001, .var 3 [Nv (j + 1)]), (8002, oM 24 m), (2, oM 24 m), (20, .var 3 [Nv (j + 1)]), (201, .var 57 [.row 61]), (50, .row 43 1 (gcells cP (cyU m j))), (8003, .row 3 1 (is .i64 (wordT m.mod.toNat (j + 1) t))), (61, .row 62 1 (gcells cV (lsT m (j + 1) t))), (8006, oM 24 m), (8007, .var 69 [Fv, Zv, Fv, Zv, Fv, Zv]), (8008, .var 69 [Bv (ln.mul), Dv (ln.mul), Bv (ln.add), Dv (ln.add), Bv (ln.div), Dv (ln.div)])] gn f58_ rfl rfl rfl rfl rfl rfl ?_
             refine aops_end ⟨by kernel_rfl, ?_⟩
             refine hK43 _ ?_
             refine awp_wk (σ' := ⟨[(4, .ref 8009 0)], [(9017, .pin [Nv (((wordT m.mod.toNat (j + 1) t).getD v 0).toNat), .clo 50 [.ref 8006 0, .ref 8008 0], .ref 8006 0, .ref 8007 0, .ref 8008 0, .clo 50 [.ref 8006 0, .ref 8008 0], .row 8003, Nv ((wordT m.mod.toNat (j + 1) t).length), Nv v, bp (v < ((wordT m.mod.toNat (j + 1) t).length)), .ref 8003 v, Nv (((wordT m.mod.toNat (j + 1) t).getD v 0).toNat), Nv (((wordT m.mod.toNat (j + 1) t).getD v 0).toNat)] us8), (9015, .pin [.row 8003, mapV m, mapV m, .row 8003, .ref 8004 0, .ref 8005 0] us6), (8005, .var 52 [Fv, Zv, Fv, Zv]), (8004, oM 24 m), (9014, .pin [.row 8003, mapV m, .row 8003, Iv k, .ref 2 0, .row 50, .ref 20 0, .ref 201 0, .clo 40 [.ref 8001 0, .ref 8002 0], .row 8003, .row 8003, bp (firstP (wordT m.mod.toNat (j + 1) t)), bp (¬ (firstP (wordT m.mod.toNat (j + 1) t)))] us5), (9001, .blk (.loop (lrec fn tmps ps' as' bo' D .busy none))), (9005, .pin [.lit (.func (.yield l) #[] #[]), .row 8003, .lit (.func (.yield l) #[] #[]), .ref 8001 0, .ref 8002 0, .row 8003] us), (9002, .blk (.deferred (some []))), (9003, pinA [(1, Iv k), (2, .ref 2 0), (8, .row 50), (9, .ref 20 0), (10, .ref 201 0), (48, .clo 40 [.ref 8001 0, .ref 8002 0])] tmps), (9004, pinL l D), (8001, .var 3 [Nv (j + 1)]), (8002, oM 24 m), (2, oM 24 m), (20, .var 3 [Nv (j + 1)]), (201, .var 57 [.row 61]), (50, .row 43 1 (gcells cP (cyU m j))), (8003, .row 3 1 (is .i64 (wordT m.mod.toNat (j + 1) t))), (61, .row 62 1 (gcells cV (lsT m (j + 1) t))), (8006, oM 24 m), (8007, .var 69 [Fv, Zv, Fv, Zv, Fv, Zv]), (8008, .var 69 [Bv (ln.mul), Dv (ln.mul), Bv (ln.add), Dv (ln.add), Bv (ln.div), Dv (ln.div)]), (8009, .var 69 [bp (((ln.mul) * (m.mul).getD (((wordT m.mod.toNat (j + 1) t).getD v 0).toNat) 0) < 0), .sl 1 (ns .u32 (digs ((ln.mul) * (m.mul).getD (((wordT m.mod.toNat (j + 1) t).getD v 0).toNat) 0).natAbs)), bp ((((ln.add) * (m.mul).getD (((wordT m.mod.toNat (j + 1) t).getD v 0).toNat) 0) + ((ln.div) * (m.add).getD (((wordT m.mod.toNat (j + 1) t).getD v 0).toNat) 0)) < 0), .sl 1 (ns .u32 (digs (((ln.add) * (m.mul).getD (((wordT m.mod.toNat (j + 1) t).getD v 0).toNat) 0) + ((ln.div) * (m.add).getD (((wordT m.mod.toNat (j + 1) t).getD v 0).toNat) 0)).natAbs)), bp (((ln.div) * m.mod) < 0), .sl 1 (ns .u32 (digs ((ln.div) * m.mod).natAbs))])]⟩) (Wk.sub ⟨rfl, trivial⟩ ⟨rfl, rfl, rfl, rfl, rfl, rfl, rfl, rfl, rfl, rfl, rfl, rfl, rfl, rfl, rfl, rfl, rfl, rfl, rfl, rfl, rfl, rfl, trivial⟩) ?_
             refine awp_ret ?_
             try dsimp only [thenK, inBlk]
             refine postS_ret (extra := [(8009, .var 69 [bp (((ln.mul) * (m.mul).getD (((wordT m.mod.toNat (j + 1) t).getD v 0).toNat) 0) < 0), .sl 1 (ns .u32 (digs ((ln.mul) * (m.mul).getD (((wordT m.mod.toNat (j + 1) t).getD v 0).toNat) 0).natAbs)), bp ((((ln.add) * (m.mul).getD (((wordT m.mod.toNat (j + 1) t).getD v 0).toNat) 0) + ((ln.div) * (m.add).getD (((wordT m.mod.toNat (j + 1) t).getD v 0).toNat) 0)) < 0), .sl 1 (ns .u32 (digs (((ln.add) * (m.mul).getD (((wordT m.mod.toNat (j + 1) t).getD v 0).toNat) 0) + ((ln.div) * (m.add).getD (((wordT m.mod.toNat (j + 1) t).getD v 0).toNat) 0)).natAbs)), bp (((ln.div) * m.mod) < 0), .sl 1 (ns .u32 (digs ((ln.div) * m.mod).natAbs))])]) ?_ rfl
             refine ⟨[.agg [bp (((ln.mul) * (m.mul).getD (((wordT m.mod.toNat (j + 1) t).getD v 0).toNat) 0) < 0), .sl 1 (ns .u32 (digs ((ln.mul) * (m.mul).getD (((wordT m.mod.toNat (j + 1) t).getD v 0).toNat) 0).natAbs)), bp ((((ln.add) * (m.mul).getD (((wordT m.mod.toNat (j + 1) t).getD v 0).toNat) 0) + ((ln.div) * (m.add).getD (((wordT m.mod.toNat (j + 1) t).getD v 0).toNat) 0)) < 0), .sl 1 (ns .u32 (digs (((ln.add) * (m.mul).getD (((wordT m.mod.toNat (j + 1) t).getD v 0).toNat) 0) + ((ln.div) * (m.add).getD (((wordT m.mod.toNat (j + 1) t).getD v 0).toNat) 0)).natAbs)), bp (((ln.div) * m.mod) < 0), .sl 1 (ns .u32 (digs ((ln.div) * m.mod).natAbs))]], ⟨⟨8009, .var 69 [bp (((ln.mul) * (m.mul).getD (((wordT m.mod.toNat (j + 1) t).getD v 0).toNat) 0) < 0), .sl 1 (ns .u32 (digs ((ln.mul) * (m.mul).getD (((wordT m.mod.toNat (j + 1) t).getD v 0).toNat) 0).natAbs)), bp ((((ln.add) * (m.mul).getD (((wordT m.mod.toNat (j + 1) t).getD v 0).toNat) 0) + ((ln.div) * (m.add).getD (((wordT m.mod.toNat (j + 1) t).getD v 0).toNat) 0)) < 0), .sl 1 (ns .u32 (digs (((ln.add) * (m.mul).getD (((wordT m.mod.toNat (j + 1) t).getD v 0).toNat) 0) + ((ln.div) * (m.add).getD (((wordT m.mod.toNat (j + 1) t).getD v 0).toNat) 0)).natAbs)), bp (((ln.div) * m.mod) < 0), .sl 1 (ns .u32 (digs ((ln.div) * m.mod).natAbs))], rfl, rfl, rfl, Or.inl ⟨f63_, AV.le_refl _⟩⟩, trivial⟩, ?_⟩
             exact linK_eq (Int.mul_comm _ _) (congr (congrArg HAdd.hAdd (Int.mul_comm _ _)) (Int.mul_comm _ _)) rfl
            refine o_store [(9015, .pin [.row 8003, mapV m, mapV m, .row 8003, .ref 8004 0, .ref 8005 0] us6), (8005, .var 52 [Fv, Zv, Fv, Zv]), (8004, oM 24 m), (9014, .pin [.row 8003, mapV m, .row 8003, Iv k, .ref 2 0, .row 50, .ref 20 0, .ref 201 0, .clo 40 [.ref 8001 0, .ref 8002 0], .row 8003, .row 8003, bp (firstP (wordT m.mod.toNat (j + 1) t)), bp (¬ (firstP (wordT m.mod.toNat (j + 1) t)))] us5), (9001, .blk (.loop (lrec fn tmps ps' as' bo' D .busy none))), (9005, .pin [.lit (.func (.yield l) #[] #[]), .row 8003, .lit (.func (.yield l) #[] #[]), .ref 8001 0, .ref 8002 0, .row 8003] us), (9002, .blk (.deferred (some []))), (9003, pinA [(1, Iv k), (2, .ref 2 0), (8, .row 50), (9, .ref 20 0), (10, .ref 201 0), (48, .clo 40 [.ref 8001 0, .ref 8002 0])] tmps), (9004, pinL l D), (8001, .var 3 [Nv (j + 1)]), (8002, oM 24 m), (2, oM 24 m), (20, .var 3 [Nv (j + 1)]), (201, .var 57 [.row 61]), (50, .row 43 1 (gcells cP (cyU m j))), (8003, .row 3 1 (is .i64 (wordT m.mod.toNat (j + 1) t))), (61, .row 62 1 (gcells cV (lsT m (j + 1) t))), (8006, oM 24 m), (8007, .var 69 [Fv, Zv, Fv, Zv, Fv, Zv]), (8008, .var 69 [Bv ((thenZ m ln ((wordT m.mod.toNat (j + 1) t).getD v 0)).mul), Dv ((thenZ m ln ((wordT m.mod.toNat (j + 1) t).getD v 0)).mul), Bv ((thenZ m ln ((wordT m.mod.toNat (j + 1) t).getD v 0)).add), Dv ((thenZ m ln ((wordT m.mod.toNat (j + 1) t).getD v 0)).add), Bv ((thenZ m ln ((wordT m.mod.toNat (j + 1) t).getD v 0)).div), Dv ((thenZ m ln ((wordT m.mod.toNat (j + 1) t).getD v 0)).div)])] gn f58_ rfl rfl rfl rfl rfl rfl ?_
            refine aops_end (hK39 _ (awp_region rfl ?_))
            refine n_add v 1 gn rfl rfl (by simp only [topOf]; omega) ?_
            refine o_mv (Nv (v + 1)) rfl (aops_end ?_)
            refine ⟨_, _, ?lt, ⟨v + 1, thenZ m ln ((wordT m.mod.toNat (j + 1) t).getD v 0), (by omega), (by rw [hl2]; exact lineZ_next (by assumption)), rfl, rfl⟩, ?wk⟩
            case lt => omega
            case wk => exact Wk.sub ⟨rfl, rfl, rfl, rfl, rfl, rfl, (by first | rfl | exact nm_int (by omega)), trivial⟩ ⟨rfl, rfl, rfl, rfl, rfl, rfl, rfl, rfl, rfl, rfl, rfl, rfl, rfl, rfl, rfl, rfl, rfl, rfl, rfl, rfl, trivial⟩
           ·refine awp_exit ?_
            refine hK35 _ (awp_seq fun K44 hK44 => awp_region rfl ?_)
            refine o_loadA [Bv (ln.mul), Dv (ln.mul), Bv (ln.add), Dv (ln.add), Bv (ln.div), Dv (ln.div)] gn f63_ rfl rfl rfl rfl rfl ?_
            refine o_store [(9015, .pin [.row 8003, mapV m, mapV m, .row 8003, .ref 8004 0, .ref 8005 0] us6), (8005, .var 52 [Fv, Zv, Fv, Zv]), (8004, oM 24 m), (9014, .pin [.row 8003, mapV m, .row 8003, Iv k, .ref 2 0, .row 50, .ref 20 0, .ref 201 0, .clo 40 [.ref 8001 0, .ref 8002 0], .row 8003, .row 8003, bp (firstP (wordT m.mod.toNat (j + 1) t)), bp (¬ (firstP (wordT m.mod.toNat (j + 1) t)))] us5), (9001, .blk (.loop (lrec fn tmps ps' as' bo' D .busy none))), (9005, .pin [.lit (.func (.yield l) #[] #[]), .row 8003, .lit (.func (.yield l) #[] #[]), .ref 8001 0, .ref 8002 0, .row 8003] us), (9002, .blk (.deferred (some []))), (9003, pinA [(1, Iv k), (2, .ref 2 0), (8, .row 50), (9, .ref 20 0), (10, .ref 201 0), (48, .clo 40 [.ref 8001 0, .ref 8002 0])] tmps), (9004, pinL l D), (8001, .var 3 [Nv (j + 1)]), (8002, oM 24 m), (2, oM 24 m), (20, .var 3 [Nv (j + 1)]), (201, .var 57 [.row 61]), (50, .row 43 1 (gcells cP (cyU m j))), (8003, .row 3 1 (is .i64 (wordT m.mod.toNat (j + 1) t))), (61, .row 62 1 (gcells cV (lsT m (j + 1) t))), (8006, oM 24 m), (8007, .var 69 [Bv (ln.mul), Dv (ln.mul), Bv (ln.add), Dv (ln.add), Bv (ln.div), Dv (ln.div)]), (8008, .var 69 [Bv (ln.mul), Dv (ln.mul), Bv (ln.add), Dv (ln.add), Bv (ln.div), Dv (ln.div)])] gn f58_ rfl rfl rfl rfl rfl rfl ?_
            refine aops_end (hK44 _ ?_)
            refine awp_wk (σ' := ⟨[(4, .ref 8007 0)], [(9015, .pin [.row 8003, mapV m, mapV m, .row 8003, .ref 8004 0, .ref 8005 0] us6), (8005, .var 52 [Fv, Zv, Fv, Zv]), (8004, oM 24 m), (9014, .pin [.row 8003, mapV m, .row 8003, Iv k, .ref 2 0, .row 50, .ref 20 0, .ref 201 0, .clo 40 [.ref 8001 0, .ref 8002 0], .row 8003, .row 8003, bp (firstP (wordT m.mod.toNat (j + 1) t)), bp (¬ (firstP (wordT m.mod.toNat (j + 1) t)))] us5), (9001, .blk (.loop (lrec fn tmps ps' as' bo' D .busy none))), (9005, .pin [.lit (.func (.yield l) #[] #[]), .row 8003, .lit (.func (.yield l) #[] #[]), .ref 8001 0, .ref 8002 0, .row 8003] us), (9002, .blk (.deferred (some []))), (9003, pinA [(1, Iv k), (2, .ref 2 0), (8, .row 50), (9, .ref 20 0), (10, .ref 201 0), (48, .clo 40 [.ref 8001 0, .ref 8002 0])] tmps), (9004, pinL l D), (8001, .var 3 [Nv (j + 1)]), (8002, oM 24 m), (2, oM 24 m), (20, .var 3 [Nv (j + 1)]), (201, .var 57 [.row 61]), (50, .row 43 1 (gcells cP (cyU m j))), (8003, .row 3 1 (is .i64 (wordT m.mod.toNat (j + 1) t))), (61, .row 62 1 (gcells cV (lsT m (j + 1) t))), (8007, .var 69 [Bv (ln.mul), Dv (ln.mul), Bv (ln.add), Dv (ln.add), Bv (ln.div), Dv (ln.div)])]⟩) (Wk.sub ⟨rfl, trivial⟩ ⟨rfl, rfl, rfl, rfl, rfl, rfl, rfl, rfl, rfl, rfl, rfl, rfl, rfl, rfl, rfl, rfl, rfl, rfl, trivial⟩) ?_
            refine awp_ret ?_
            try dsimp only [thenK, inBlk]
            refine postS_ret (extra := [(8007, .var 69 [Bv (ln.mul), Dv (ln.mul), Bv (ln.add), Dv (ln.add), Bv (ln.div), Dv (ln.div)])]) ?_ rfl
            refine ⟨[.agg [Bv (ln.mul), Dv (ln.mul), Bv (ln.add), Dv (ln.add), Bv (ln.div), Dv (ln.div)]], ⟨⟨8007, .var 69 [Bv (ln.mul), Dv (ln.mul), Bv (ln.add), Dv (ln.add), Bv (ln.div), Dv (ln.div)], rfl, rfl, rfl, Or.inl ⟨f63_, AV.le_refl _⟩⟩, trivial⟩, ?_⟩
            have e9 : v = (wordT m.mod.toNat (j + 1) t).length := (by omega)
            exact congrArg linW (by rw [hl2, e9, List.take_length])
          refine o_alloc 8006 [Fv, Zv, Fv, Zv, Fv, Zv] gn f56_ rfl rfl rfl ?_
          refine o_store [(8006, .var 69 [Bv ((lineZ m (wordT m.mod.toNat (j + 1) t)).mul), Dv ((lineZ m (wordT m.mod.toNat (j + 1) t)).mul), Bv ((lineZ m (wordT m.mod.toNat (j + 1) t)).add), Dv ((lineZ m (wordT m.mod.toNat (j + 1) t)).add), Bv ((lineZ m (wordT m.mod.toNat (j + 1) t)).div), Dv ((lineZ m (wordT m.mod.toNat (j + 1) t)).div)]), (8005, .var 52 [Fv, Zv, Fv, Zv]), (8004, oM 24 m), (9014, .pin [.row 8003, mapV m, .row 8003, Iv k, .ref 2 0, .row 50, .ref 20 0, .ref 201 0, .clo 40 [.ref 8001 0, .ref 8002 0], .row 8003, .row 8003, bp (firstP (wordT m.mod.toNat (j + 1) t)), bp (¬ (firstP (wordT m.mod.toNat (j + 1) t)))] us5), (9001, .blk (.loop (lrec fn tmps ps' as' bo' D .busy none))), (9005, .pin [.lit (.func (.yield l) #[] #[]), .row 8003, .lit (.func (.yield l) #[] #[]), .ref 8001 0, .ref 8002 0, .row 8003] us), (9002, .blk (.deferred (some []))), (9003, pinA [(1, Iv k), (2, .ref 2 0), (8, .row 50), (9, .ref 20 0), (10, .ref 201 0), (48, .clo 40 [.ref 8001 0, .ref 8002 0])] tmps), (9004, pinL l D), (8001, .var 3 [Nv (j + 1)]), (8002, oM 24 m), (2, oM 24 m), (20, .var 3 [Nv (j + 1)]), (201, .var 57 [.row 61]), (50, .row 43 1 (gcells cP (cyU m j))), (8003, .row 3 1 (is .i64 (wordT m.mod.toNat (j + 1) t))), (61, .row 62 1 (gcells cV (lsT m (j + 1) t)))] gn f58_ rfl rfl rfl rfl rfl rfl ?_
          refine aops_end (hK31 _ (awp_seq fun K45 hK45 => awp_regionD rfl ?_))
          refine o_fieldRef 2 gn f61_ rfl rfl ?_
          refine o_loadA [Bv ((lineZ m (wordT m.mod.toNat (j + 1) t)).add), Dv ((lineZ m (wordT m.mod.toNat (j + 1) t)).add)] gn f10_ rfl rfl rfl rfl rfl ?_
          refine o_fieldRef 4 gn f62_ rfl rfl ?_
          refine o_loadA [Bv ((lineZ m (wordT m.mod.toNat (j + 1) t)).div), Dv ((lineZ m (wordT m.mod.toNat (j + 1) t)).div)] gn f10_ rfl rfl rfl rfl rfl ?_
          refine o_fieldRef 0 gn f60_ rfl rfl ?_
          refine o_loadA [Bv ((lineZ m (wordT m.mod.toNat (j + 1) t)).mul), Dv ((lineZ m (wordT m.mod.toNat (j + 1) t)).mul)] gn f10_ rfl rfl rfl rfl rfl ?_
          refine o_ct (c_wSub ((lineZ m (wordT m.mod.toNat (j + 1) t)).div) ((lineZ m (wordT m.mod.toNat (j + 1) t)).mul) (by first | omega | assumption | (simp only [Int.natAbs_neg]; omega)) (by first | omega | assumption | (simp only [Int.natAbs_neg]; omega))) gn f26_ rfl ?_
          refine o_ct (c_yRed ((lineZ m (wordT m.mod.toNat (j + 1) t)).add) (((lineZ m (wordT m.mod.toNat (j + 1) t)).div) - ((lineZ m (wordT m.mod.toNat (j + 1) t)).mul)) (by first | omega | assumption) (by first | omega | assumption) (by first | omega | assumption)) gn f77_ rfl ?_
          refine o_store [(8006, .var 69 [Bv ((lineZ m (wordT m.mod.toNat (j + 1) t)).mul), Dv ((lineZ m (wordT m.mod.toNat (j + 1) t)).mul), Bv ((lineZ m (wordT m.mod.toNat (j + 1) t)).add), Dv ((lineZ m (wordT m.mod.toNat (j + 1) t)).add), Bv ((lineZ m (wordT m.mod.toNat (j + 1) t)).div), Dv ((lineZ m (wordT m.mod.toNat (j + 1) t)).div)]), (8005, .var 52 [bp ((redZ ((lineZ m (wordT m.mod.toNat (j + 1) t)).add) (((lineZ m (wordT m.mod.toNat (j + 1) t)).div) - ((lineZ m (wordT m.mod.toNat (j + 1) t)).mul))).num < 0), .sl 1 (ns .u32 (digs ((redZ ((lineZ m (wordT m.mod.toNat (j + 1) t)).add) (((lineZ m (wordT m.mod.toNat (j + 1) t)).div) - ((lineZ m (wordT m.mod.toNat (j + 1) t)).mul))).num).natAbs)), bp ((redZ ((lineZ m (wordT m.mod.toNat (j + 1) t)).add) (((lineZ m (wordT m.mod.toNat (j + 1) t)).div) - ((lineZ m (wordT m.mod.toNat (j + 1) t)).mul))).den < 0), .sl 1 (ns .u32 (digs ((redZ ((lineZ m (wordT m.mod.toNat (j + 1) t)).add) (((lineZ m (wordT m.mod.toNat (j + 1) t)).div) - ((lineZ m (wordT m.mod.toNat (j + 1) t)).mul))).den).natAbs))]), (8004, oM 24 m), (9014, .pin [.row 8003, mapV m, .row 8003, Iv k, .ref 2 0, .row 50, .ref 20 0, .ref 201 0, .clo 40 [.ref 8001 0, .ref 8002 0], .row 8003, .row 8003, bp (firstP (wordT m.mod.toNat (j + 1) t)), bp (¬ (firstP (wordT m.mod.toNat (j + 1) t)))] us5), (9001, .blk (.loop (lrec fn tmps ps' as' bo' D .busy none))), (9005, .pin [.lit (.func (.yield l) #[] #[]), .row 8003, .lit (.func (.yield l) #[] #[]), .ref 8001 0, .ref 8002 0, .row 8003] us), (9002, .blk (.deferred (some []))), (9003, pinA [(1, Iv k), (2, .ref 2 0), (8, .row 50), (9, .ref 20 0), (10, .ref 201 0), (48, .clo 40 [.ref 8001 0, .ref 8002 0])] tmps), (9004, pinL l D), (8001, .var 3 [Nv (j + 1)]), (8002, oM 24 m), (2, oM 24 m), (20, .var 3 [Nv (j + 1)]), (201, .var 57 [.row 61]), (50, .row 43 1 (gcells cP (cyU m j))), (8003, .row 3 1 (is .i64 (wordT m.mod.toNat (j + 1) t))), (61, .row 62 1 (gcells cV (lsT m (j + 1) t)))] gn f67_ rfl rfl rfl rfl rfl rfl ?_
          refine aops_end ⟨by kernel_rfl, ?_⟩
          refine hK45 _ ?_
          refine awp_wk (σ' := ⟨[(4, .ref 8005 0)], [(9014, .pin [.row 8003, mapV m, .row 8003, Iv k, .ref 2 0, .row 50, .ref 20 0, .ref 201 0, .clo 40 [.ref 8001 0, .ref 8002 0], .row 8003, .row 8003, bp (firstP (wordT m.mod.toNat (j + 1) t)), bp (¬ (firstP (wordT m.mod.toNat (j + 1) t)))] us5), (9001, .blk (.loop (lrec fn tmps ps' as' bo' D .busy none))), (9005, .pin [.lit (.func (.yield l) #[] #[]), .row 8003, .lit (.func (.yield l) #[] #[]), .ref 8001 0, .ref 8002 0, .row 8003] us), (9002, .blk (.deferred (some []))), (9003, pinA [(1, Iv k), (2, .ref 2 0), (8, .row 50), (9, .ref 20 0), (10, .ref 201 0), (48, .clo 40 [.ref 8001 0, .ref 8002 0])] tmps), (9004, pinL l D), (8001, .var 3 [Nv (j + 1)]), (8002, oM 24 m), (2, oM 24 m), (20, .var 3 [Nv (j + 1)]), (201, .var 57 [.row 61]), (50, .row 43 1 (gcells cP (cyU m j))), (8003, .row 3 1 (is .i64 (wordT m.mod.toNat (j + 1) t))), (61, .row 62 1 (gcells cV (lsT m (j + 1) t))), (8005, .var 52 [bp ((redZ ((lineZ m (wordT m.mod.toNat (j + 1) t)).add) (((lineZ m (wordT m.mod.toNat (j + 1) t)).div) - ((lineZ m (wordT m.mod.toNat (j + 1) t)).mul))).num < 0), .sl 1 (ns .u32 (digs ((redZ ((lineZ m (wordT m.mod.toNat (j + 1) t)).add) (((lineZ m (wordT m.mod.toNat (j + 1) t)).div) - ((lineZ m (wordT m.mod.toNat (j + 1) t)).mul))).num).natAbs)), bp ((redZ ((lineZ m (wordT m.mod.toNat (j + 1) t)).add) (((lineZ m (wordT m.mod.toNat (j + 1) t)).div) - ((lineZ m (wordT m.mod.toNat (j + 1) t)).mul))).den < 0), .sl 1 (ns .u32 (digs ((redZ ((lineZ m (wordT m.mod.toNat (j + 1) t)).add) (((lineZ m (wordT m.mod.toNat (j + 1) t)).div) - ((lineZ m (wordT m.mod.toNat (j + 1) t)).mul))).den).natAbs))])]⟩) (Wk.sub ⟨rfl, trivial⟩ ⟨rfl, rfl, rfl, rfl, rfl, rfl, rfl, rfl, rfl, rfl, rfl, rfl, rfl, rfl, rfl, trivial⟩) ?_
          refine awp_ret ?_
          try dsimp only [thenK, inBlk]
          refine postS_ret (extra := [(8005, .var 52 [bp ((redZ ((lineZ m (wordT m.mod.toNat (j + 1) t)).add) (((lineZ m (wordT m.mod.toNat (j + 1) t)).div) - ((lineZ m (wordT m.mod.toNat (j + 1) t)).mul))).num < 0), .sl 1 (ns .u32 (digs ((redZ ((lineZ m (wordT m.mod.toNat (j + 1) t)).add) (((lineZ m (wordT m.mod.toNat (j + 1) t)).div) - ((lineZ m (wordT m.mod.toNat (j + 1) t)).mul))).num).natAbs)), bp ((redZ ((lineZ m (wordT m.mod.toNat (j + 1) t)).add) (((lineZ m (wordT m.mod.toNat (j + 1) t)).div) - ((lineZ m (wordT m.mod.toNat (j + 1) t)).mul))).den < 0), .sl 1 (ns .u32 (digs ((redZ ((lineZ m (wordT m.mod.toNat (j + 1) t)).add) (((lineZ m (wordT m.mod.toNat (j + 1) t)).div) - ((lineZ m (wordT m.mod.toNat (j + 1) t)).mul))).den).natAbs))])]) ?_ rfl
          refine ⟨[.agg [bp ((redZ ((lineZ m (wordT m.mod.toNat (j + 1) t)).add) (((lineZ m (wordT m.mod.toNat (j + 1) t)).div) - ((lineZ m (wordT m.mod.toNat (j + 1) t)).mul))).num < 0), .sl 1 (ns .u32 (digs ((redZ ((lineZ m (wordT m.mod.toNat (j + 1) t)).add) (((lineZ m (wordT m.mod.toNat (j + 1) t)).div) - ((lineZ m (wordT m.mod.toNat (j + 1) t)).mul))).num).natAbs)), bp ((redZ ((lineZ m (wordT m.mod.toNat (j + 1) t)).add) (((lineZ m (wordT m.mod.toNat (j + 1) t)).div) - ((lineZ m (wordT m.mod.toNat (j + 1) t)).mul))).den < 0), .sl 1 (ns .u32 (digs ((redZ ((lineZ m (wordT m.mod.toNat (j + 1) t)).add) (((lineZ m (wordT m.mod.toNat (j + 1) t)).div) - ((lineZ m (wordT m.mod.toNat (j + 1) t)).mul))).den).natAbs))]], ⟨⟨8005, .var 52 [bp ((redZ ((lineZ m (wordT m.mod.toNat (j + 1) t)).add) (((lineZ m (wordT m.mod.toNat (j + 1) t)).div) - ((lineZ m (wordT m.mod.toNat (j + 1) t)).mul))).num < 0), .sl 1 (ns .u32 (digs ((redZ ((lineZ m (wordT m.mod.toNat (j + 1) t)).add) (((lineZ m (wordT m.mod.toNat (j + 1) t)).div) - ((lineZ m (wordT m.mod.toNat (j + 1) t)).mul))).num).natAbs)), bp ((redZ ((lineZ m (wordT m.mod.toNat (j + 1) t)).add) (((lineZ m (wordT m.mod.toNat (j + 1) t)).div) - ((lineZ m (wordT m.mod.toNat (j + 1) t)).mul))).den < 0), .sl 1 (ns .u32 (digs ((redZ ((lineZ m (wordT m.mod.toNat (j + 1) t)).add) (((lineZ m (wordT m.mod.toNat (j + 1) t)).div) - ((lineZ m (wordT m.mod.toNat (j + 1) t)).mul))).den).natAbs))], rfl, rfl, rfl, Or.inl ⟨f68_, AV.le_refl _⟩⟩, trivial⟩, ?_⟩
          rfl
         refine o_alloc 8004 [Fv, Zv, Fv, Zv] gn f64_ rfl rfl rfl ?_
         refine o_store [(8004, .var 52 [bp ((fixZ m (wordT m.mod.toNat (j + 1) t)).num < 0), .sl 1 (ns .u32 (digs ((fixZ m (wordT m.mod.toNat (j + 1) t)).num).natAbs)), bp ((fixZ m (wordT m.mod.toNat (j + 1) t)).den < 0), .sl 1 (ns .u32 (digs ((fixZ m (wordT m.mod.toNat (j + 1) t)).den).natAbs))]), (9001, .blk (.loop (lrec fn tmps ps' as' bo' D .busy none))), (9005, .pin [.lit (.func (.yield l) #[] #[]), .row 8003, .lit (.func (.yield l) #[] #[]), .ref 8001 0, .ref 8002 0, .row 8003] us), (9002, .blk (.deferred (some []))), (9003, pinA [(1, Iv k), (2, .ref 2 0), (8, .row 50), (9, .ref 20 0), (10, .ref 201 0), (48, .clo 40 [.ref 8001 0, .ref 8002 0])] tmps), (9004, pinL l D), (8001, .var 3 [Nv (j + 1)]), (8002, oM 24 m), (2, oM 24 m), (20, .var 3 [Nv (j + 1)]), (201, .var 57 [.row 61]), (50, .row 43 1 (gcells cP (cyU m j))), (8003, .row 3 1 (is .i64 (wordT m.mod.toNat (j + 1) t))), (61, .row 62 1 (gcells cV (lsT m (j + 1) t)))] gn f67_ rfl rfl rfl rfl rfl rfl ?_
         refine aops_end (hK29 _ (awp_seq fun K46 hK46 => awp_regionD rfl ?_))
         refine o_fieldRef 2 gn f72_ rfl rfl ?_
         refine o_loadA [bp ((fixZ m (wordT m.mod.toNat (j + 1) t)).den < 0), .sl 1 (ns .u32 (digs ((fixZ m (wordT m.mod.toNat (j + 1) t)).den).natAbs))] gn f10_ rfl rfl rfl rfl rfl ?_
         refine o_ct (c_wOf (1 : Int) (by first | decide | omega) (by first | decide | omega)) gn f25_ rfl ?_
         refine o_ct (c_wCmp ((fixZ m (wordT m.mod.toNat (j + 1) t)).den) (1 : Int)) gn f93_ rfl ?_
         refine o_eql (a := (cmpZ ((fixZ m (wordT m.mod.toNat (j + 1) t)).den) (1 : Int))) (c := ((0 : Nat) : Int)) gn rfl rfl ?_
         refine aops_end ⟨by kernel_rfl, ?_⟩
         refine hK46 _ ?_
         refine awp_condQ (q := (cmpZ ((fixZ m (wordT m.mod.toNat (j + 1) t)).den) (1 : Int)) = ((0 : Nat) : Int)) rfl (fun h9 => ?_) (fun h9 => ?_)
         ·refine awp_regionD rfl ?_
          refine o_loadS (.row 61) gn f100_ rfl rfl rfl ?_
          refine o_loadA [Iv m.mod, Lv m.mul, Lv m.add] gn f49_ rfl rfl rfl rfl rfl ?_
          refine o_fieldRef 0 gn f70_ rfl rfl ?_
          refine o_loadA [bp ((fixZ m (wordT m.mod.toNat (j + 1) t)).num < 0), .sl 1 (ns .u32 (digs ((fixZ m (wordT m.mod.toNat (j + 1) t)).num).natAbs))] gn f10_ rfl rfl rfl rfl rfl ?_
          refine o_loadS (Nv (j + 1)) gn f37_ rfl rfl rfl ?_
          refine o_ct (c_loop m ((fixZ m (wordT m.mod.toNat (j + 1) t)).num) (j + 1) hM (by omega) (by omega) (by omega)) gn f101_ rfl ?_
          refine o_buildSlice 8005 (gcells cV ([cyc m ((fixZ m (wordT m.mod.toNat (j + 1) t)).num) (j + 1)])) [(0, [.sl 2 (gcells cW (cyc m ((fixZ m (wordT m.mod.toNat (j + 1) t)).num) (j + 1)))])] gn f102_ rfl f103_ rfl rfl rfl rfl rfl rfl rfl ?_
          refine g_append cV 8006 (lsT m (j + 1) t) ([cyc m ((fixZ m (wordT m.mod.toNat (j + 1) t)).num) (j + 1)]) [(8005, .row 62 1 (gcells cV ([cyc m ((fixZ m (wordT m.mod.toNat (j + 1) t)).num) (j + 1)]))), (8004, .var 52 [bp ((fixZ m (wordT m.mod.toNat (j + 1) t)).num < 0), .sl 1 (ns .u32 (digs ((fixZ m (wordT m.mod.toNat (j + 1) t)).num).natAbs)), bp ((fixZ m (wordT m.mod.toNat (j + 1) t)).den < 0), .sl 1 (ns .u32 (digs ((fixZ m (wordT m.mod.toNat (j + 1) t)).den).natAbs))]), (9001, .blk (.loop (lrec fn tmps ps' as' bo' D .busy none))), (9005, .pin [.lit (.func (.yield l) #[] #[]), .row 8003, .lit (.func (.yield l) #[] #[]), .ref 8001 0, .ref 8002 0, .row 8003] us), (9002, .blk (.deferred (some []))), (9003, pinA [(1, Iv k), (2, .ref 2 0), (8, .row 50), (9, .ref 20 0), (10, .ref 201 0), (48, .clo 40 [.ref 8001 0, .ref 8002 0])] tmps), (9004, pinL l D), (8001, .var 3 [Nv (j + 1)]), (8002, oM 24 m), (2, oM 24 m), (20, .var 3 [Nv (j + 1)]), (201, .var 57 [.row 61]), (50, .row 43 1 (gcells cP (cyU m j))), (8003, .row 3 1 (is .i64 (wordT m.mod.toNat (j + 1) t)))] cV_len rfl gn f102_ f103_ rfl rfl rfl rfl rfl (by simp only [List.length_append, List.length_cons, List.length_nil]; omega) (by simp only [List.length_append, List.length_cons, List.length_nil]; omega) rfl rfl ?_
          refine o_store [(8006, .row 62 1 (gcells cV ((lsT m (j + 1) t) ++ ([cyc m ((fixZ m (wordT m.mod.toNat (j + 1) t)).num) (j + 1)])))), (8005, .row 62 1 (gcells cV ([cyc m ((fixZ m (wordT m.mod.toNat (j + 1) t)).num) (j + 1)]))), (8004, .var 52 [bp ((fixZ m (wordT m.mod.toNat (j + 1) t)).num < 0), .sl 1 (ns .u32 (digs ((fixZ m (wordT m.mod.toNat (j + 1) t)).num).natAbs)), bp ((fixZ m (wordT m.mod.toNat (j + 1) t)).den < 0), .sl 1 (ns .u32 (digs ((fixZ m (wordT m.mod.toNat (j + 1) t)).den).natAbs))]), (9001, .blk (.loop (lrec fn tmps ps' as' bo' D .busy none))), (9005, .pin [.lit (.func (.yield l) #[] #[]), .row 8003, .lit (.func (.yield l) #[] #[]), .ref 8001 0, .ref 8002 0, .row 8003] us), (9002, .blk (.deferred (some []))), (9003, pinA [(1, Iv k), (2, .ref 2 0), (8, .row 50), (9, .ref 20 0), (10, .ref 201 0), (48, .clo 40 [.ref 8001 0, .ref 8002 0])] tmps), (9004, pinL l D), (8001, .var 3 [Nv (j + 1)]), (8002, oM 24 m), (2, oM 24 m), (20, .var 3 [Nv (j + 1)]), (201, .var 57 [.row 8006]), (50, .row 43 1 (gcells cP (cyU m j))), (8003, .row 3 1 (is .i64 (wordT m.mod.toNat (j + 1) t)))] gn f104_ rfl rfl rfl rfl rfl rfl ?_
          refine aops_end ⟨by kernel_rfl, ?_⟩
          exact ⟨[(9002, .blk (.deferred (some []))), (9003, pinA [(1, Iv k), (2, .ref 2 0), (8, .row 50), (9, .ref 20 0), (10, .ref 201 0), (48, .clo 40 [.ref 8001 0, .ref 8002 0])] tmps), (9004, pinL l D), (8001, .var 3 [Nv (j + 1)]), (8002, oM 24 m), (2, oM 24 m), (20, .var 3 [Nv (j + 1)]), (201, .var 57 [.row 61]), (50, .row 43 1 (gcells cP (cyU m j))), (8003, .row 3 1 (is .i64 (wordT m.mod.toNat (j + 1) t))), (61, .row 62 1 (gcells cV (lsT m (j + 1) (t + 1))))], Wk.trans (Wk.sub (σ' := ⟨[], [(9005, .pin [.lit (.func (.yield l) #[] #[]), .row 8003, .lit (.func (.yield l) #[] #[]), .ref 8001 0, .ref 8002 0, .row 8003] us), (9001, .blk (.loop (lrec fn tmps ps' as' bo' D .busy none))), (9002, .blk (.deferred (some []))), (9003, pinA [(1, Iv k), (2, .ref 2 0), (8, .row 50), (9, .ref 20 0), (10, .ref 201 0), (48, .clo 40 [.ref 8001 0, .ref 8002 0])] tmps), (9004, pinL l D), (8001, .var 3 [Nv (j + 1)]), (8002, oM 24 m), (2, oM 24 m), (20, .var 3 [Nv (j + 1)]), (201, .var 57 [.row 8006]), (8006, .row 62 1 (gcells cV ((lsT m (j + 1) t) ++ ([cyc m ((fixZ m (wordT m.mod.toNat (j + 1) t)).num) (j + 1)])))), (50, .row 43 1 (gcells cP (cyU m j))), (8003, .row 3 1 (is .i64 (wordT m.mod.toNat (j + 1) t)))]⟩) trivial ⟨rfl, rfl, rfl, rfl, rfl, rfl, rfl, rfl, rfl, rfl, rfl, rfl, rfl, trivial⟩) (Wk.trans (Wk.ren (id := 8006) (id' := 61) rfl) (Wk.sub trivial ⟨(by first | rfl | (first | exact row_gs' (lsT_y (Decidable.not_not.1 (by assumption)) (cmpZ_eq0.1 (by assumption))) | exact row_gs' (lsT_n (fun e => absurd e.1 (by assumption))) | exact row_gs' (lsT_n (fun e => absurd (cmpZ_eq0.2 e.2) (by assumption))) | exact row_gs' (out_s (by omega) (by rw [loo_len hlo]; omega)) | exact row_gs' (by rw [List.take_of_length_le (by omega)]; rfl) | exact row_gs' (by simp))), (by first | rfl | (first | exact row_gs' (lsT_y (Decidable.not_not.1 (by assumption)) (cmpZ_eq0.1 (by assumption))) | exact row_gs' (lsT_n (fun e => absurd e.1 (by assumption))) | exact row_gs' (lsT_n (fun e => absurd (cmpZ_eq0.2 e.2) (by assumption))) | exact row_gs' (out_s (by omega) (by rw [loo_len hlo]; omega)) | exact row_gs' (by rw [List.take_of_length_le (by omega)]; rfl) | exact row_gs' (by simp))), (by first | rfl | (first | exact row_gs' (lsT_y (Decidable.not_not.1 (by assumption)) (cmpZ_eq0.1 (by assumption))) | exact row_gs' (lsT_n (fun e => absurd e.1 (by assumption))) | exact row_gs' (lsT_n (fun e => absurd (cmpZ_eq0.2 e.2) (by assumption))) | exact row_gs' (out_s (by omega) (by rw [loo_len hlo]; omega)) | exact row_gs' (by rw [List.take_of_length_le (by omega)]; rfl) | exact row_gs' (by simp))), (by first | rfl | (first | exact row_gs' (lsT_y (Decidable.not_not.1 (by assumption)) (cmpZ_eq0.1 (by assumption))) | exact row_gs' (lsT_n (fun e => absurd e.1 (by assumption))) | exact row_gs' (lsT_n (fun e => absurd (cmpZ_eq0.2 e.2) (by assumption))) | exact row_gs' (out_s (by omega) (by rw [loo_len hlo]; omega)) | exact row_gs' (by rw [List.take_of_length_le (by omega)]; rfl) | exact row_gs' (by simp))), (by first | rfl | (first | exact row_gs' (lsT_y (Decidable.not_not.1 (by assumption)) (cmpZ_eq0.1 (by assumption))) | exact row_gs' (lsT_n (fun e => absurd e.1 (by assumption))) | exact row_gs' (lsT_n (fun e => absurd (cmpZ_eq0.2 e.2) (by assumption))) | exact row_gs' (out_s (by omega) (by rw [loo_len hlo]; omega)) | exact row_gs' (by rw [List.take_of_length_le (by omega)]; rfl) | exact row_gs' (by simp))), rfl, rfl, rfl, rfl, (by first | rfl | (first | exact row_gs' (lsT_y (Decidable.not_not.1 (by assumption)) (cmpZ_eq0.1 (by assumption))) | exact row_gs' (lsT_n (fun e => absurd e.1 (by assumption))) | exact row_gs' (lsT_n (fun e => absurd (cmpZ_eq0.2 e.2) (by assumption))) | exact row_gs' (out_s (by omega) (by rw [loo_len hlo]; omega)) | exact row_gs' (by rw [List.take_of_length_le (by omega)]; rfl) | exact row_gs' (by simp))), (by first | rfl | exact row_ns (by simp) | (first | exact row_gs' (lsT_y (Decidable.not_not.1 (by assumption)) (cmpZ_eq0.1 (by assumption))) | exact row_gs' (lsT_n (fun e => absurd e.1 (by assumption))) | exact row_gs' (lsT_n (fun e => absurd (cmpZ_eq0.2 e.2) (by assumption))) | exact row_gs' (out_s (by omega) (by rw [loo_len hlo]; omega)) | exact row_gs' (by rw [List.take_of_length_le (by omega)]; rfl) | exact row_gs' (by simp))), (by first | rfl | exact row_ns (by simp) | (first | exact row_gs' (lsT_y (Decidable.not_not.1 (by assumption)) (cmpZ_eq0.1 (by assumption))) | exact row_gs' (lsT_n (fun e => absurd e.1 (by assumption))) | exact row_gs' (lsT_n (fun e => absurd (cmpZ_eq0.2 e.2) (by assumption))) | exact row_gs' (out_s (by omega) (by rw [loo_len hlo]; omega)) | exact row_gs' (by rw [List.take_of_length_le (by omega)]; rfl) | exact row_gs' (by simp))), (by first | rfl | exact row_ns (by simp) | (first | exact row_gs' (lsT_y (Decidable.not_not.1 (by assumption)) (cmpZ_eq0.1 (by assumption))) | exact row_gs' (lsT_n (fun e => absurd e.1 (by assumption))) | exact row_gs' (lsT_n (fun e => absurd (cmpZ_eq0.2 e.2) (by assumption))) | exact row_gs' (out_s (by omega) (by rw [loo_len hlo]; omega)) | exact row_gs' (by rw [List.take_of_length_le (by omega)]; rfl) | exact row_gs' (by simp))), trivial⟩)), rfl, rfl, rfl⟩
         ·refine awp_skip ?_
          exact ⟨[(9002, .blk (.deferred (some []))), (9003, pinA [(1, Iv k), (2, .ref 2 0), (8, .row 50), (9, .ref 20 0), (10, .ref 201 0), (48, .clo 40 [.ref 8001 0, .ref 8002 0])] tmps), (9004, pinL l D), (8001, .var 3 [Nv (j + 1)]), (8002, oM 24 m), (2, oM 24 m), (20, .var 3 [Nv (j + 1)]), (201, .var 57 [.row 61]), (50, .row 43 1 (gcells cP (cyU m j))), (8003, .row 3 1 (is .i64 (wordT m.mod.toNat (j + 1) t))), (61, .row 62 1 (gcells cV (lsT m (j + 1) (t + 1))))], Wk.sub trivial ⟨rfl, rfl, rfl, rfl, rfl, rfl, rfl, rfl, rfl, rfl, rfl, rfl, (by first | rfl | exact row_ns (by simp) | (first | exact row_gs' (lsT_y (Decidable.not_not.1 (by assumption)) (cmpZ_eq0.1 (by assumption))) | exact row_gs' (lsT_n (fun e => absurd e.1 (by assumption))) | exact row_gs' (lsT_n (fun e => absurd (cmpZ_eq0.2 e.2) (by assumption))) | exact row_gs' (out_s (by omega) (by rw [loo_len hlo]; omega)) | exact row_gs' (by rw [List.take_of_length_le (by omega)]; rfl) | exact row_gs' (by simp))), trivial⟩, rfl, rfl, rfl⟩
       case aft4 =>
        rintro b σ2 (⟨rfl, m', rfl, rfl⟩ | ⟨_, _, _, _, hF⟩)
        ·refine o_not (b := true) gn rfl ?_
         refine aops_end (hK26 _ ?_)
         refine awp_condB (b := false) rfl (fun hh => absurd (hh.symm.trans rfl) (by decide)) (fun _ => ?_)
         refine awp_skip (hK25 _ (awp_seq fun K47 hK47 => awp_region rfl ?_))
         refine o_loadS (Nv (j + 1)) gn f37_ rfl rfl rfl ?_
         refine n_sub (j + 1) 1 gn rfl rfl (by omega) (by simp only [topOf]; omega) ?_
         refine o_as (Nv ((j + 1) - 1)) rfl (aops_end (hK47 _ (awp_seq fun K48 hK48 => ?_)))
         refine awp_block ?_
         refine awp_loopR (fun κ σ => ∃ (w : List Int), ∃ (q : Nat), (nextP m (j + 1) t w q) ∧ ((j + 1) - q) = κ ∧ σ = ⟨[(0, .lit (.func (.yield l) #[] #[])), (1, .ref 8001 0), (2, .ref 8002 0), (4, .row 8003), (5, (Iv ((((j + 1) : Nat) : Int) - 1 - ((q : Nat) : Int))))], [(9001, .blk (.loop (lrec fn tmps ps' as' bo' D .ready none))), (9002, .blk (.deferred (some []))), (9003, pinA [(1, Iv k), (2, .ref 2 0), (8, .row 50), (9, .ref 20 0), (10, .ref 201 0), (48, .clo 40 [.ref 8001 0, .ref 8002 0])] tmps), (9004, pinL l D), (8001, .var 3 [Nv (j + 1)]), (8002, oM 24 m), (2, oM 24 m), (20, .var 3 [Nv (j + 1)]), (201, .var 57 [.row 61]), (50, .row 43 1 (gcells cP (cyU m j))), (61, .row 62 1 (gcells cV (lsT m (j + 1) (t + 1)))), (8003, .row 3 1 (is .i64 w))]⟩) ⟨_, _, ⟨wordT m.mod.toNat (j + 1) t, 0, next_0 hM ht, rfl, rfl⟩, ?wk9⟩ ?rd9
         case wk9 =>
          exact Wk.sub ⟨rfl, rfl, rfl, rfl, (by first | rfl | exact int_eq (by omega) | exact int_nm (by omega)), trivial⟩ ⟨rfl, rfl, rfl, rfl, rfl, rfl, rfl, rfl, rfl, rfl, rfl, (by first | rfl | exact row_ns (by simp) | (first | exact row_is' (next_y hM hnx (by omega) (fun e => by omega)).1 | exact row_gs' (congrArg (lsT m (j + 1)) (next_tot hM hnx (by omega) ht)) | exact row_start _ _ _)), trivial⟩
         rintro κ _ ⟨w, q, hnx, rfl, rfl⟩
         have hwl := hnx.2.1
         have hq0 := hnx.2.2.1
         refine awp_seq fun K49 hK49 => awp_seq fun K50 hK50 => awp_regionD rfl (o_mv (Iv ((((j + 1) : Nat) : Int) - 1 - ((q : Nat) : Int))) rfl ?_)
         refine o_geq (a := ((((j + 1) : Nat) : Int) - 1 - ((q : Nat) : Int))) (c := ((0 : Nat) : Int)) gn rfl rfl ?_
         refine o_mv (bp (((0 : Nat) : Int) ≤ ((((j + 1) : Nat) : Int) - 1 - ((q : Nat) : Int)))) rfl ?_
         refine o_splitP (q := ((0 : Nat) : Int) ≤ ((((j + 1) : Nat) : Int) - 1 - ((q : Nat) : Int))) 16 rfl (fun h10 => ?_) (fun h10 => ?_)
         ·refine o_move (.row 8003) (Gd.yes rfl rfl (decide_eq_true h10)) rfl (o_move (Iv ((((j + 1) : Nat) : Int) - 1 - ((q : Nat) : Int))) (Gd.yes rfl rfl (decide_eq_true h10)) rfl ?_)
          refine n_as (v' := (Nv ((j + 1) - 1 - q))) (nm_int (by omega)) ?_
          refine i_indexRow w ((j + 1) - 1 - q) (Gd.yes rfl rfl (decide_eq_true h10)) f42_ rfl rfl rfl (by omega) ?_
          refine i_loadRow w ((j + 1) - 1 - q) (Gd.yes rfl rfl (decide_eq_true h10)) f37_ rfl rfl (by omega) ?_
          refine o_fieldRef 0 (Gd.yes rfl rfl (decide_eq_true h10)) f36_ rfl rfl ?_
          refine o_loadS (Iv m.mod) (Gd.yes rfl rfl (decide_eq_true h10)) f37_ rfl rfl rfl ?_
          refine o_sub (a := m.mod) (c := ((1 : Nat) : Int)) (Gd.yes rfl rfl (decide_eq_true h10)) rfl rfl (by exact wrap64 (by omega) (by omega)) ?_
          refine o_eql (a := (w.getD ((j + 1) - 1 - q) 0)) (c := (m.mod - ((1 : Nat) : Int))) (Gd.yes rfl rfl (decide_eq_true h10)) rfl rfl ?_
          refine o_pickT (bp ((w.getD ((j + 1) - 1 - q) 0) = (m.mod - ((1 : Nat) : Int)))) gn rfl (decide_eq_true h10) rfl ?_
          refine aops_end ⟨by kernel_rfl, ?_⟩
          refine hK50 _ ?_
          refine awp_condQ (q := (w.getD ((j + 1) - 1 - q) 0) = (m.mod - ((1 : Nat) : Int))) rfl (fun h11 => ?_) (fun h11 => ?_)
          ·refine awp_skip (hK49 _ ?_)
           refine awp_block ?_
           refine awp_seq fun K51 hK51 => awp_region rfl (o_mv (.row 8003) rfl (o_mv (Iv ((((j + 1) : Nat) : Int) - 1 - ((q : Nat) : Int))) rfl ?_))
           refine n_as (v' := (Nv ((j + 1) - 1 - q))) (nm_int (by omega)) ?_
           refine i_indexRow w ((j + 1) - 1 - q) gn f42_ rfl rfl rfl (by omega) ?_
           refine i_storeRow w ((j + 1) - 1 - q) ((0 : Nat) : Int) [(9001, .blk (.loop (lrec fn tmps ps' as' bo' D .ready none))), (9002, .blk (.deferred (some []))), (9003, pinA [(1, Iv k), (2, .ref 2 0), (8, .row 50), (9, .ref 20 0), (10, .ref 201 0), (48, .clo 40 [.ref 8001 0, .ref 8002 0])] tmps), (9004, pinL l D), (8001, .var 3 [Nv (j + 1)]), (8002, oM 24 m), (2, oM 24 m), (20, .var 3 [Nv (j + 1)]), (201, .var 57 [.row 61]), (50, .row 43 1 (gcells cP (cyU m j))), (61, .row 62 1 (gcells cV (lsT m (j + 1) (t + 1)))), (8003, (.row 3 1 (is .i64 (w.set ((j + 1) - 1 - q) ((0 : Nat) : Int)))))] gn f95_ rfl rfl rfl (by omega) rfl ?_
           refine aops_end (hK51 _ (awp_region rfl (o_mv (Iv ((((j + 1) : Nat) : Int) - 1 - ((q : Nat) : Int))) rfl ?_)))
           refine o_sub (a := ((((j + 1) : Nat) : Int) - 1 - ((q : Nat) : Int))) (c := ((1 : Nat) : Int)) gn rfl rfl (by exact wrap64 (by omega) (by omega)) ?_
           refine o_as (Iv (((((j + 1) : Nat) : Int) - 1 - ((q : Nat) : Int)) - ((1 : Nat) : Int))) rfl (aops_end ?_)
           refine ⟨_, _, ?lt, ⟨w.set ((j + 1) - 1 - q) 0, q + 1, (next_s hM hnx (by omega) (by omega)), rfl, rfl⟩, ?wk⟩
           case lt => omega
           case wk => exact Wk.sub ⟨rfl, rfl, rfl, rfl, (by first | rfl | exact int_eq (by omega) | exact int_nm (by omega)), trivial⟩ ⟨rfl, rfl, rfl, rfl, rfl, rfl, rfl, rfl, rfl, rfl, rfl, (by first | rfl | exact row_ns (by simp) | (first | exact row_is' (next_y hM hnx (by omega) (fun e => by omega)).1 | exact row_gs' (congrArg (lsT m (j + 1)) (next_tot hM hnx (by omega) ht)) | exact row_start _ _ _)), trivial⟩
          ·refine awp_exit ?_
           refine hK48 _ (awp_seq fun K52 hK52 => awp_seq fun K53 hK53 => awp_region rfl (o_mv (Iv ((((j + 1) : Nat) : Int) - 1 - ((q : Nat) : Int))) rfl ?_))
           refine o_lss (a := ((((j + 1) : Nat) : Int) - 1 - ((q : Nat) : Int))) (c := ((0 : Nat) : Int)) gn rfl rfl ?_
           refine aops_end (hK53 _ ?_)
           refine awp_condQ (q := ((((j + 1) : Nat) : Int) - 1 - ((q : Nat) : Int)) < ((0 : Nat) : Int)) rfl (fun h12 => ?_) (fun h12 => ?_)
           ·refine awp_ret ?_
            exact ⟨.inr rfl, .ready, none, [(2, oM 24 m), (20, .var 3 [Nv (j + 1)]), (201, .var 57 [.row 61]), (61, .row 62 1 (gcells cV (lsT m (j + 1) (m.mod.toNat ^ (j + 1))))), (50, .row 43 1 (gcells cP (cyU m j)))], (by decide), ⟨rfl, rfl⟩, rfl, rfl, rfl, rfl, Wk.sub trivial ⟨rfl, rfl, rfl, rfl, rfl, rfl, rfl, (by first | rfl | exact row_ns (by simp) | (first | exact row_is' (next_y hM hnx (by omega) (fun e => by omega)).1 | exact row_gs' (congrArg (lsT m (j + 1)) (next_tot hM hnx (by omega) ht)) | exact row_start _ _ _)), rfl, trivial⟩⟩
           ·refine awp_skip (hK52 _ (awp_region rfl (o_mv (.row 8003) rfl (o_mv (Iv ((((j + 1) : Nat) : Int) - 1 - ((q : Nat) : Int))) rfl ?_))))
            refine n_as (v' := (Nv ((j + 1) - 1 - q))) (nm_int (by omega)) ?_
            refine i_indexRow w ((j + 1) - 1 - q) gn f42_ rfl rfl rfl (by omega) ?_
            refine i_loadRow w ((j + 1) - 1 - q) gn f37_ rfl rfl (by omega) ?_
            refine o_add (a := (w.getD ((j + 1) - 1 - q) 0)) (c := ((1 : Nat) : Int)) gn rfl rfl (by (have hg := isW_get hnx.1 (show (j + 1) - 1 - q < w.length by omega)); exact wrap64 (by omega) (by omega)) ?_
            refine i_indexRow w ((j + 1) - 1 - q) gn f42_ rfl rfl rfl (by omega) ?_
            refine i_storeRow w ((j + 1) - 1 - q) ((w.getD ((j + 1) - 1 - q) 0) + ((1 : Nat) : Int)) [(9001, .blk (.loop (lrec fn tmps ps' as' bo' D .ready none))), (9002, .blk (.deferred (some []))), (9003, pinA [(1, Iv k), (2, .ref 2 0), (8, .row 50), (9, .ref 20 0), (10, .ref 201 0), (48, .clo 40 [.ref 8001 0, .ref 8002 0])] tmps), (9004, pinL l D), (8001, .var 3 [Nv (j + 1)]), (8002, oM 24 m), (2, oM 24 m), (20, .var 3 [Nv (j + 1)]), (201, .var 57 [.row 61]), (50, .row 43 1 (gcells cP (cyU m j))), (61, .row 62 1 (gcells cV (lsT m (j + 1) (t + 1)))), (8003, (.row 3 1 (is .i64 (w.set ((j + 1) - 1 - q) ((w.getD ((j + 1) - 1 - q) 0) + ((1 : Nat) : Int))))))] gn f95_ rfl rfl rfl (by omega) rfl ?_
            refine aops_end ?_
            refine ⟨_, _, ?lt, ⟨t + 1, (next_y hM hnx (by omega) (fun e => by omega)).2, rfl, rfl⟩, ?wk⟩
            case lt => omega
            case wk => exact Wk.sub ⟨rfl, rfl, rfl, rfl, trivial⟩ ⟨rfl, rfl, rfl, rfl, rfl, rfl, rfl, rfl, rfl, rfl, (by first | rfl | exact row_ns (by simp) | (first | exact row_is' (next_y hM hnx (by omega) (fun e => by omega)).1 | exact row_gs' (congrArg (lsT m (j + 1)) (next_tot hM hnx (by omega) ht)) | exact row_start _ _ _)), (by first | rfl | exact row_ns (by simp) | (first | exact row_is' (next_y hM hnx (by omega) (fun e => by omega)).1 | exact row_gs' (congrArg (lsT m (j + 1)) (next_tot hM hnx (by omega) ht)) | exact row_start _ _ _)), trivial⟩
         ·refine o_skip rfl rfl (decide_eq_false h10) (o_skip rfl rfl (decide_eq_false h10) (o_skip rfl rfl (decide_eq_false h10) (o_skip rfl rfl (decide_eq_false h10) (o_skip rfl rfl (decide_eq_false h10) (o_skip rfl rfl (decide_eq_false h10) (o_skip rfl rfl (decide_eq_false h10) (o_skip rfl rfl (decide_eq_false h10) ?_)))))))
          refine o_pickF Fv gn rfl (decide_eq_false h10) rfl ?_
          refine aops_end ⟨by kernel_rfl, ?_⟩
          refine hK50 _ ?_
          refine awp_condB (b := false) rfl (fun hh => absurd (hh.symm.trans rfl) (by decide)) (fun _ => ?_)
          refine awp_exit ?_
          refine hK48 _ (awp_seq fun K54 hK54 => awp_seq fun K55 hK55 => awp_region rfl (o_mv (Iv ((((j + 1) : Nat) : Int) - 1 - ((q : Nat) : Int))) rfl ?_))
          refine o_lss (a := ((((j + 1) : Nat) : Int) - 1 - ((q : Nat) : Int))) (c := ((0 : Nat) : Int)) gn rfl rfl ?_
          refine aops_end (hK55 _ ?_)
          refine awp_condQ (q := ((((j + 1) : Nat) : Int) - 1 - ((q : Nat) : Int)) < ((0 : Nat) : Int)) rfl (fun h13 => ?_) (fun h13 => ?_)
          ·refine awp_ret ?_
           exact ⟨.inr rfl, .ready, none, [(2, oM 24 m), (20, .var 3 [Nv (j + 1)]), (201, .var 57 [.row 61]), (61, .row 62 1 (gcells cV (lsT m (j + 1) (m.mod.toNat ^ (j + 1))))), (50, .row 43 1 (gcells cP (cyU m j)))], (by decide), ⟨rfl, rfl⟩, rfl, rfl, rfl, rfl, Wk.sub trivial ⟨rfl, rfl, rfl, rfl, rfl, rfl, rfl, (by first | rfl | exact row_ns (by simp) | (first | exact row_is' (next_y hM hnx (by omega) (fun e => by omega)).1 | exact row_gs' (congrArg (lsT m (j + 1)) (next_tot hM hnx (by omega) ht)) | exact row_start _ _ _)), rfl, trivial⟩⟩
          ·refine awp_skip (hK54 _ (awp_region rfl (o_mv (.row 8003) rfl (o_mv (Iv ((((j + 1) : Nat) : Int) - 1 - ((q : Nat) : Int))) rfl ?_))))
           refine n_as (v' := (Nv ((j + 1) - 1 - q))) (nm_int (by omega)) ?_
           refine i_indexRow w ((j + 1) - 1 - q) gn f42_ rfl rfl rfl (by omega) ?_
           refine i_loadRow w ((j + 1) - 1 - q) gn f37_ rfl rfl (by omega) ?_
           refine o_add (a := (w.getD ((j + 1) - 1 - q) 0)) (c := ((1 : Nat) : Int)) gn rfl rfl (by (have hg := isW_get hnx.1 (show (j + 1) - 1 - q < w.length by omega)); exact wrap64 (by omega) (by omega)) ?_
           refine i_indexRow w ((j + 1) - 1 - q) gn f42_ rfl rfl rfl (by omega) ?_
           refine i_storeRow w ((j + 1) - 1 - q) ((w.getD ((j + 1) - 1 - q) 0) + ((1 : Nat) : Int)) [(9001, .blk (.loop (lrec fn tmps ps' as' bo' D .ready none))), (9002, .blk (.deferred (some []))), (9003, pinA [(1, Iv k), (2, .ref 2 0), (8, .row 50), (9, .ref 20 0), (10, .ref 201 0), (48, .clo 40 [.ref 8001 0, .ref 8002 0])] tmps), (9004, pinL l D), (8001, .var 3 [Nv (j + 1)]), (8002, oM 24 m), (2, oM 24 m), (20, .var 3 [Nv (j + 1)]), (201, .var 57 [.row 61]), (50, .row 43 1 (gcells cP (cyU m j))), (61, .row 62 1 (gcells cV (lsT m (j + 1) (t + 1)))), (8003, (.row 3 1 (is .i64 (w.set ((j + 1) - 1 - q) ((w.getD ((j + 1) - 1 - q) 0) + ((1 : Nat) : Int))))))] gn f95_ rfl rfl rfl (by omega) rfl ?_
           refine aops_end ?_
           refine ⟨_, _, ?lt, ⟨t + 1, (next_y hM hnx (by omega) (fun e => by omega)).2, rfl, rfl⟩, ?wk⟩
           case lt => omega
           case wk => exact Wk.sub ⟨rfl, rfl, rfl, rfl, trivial⟩ ⟨rfl, rfl, rfl, rfl, rfl, rfl, rfl, rfl, rfl, rfl, (by first | rfl | exact row_ns (by simp) | (first | exact row_is' (next_y hM hnx (by omega) (fun e => by omega)).1 | exact row_gs' (congrArg (lsT m (j + 1)) (next_tot hM hnx (by omega) ht)) | exact row_start _ _ _)), (by first | rfl | exact row_ns (by simp) | (first | exact row_is' (next_y hM hnx (by omega) (fun e => by omega)).1 | exact row_gs' (congrArg (lsT m (j + 1)) (next_tot hM hnx (by omega) ht)) | exact row_start _ _ _)), trivial⟩
        ·exact hF.elim
      case nx2 =>
       rintro fn tmps D l pe m' ⟨rfl, rfl⟩
       refine hK22 _ ?_
       refine awpM_seq fun K56 hK56 => ?_
       refine awpM_lift fun mk => ?_
       refine awp_regionSW 1 70 _ 28 [] _ _ _ _ _ [.row 61, .clo 29 []] (.tup []) [(2, oM 24 m), (20, .var 3 [Nv (j + 1)]), (201, .var 57 [.row 61]), (61, .row 62 1 (gcells cV (lpN m (j + 1)))), (50, .row 43 1 (gcells cP (cyU m j)))] rfl rfl rfl f106_ ?_
       refine o_loadS (.row 61) gn f100_ rfl rfl rfl ?_
       refine aops_end ⟨_, Wk.sub (σ' := ⟨[(1, Iv k), (2, .ref 2 0), (8, .row 50), (9, .ref 20 0), (10, .ref 201 0), (48, .clo 40 [.ref 8001 0, .ref 8002 0]), (69, .row 61)], [(2, oM 24 m), (20, .var 3 [Nv (j + 1)]), (201, .var 57 [.row 61]), (61, .row 62 1 (gcells cV (lsT m (j + 1) (m.mod.toNat ^ (j + 1))))), (50, .row 43 1 (gcells cP (cyU m j)))]⟩) ⟨rfl, rfl, rfl, rfl, rfl, rfl, rfl, trivial⟩ ⟨rfl, rfl, rfl, rfl, rfl, trivial⟩, rfl, rfl, (c_sort mk c_less f105_ 61 (lsT m (j + 1) (m.mod.toNat ^ (j + 1))) rfl (fun i => lookO_set (l := [(2, oM 24 m), (20, .var 3 [Nv (j + 1)]), (201, .var 57 [.row 61]), (61, .row 62 1 (gcells cV (lsT m (j + 1) (m.mod.toNat ^ (j + 1))))), (50, .row 43 1 (gcells cP (cyU m j)))]) (i := 61) (ob := (.row 62 1 (gcells cV (lsT m (j + 1) (m.mod.toNat ^ (j + 1)))))) rfl (.row 62 1 (gcells cV (sortK (lsT m (j + 1) (m.mod.toNat ^ (j + 1)))))) i) (lsT_ne hM hf (by omega) (by omega)) (lsT_inj hM hf (by omega) (by omega)) (by have q1 := lsT_len m (j + 1) (m.mod.toNat ^ (j + 1)); have q2 := toNat_pw hM (j + 1); omega)), ?_⟩
       refine hK56 _ ?_
       refine awpM_seq fun K57 hK57 => ?_
       refine awpM_lift fun mk => ?_
       refine awp_wk (σ' := ⟨[(1, Iv k), (2, .ref 2 0), (8, .row 50), (9, .ref 20 0), (10, .ref 201 0)], [(2, oM 24 m), (50, .row 43 1 (gcells cP (cyU m j))), (20, .var 3 [Nv (j + 1)]), (201, .var 57 [.row 61]), (61, .row 62 1 (gcells cV (lpN m (j + 1))))]⟩) (Wk.sub ⟨rfl, rfl, rfl, rfl, rfl, trivial⟩ ⟨rfl, rfl, rfl, rfl, rfl, trivial⟩) ?_
       refine awp_wk (σ' := ⟨[(1, Iv k), (2, .ref 2 0), (8, .row 50), (9, .ref 20 0), (10, .ref 201 0)], [(2, oM 24 m), (50, .row 43 1 (gcells cP (cyU m j))), (20, .var 3 [Nv (j + 1)]), (201, .var 57 [.sl 1 (gcells cV (lpN m (j + 1)))])]⟩) (Wk.freeze (id := 61) (e := 62) (sz := 1) (cs := (gcells cV (lpN m (j + 1)))) rfl) ?_
       refine awp_region rfl ?_
       refine o_loadS (.sl 1 (gcells cV (lpN m (j + 1)))) gn f100_ rfl rfl rfl ?_
       refine g_len cV (lpN m (j + 1)) cV_len gn f107_ rfl ?_
       refine o_mv (Nv 0) rfl (aops_end (hK57 _ ?_))
       refine awpM_lift fun mk => ?_
       refine awp_block ?_
       refine awp_loopR (fun κ σ => ∃ (i : Nat), (i ≤ (lpN m (j + 1)).length) ∧ ((lpN m (j + 1)).length - i) = κ ∧ σ = ⟨[(1, Iv k), (2, .ref 2 0), (8, .row 50), (9, .ref 20 0), (71, .sl 1 (gcells cV (lpN m (j + 1)))), (72, Nv ((lpN m (j + 1)).length)), (73, Nv i)], [(2, oM 24 m), (20, .var 3 [Nv (j + 1)]), (50, .row 43 1 (gcells cP (cyU m j ++ (lpN m (j + 1)).take i)))]⟩) ⟨_, _, ⟨0, Nat.zero_le _, rfl, rfl⟩, ?wk10⟩ ?rd10
       case wk10 =>
        exact Wk.sub ⟨rfl, rfl, rfl, rfl, rfl, rfl, (by first | rfl | exact nm_int (by omega)), trivial⟩ ⟨rfl, rfl, (by first | rfl | exact row_ns (by simp) | (first | exact row_gs' (lsT_y (Decidable.not_not.1 (by assumption)) (cmpZ_eq0.1 (by assumption))) | exact row_gs' (lsT_n (fun e => absurd e.1 (by assumption))) | exact row_gs' (lsT_n (fun e => absurd (cmpZ_eq0.2 e.2) (by assumption))) | exact row_gs' (out_s (by omega) (by rw [loo_len hlo]; omega)) | exact row_gs' (by rw [List.take_of_length_le (by omega)]; rfl) | exact row_gs' (by simp))), trivial⟩
       rintro κ _ ⟨i, hi, rfl, rfl⟩
       refine awp_seq fun K58 hK58 => awp_region rfl ?_
       refine n_lss i ((lpN m (j + 1)).length) gn rfl rfl ?_
       refine aops_end (hK58 _ (awp_seq fun K59 hK59 => ?_))
       refine awp_condQ (q := i < ((lpN m (j + 1)).length)) rfl (fun h14 => ?_) (fun h14 => ?_)
       ·have hlo := lpN_loo hM hf (show 0 < j + 1 by omega) (by omega) (getD_memL h14)
        have hll := loo_len hlo
        refine awp_skip (hK59 _ (awp_seq fun K60 hK60 => ?_))
        refine awp_block ?_
        refine awp_seq fun K61 hK61 => awp_region rfl ?_
        refine g_index cV (lpN m (j + 1)) i cV_len rfl gn f102_ rfl rfl (by omega) ?_
        refine g_loadS cV (lpN m (j + 1)) i default (.sl 2 (gcells cW ((lpN m (j + 1)).getD i default))) cV_len gn f108_ rfl (by omega) rfl ?_
        refine o_as (.sl 2 (gcells cW ((lpN m (j + 1)).getD i default))) rfl (aops_end (hK61 _ (awp_seq fun K62 hK62 => awp_region rfl (o_as Zv rfl (aops_end (hK62 _ (awp_seq fun K63 hK63 => awp_seq fun K64 hK64 => awp_region rfl (o_mv (.sl 2 (gcells cW ((lpN m (j + 1)).getD i default))) rfl ?_))))))))
        refine g_len cW ((lpN m (j + 1)).getD i default) cW_len gn f88_ rfl ?_
        refine n_as (v' := (Nv (j + 1))) (congrArg (nm _) (by rw [loo_len hlo])) ?_
        refine o_mv (Nv 0) rfl (aops_end (hK64 _ ?_))
        refine awp_block ?_
        refine awp_loopR (fun κ σ => ∃ (q : Nat), (q ≤ j + 1) ∧ (j + 1 - q) = κ ∧ σ = ⟨[(1, Iv k), (2, .ref 2 0), (8, .row 50), (9, .ref 20 0), (71, .sl 1 (gcells cV (lpN m (j + 1)))), (72, Nv ((lpN m (j + 1)).length)), (73, Nv i), (14, .sl 2 (gcells cW ((lpN m (j + 1)).getD i default))), (77, .sl 2 (gcells cW ((lpN m (j + 1)).getD i default))), (15, .row 51), (78, Nv (j + 1)), (79, Nv q)], [(2, oM 24 m), (20, .var 3 [Nv (j + 1)]), (50, .row 43 1 (gcells cP (cyU m j ++ (lpN m (j + 1)).take i))), (51, .row 9 1 (sbs ((((lpN m (j + 1)).getD i default).take q).map txt)))]⟩) ⟨_, _, ⟨0, Nat.zero_le _, rfl, rfl⟩, ?wk11⟩ ?rd11
        case wk11 =>
         exact Wk.trans (Wk.newNil (i := 15) (id := 1601) (e := 9) (sz := 1) rfl rfl (by decide)) (Wk.trans (Wk.sub (σ' := ⟨[(1, Iv k), (2, .ref 2 0), (8, .row 50), (9, .ref 20 0), (71, .sl 1 (gcells cV (lpN m (j + 1)))), (72, Nv ((lpN m (j + 1)).length)), (73, Nv i), (14, .sl 2 (gcells cW ((lpN m (j + 1)).getD i default))), (77, .sl 2 (gcells cW ((lpN m (j + 1)).getD i default))), (15, .row 1601), (78, Nv (j + 1)), (79, Nv 0)], [(2, oM 24 m), (50, .row 43 1 (gcells cP (cyU m j ++ (lpN m (j + 1)).take i))), (20, .var 3 [Nv (j + 1)]), (1601, .row 9 1 ([]))]⟩) ⟨rfl, rfl, rfl, rfl, rfl, rfl, rfl, rfl, rfl, rfl, rfl, rfl, trivial⟩ ⟨rfl, rfl, rfl, rfl, trivial⟩) (Wk.trans (Wk.ren (id := 1601) (id' := 51) rfl) (Wk.sub ⟨rfl, rfl, rfl, rfl, rfl, rfl, rfl, rfl, rfl, (by first | rfl | simp), rfl, (by first | rfl | exact nm_int (by omega)), trivial⟩ ⟨rfl, rfl, (by first | rfl | exact row_ns (by simp) | (first | exact row_gs' (lsT_y (Decidable.not_not.1 (by assumption)) (cmpZ_eq0.1 (by assumption))) | exact row_gs' (lsT_n (fun e => absurd e.1 (by assumption))) | exact row_gs' (lsT_n (fun e => absurd (cmpZ_eq0.2 e.2) (by assumption))) | exact row_gs' (out_s (by omega) (by rw [loo_len hlo]; omega)) | exact row_gs' (by rw [List.take_of_length_le (by omega)]; rfl) | exact row_gs' (by simp))), (by first | rfl | exact row_ns (by simp) | (first | exact row_gs' (lsT_y (Decidable.not_not.1 (by assumption)) (cmpZ_eq0.1 (by assumption))) | exact row_gs' (lsT_n (fun e => absurd e.1 (by assumption))) | exact row_gs' (lsT_n (fun e => absurd (cmpZ_eq0.2 e.2) (by assumption))) | exact row_gs' (out_s (by omega) (by rw [loo_len hlo]; omega)) | exact row_gs' (by rw [List.take_of_length_le (by omega)]; rfl) | exact row_gs' (by simp))), trivial⟩)))
        rintro κ _ ⟨q, hq, rfl, rfl⟩
        refine awp_seq fun K65 hK65 => awp_region rfl ?_
        refine n_lss q (j + 1) gn rfl rfl ?_
        refine aops_end (hK65 _ (awp_seq fun K66 hK66 => ?_))
        refine awp_condQ (q := q < (j + 1)) rfl (fun h15 => ?_) (fun h15 => ?_)
        ·have hdg := loo_dig hM (by omega) hlo h15
         refine awp_skip (hK66 _ (awp_seq fun K67 hK67 => ?_))
         refine awp_block ?_
         refine awp_seq fun K68 hK68 => awp_region rfl ?_
         refine g_index cW ((lpN m (j + 1)).getD i default) q cW_len rfl gn f89_ rfl rfl (by omega) ?_
         refine g_loadA cW ((lpN m (j + 1)).getD i default) q default cW_len gn f10_ rfl (by omega) ?_
         refine o_alloc 1201 [Fv, Zv] gn f5_ rfl rfl rfl ?_
         refine o_store [(1201, oZ 50 .u32 (((lpN m (j + 1)).getD i default).getD q default)), (2, oM 24 m), (20, .var 3 [Nv (j + 1)]), (50, .row 43 1 (gcells cP (cyU m j ++ (lpN m (j + 1)).take i))), (51, .row 9 1 (sbs ((((lpN m (j + 1)).getD i default).take q).map txt)))] gn f9_ rfl rfl rfl rfl rfl rfl ?_
         refine aops_end (hK68 _ (awp_region rfl (o_mv (.row 51) rfl ?_)))
         refine o_loadA [bp ((((lpN m (j + 1)).getD i default).getD q default) < 0), .sl 1 (ns .u32 (digs (((lpN m (j + 1)).getD i default).getD q default).natAbs))] gn f10_ rfl rfl rfl rfl rfl ?_
         refine o_ct (c_wText (((lpN m (j + 1)).getD i default).getD q default) (by first | omega | assumption | (simp only [Int.natAbs_neg]; omega))) gn f35_ rfl ?_
         refine o_buildSlice 1202 (sbs ([txt (((lpN m (j + 1)).getD i default).getD q default)])) [(0, [Sv (txt (((lpN m (j + 1)).getD i default).getD q default))])] gn f109_ rfl f110_ rfl rfl rfl rfl rfl rfl rfl ?_
         refine o_append 1203 (sbs ([txt (((lpN m (j + 1)).getD i default).getD q default)])) (sbs ((((lpN m (j + 1)).getD i default).take (q + 1)).map txt)) _ [(1202, .row 9 1 (sbs ([txt (((lpN m (j + 1)).getD i default).getD q default)]))), (1201, oZ 50 .u32 (((lpN m (j + 1)).getD i default).getD q default)), (2, oM 24 m), (20, .var 3 [Nv (j + 1)]), (50, .row 43 1 (gcells cP (cyU m j ++ (lpN m (j + 1)).take i)))] gn f109_ rfl f110_ rfl rfl rfl (.inr ⟨_, _, rfl, rfl, rfl⟩) (by simp [sbs]; omega) (by simp [sbs]; omega) (strs_take (by rw [loo_len hlo]; omega)) rfl rfl ?_
         refine o_as (.row 1203) rfl (aops_end (hK67 _ (awp_region rfl ?_)))
         refine n_add q 1 gn rfl rfl (by simp only [topOf]; omega) ?_
         refine o_mv (Nv (q + 1)) rfl (aops_end ?_)
         refine ⟨_, _, ?lt, ⟨q + 1, (by omega), rfl, rfl⟩, ?wk⟩
         case lt => omega
         case wk => exact Wk.trans (Wk.sub (σ' := ⟨[(1, Iv k), (2, .ref 2 0), (8, .row 50), (9, .ref 20 0), (71, .sl 1 (gcells cV (lpN m (j + 1)))), (72, Nv ((lpN m (j + 1)).length)), (73, Nv i), (14, .sl 2 (gcells cW ((lpN m (j + 1)).getD i default))), (77, .sl 2 (gcells cW ((lpN m (j + 1)).getD i default))), (15, .row 1203), (78, Nv (j + 1)), (79, Nv (q + 1))], [(2, oM 24 m), (50, .row 43 1 (gcells cP (cyU m j ++ (lpN m (j + 1)).take i))), (20, .var 3 [Nv (j + 1)]), (1203, .row 9 1 (sbs ((((lpN m (j + 1)).getD i default).take (q + 1)).map txt)))]⟩) ⟨rfl, rfl, rfl, rfl, rfl, rfl, rfl, rfl, rfl, rfl, rfl, rfl, trivial⟩ ⟨rfl, rfl, rfl, rfl, trivial⟩) (Wk.trans (Wk.ren (id := 1203) (id' := 51) rfl) (Wk.sub ⟨rfl, rfl, rfl, rfl, rfl, rfl, rfl, rfl, rfl, (by first | rfl | simp), rfl, (by first | rfl | exact nm_int (by omega)), trivial⟩ ⟨rfl, rfl, (by first | rfl | exact row_ns (by simp) | (first | exact row_gs' (lsT_y (Decidable.not_not.1 (by assumption)) (cmpZ_eq0.1 (by assumption))) | exact row_gs' (lsT_n (fun e => absurd e.1 (by assumption))) | exact row_gs' (lsT_n (fun e => absurd (cmpZ_eq0.2 e.2) (by assumption))) | exact row_gs' (out_s (by omega) (by rw [loo_len hlo]; omega)) | exact row_gs' (by rw [List.take_of_length_le (by omega)]; rfl) | exact row_gs' (by simp))), (by first | rfl | exact row_ns (by simp) | (first | exact row_gs' (lsT_y (Decidable.not_not.1 (by assumption)) (cmpZ_eq0.1 (by assumption))) | exact row_gs' (lsT_n (fun e => absurd e.1 (by assumption))) | exact row_gs' (lsT_n (fun e => absurd (cmpZ_eq0.2 e.2) (by assumption))) | exact row_gs' (out_s (by omega) (by rw [loo_len hlo]; omega)) | exact row_gs' (by rw [List.take_of_length_le (by omega)]; rfl) | exact row_gs' (by simp))), trivial⟩))
        ·refine awp_exit ?_
         refine hK63 _ ?_
         refine awp_wk (σ' := ⟨[(1, Iv k), (2, .ref 2 0), (8, .row 50), (9, .ref 20 0), (15, .row 51), (71, .sl 1 (gcells cV (lpN m (j + 1)))), (72, Nv ((lpN m (j + 1)).length)), (73, Nv i)], [(2, oM 24 m), (50, .row 43 1 (gcells cP (cyU m j ++ (lpN m (j + 1)).take i))), (20, .var 3 [Nv (j + 1)]), (51, .row 9 1 (sbs ((((lpN m (j + 1)).getD i default).take q).map txt)))]⟩) (Wk.sub ⟨rfl, rfl, rfl, rfl, rfl, rfl, rfl, rfl, trivial⟩ ⟨rfl, rfl, rfl, rfl, trivial⟩) ?_
         refine awp_wk (σ' := ⟨[(1, Iv k), (2, .ref 2 0), (8, .row 50), (9, .ref 20 0), (15, .sl 1 (sbs ((((lpN m (j + 1)).getD i default).take q).map txt))), (71, .sl 1 (gcells cV (lpN m (j + 1)))), (72, Nv ((lpN m (j + 1)).length)), (73, Nv i)], [(2, oM 24 m), (50, .row 43 1 (gcells cP (cyU m j ++ (lpN m (j + 1)).take i))), (20, .var 3 [Nv (j + 1)])]⟩) (Wk.freeze (id := 51) (e := 9) (sz := 1) (cs := (sbs ((((lpN m (j + 1)).getD i default).take q).map txt))) rfl) ?_
         refine awp_region rfl (o_mv (.row 50) rfl (o_mv (.sl 1 (sbs ((((lpN m (j + 1)).getD i default).take q).map txt))) rfl ?_))
         refine o_build [.sl 1 (sbs ((((lpN m (j + 1)).getD i default).take q).map txt))] [(0, [.sl 1 (sbs ((((lpN m (j + 1)).getD i default).take q).map txt))])] gn f111_ f112_ rfl rfl rfl ?_
         refine o_buildSlice 1201 (gcells cP ([((lpN m (j + 1)).getD i default).take q])) [(0, [.sl 1 (sbs ((((lpN m (j + 1)).getD i default).take q).map txt))])] gn f113_ rfl f112_ rfl rfl rfl rfl rfl rfl rfl ?_
         refine g_append cP 1202 (cyU m j ++ (lpN m (j + 1)).take i) ([((lpN m (j + 1)).getD i default).take q]) [(1201, .row 43 1 (gcells cP ([((lpN m (j + 1)).getD i default).take q]))), (2, oM 24 m), (20, .var 3 [Nv (j + 1)])] cP_len rfl gn f113_ f112_ rfl rfl rfl rfl rfl (by simp only [List.length_append, List.length_cons, List.length_nil, List.length_take]; omega) (by simp only [List.length_append, List.length_cons, List.length_nil, List.length_take]; omega) rfl rfl ?_
         refine o_as (.row 1202) rfl (aops_end (hK60 _ (awp_region rfl ?_)))
         refine n_add i 1 gn rfl rfl (by simp only [topOf]; omega) ?_
         refine o_mv (Nv (i + 1)) rfl (aops_end ?_)
         refine ⟨_, _, ?lt, ⟨i + 1, (by omega), rfl, rfl⟩, ?wk⟩
         case lt => omega
         case wk => exact Wk.trans (Wk.sub (σ' := ⟨[(1, Iv k), (2, .ref 2 0), (8, .row 1202), (9, .ref 20 0), (71, .sl 1 (gcells cV (lpN m (j + 1)))), (72, Nv ((lpN m (j + 1)).length)), (73, Nv (i + 1))], [(2, oM 24 m), (1202, .row 43 1 (gcells cP ((cyU m j ++ (lpN m (j + 1)).take i) ++ ([((lpN m (j + 1)).getD i default).take q])))), (20, .var 3 [Nv (j + 1)])]⟩) ⟨rfl, rfl, rfl, rfl, rfl, rfl, rfl, trivial⟩ ⟨rfl, rfl, rfl, trivial⟩) (Wk.trans (Wk.ren (id := 1202) (id' := 50) rfl) (Wk.sub ⟨rfl, rfl, (by first | rfl | simp), rfl, rfl, rfl, (by first | rfl | exact nm_int (by omega)), trivial⟩ ⟨rfl, rfl, (by first | rfl | exact row_ns (by simp) | (first | exact row_gs' (lsT_y (Decidable.not_not.1 (by assumption)) (cmpZ_eq0.1 (by assumption))) | exact row_gs' (lsT_n (fun e => absurd e.1 (by assumption))) | exact row_gs' (lsT_n (fun e => absurd (cmpZ_eq0.2 e.2) (by assumption))) | exact row_gs' (out_s (by omega) (by rw [loo_len hlo]; omega)) | exact row_gs' (by rw [List.take_of_length_le (by omega)]; rfl) | exact row_gs' (by simp))), trivial⟩))
       ·refine awp_exit ?_
        refine hK20 _ ?_
        refine awpM_seq fun K69 hK69 => ?_
        refine awpM_seq fun K70 hK70 => ?_
        refine awpM_lift fun mk => ?_
        refine awp_region rfl ?_
        refine o_loadS (Nv (j + 1)) gn f37_ rfl rfl rfl ?_
        refine aops_end (hK70 _ ?_)
        refine awpM_lift fun mk => ?_
        refine awp_region rfl ?_
        refine o_alloc 1101 [Nv 0] gn f46_ rfl rfl rfl ?_
        refine o_store [(1101, .var 3 [Nv (j + 1)]), (2, oM 24 m), (20, .var 3 [Nv (j + 1)]), (50, .row 43 1 (gcells cP (cyU m j ++ (lpN m (j + 1)).take i)))] gn f95_ rfl rfl rfl rfl rfl rfl ?_
        refine aops_end (hK69 _ ?_)
        refine awpM_lift fun mk => ?_
        refine awp_region rfl ?_
        refine o_loadS (Nv (j + 1)) gn f37_ rfl rfl rfl ?_
        refine n_add (j + 1) 1 gn rfl rfl (by simp only [topOf]; omega) ?_
        refine o_store [(1101, .var 3 [Nv ((j + 1) + 1)]), (2, oM 24 m), (20, .var 3 [Nv (j + 1)]), (50, .row 43 1 (gcells cP (cyU m j ++ (lpN m (j + 1)).take i)))] gn f95_ rfl rfl rfl rfl rfl rfl ?_
        refine aops_end ?_
        refine ⟨_, _, ?lt, ⟨j + 1, (by omega), rfl, rfl⟩, ?wk⟩
        case lt => omega
        case wk => exact fun mk => Wk.trans (Wk.sub (σ' := ⟨[(1, Iv k), (2, .ref 2 0), (8, .row 50), (9, .ref 1101 0)], [(2, oM 24 m), (50, .row 43 1 (gcells cP (cyU m j ++ (lpN m (j + 1)).take i))), (1101, .var 3 [Nv ((j + 1) + 1)])]⟩) ⟨rfl, rfl, rfl, rfl, trivial⟩ ⟨rfl, rfl, rfl, trivial⟩) (Wk.trans (Wk.ren (id := 1101) (id' := 20) rfl) (Wk.sub ⟨rfl, rfl, rfl, (by first | rfl | simp), trivial⟩ ⟨rfl, (by first | rfl | (first | exact row_gs' (lsT_y (Decidable.not_not.1 (by assumption)) (cmpZ_eq0.1 (by assumption))) | exact row_gs' (lsT_n (fun e => absurd e.1 (by assumption))) | exact row_gs' (lsT_n (fun e => absurd (cmpZ_eq0.2 e.2) (by assumption))) | exact row_gs' (out_s (by omega) (by rw [loo_len hlo]; omega)) | exact row_gs' (by rw [List.take_of_length_le (by omega)]; rfl) | exact row_gs' (by simp))), (by first | rfl | exact row_ns (by simp) | (first | exact row_gs' (lsT_y (Decidable.not_not.1 (by assumption)) (cmpZ_eq0.1 (by assumption))) | exact row_gs' (lsT_n (fun e => absurd e.1 (by assumption))) | exact row_gs' (lsT_n (fun e => absurd (cmpZ_eq0.2 e.2) (by assumption))) | exact row_gs' (out_s (by omega) (by rw [loo_len hlo]; omega)) | exact row_gs' (by rw [List.take_of_length_le (by omega)]; rfl) | exact row_gs' (by simp))), trivial⟩))
     ·refine awp_exit ?_
      refine hK16 _ ?_
      refine awpM_seq fun K71 hK71 => ?_
      refine awpM_lift fun mk => ?_
      refine awp_region rfl (o_mv (.row 50) rfl (o_as (.row 50) rfl (o_as (Nv 0) rfl (aops_end (hK71 _ ?_)))))
      refine awpM_lift fun mk => ?_
      refine awp_wk (σ' := ⟨[(4, .row 50), (5, Nv 0)], [(50, .row 43 1 (gcells cP (cyU m j)))]⟩) (Wk.sub ⟨rfl, rfl, trivial⟩ ⟨rfl, trivial⟩) ?_
      refine awp_wk (σ' := ⟨[(4, .sl 1 (gcells cP (cyU m j))), (5, Nv 0)], []⟩) (Wk.freeze (id := 50) (e := 43) (sz := 1) (cs := (gcells cP (cyU m j))) rfl) ?_
      refine awp_ret ?_
      refine post_ret ⟨[.sl 1 (gcells cP (cyU m j)), Nv 0], ⟨AV.le_refl _, AV.le_refl _, trivial⟩, rfl, ?_⟩
      first | exact tup_eq2 (gs_as (lpL_no (by rw [chk_1 hm']; decide))) (congrArg (nm _) (chk_1 hm')) | exact tup_eq2 (gs_as (lpL_no (by rw [chk_2 hm' (fun e => absurd e.1 (by assumption))]; decide))) (congrArg (nm _) (chk_2 hm' (fun e => absurd e.1 (by assumption)))) | exact tup_eq2 (gs_as (lpL_no (by rw [chk_2 hm' (fun e => absurd e.2.1 (by omega))]; decide))) (congrArg (nm _) (chk_2 hm' (fun e => absurd e.2.1 (by omega)))) | exact tup_eq2 (gs_as (lpL_no (by rw [chk_2 hm' (may_big hM (i := i) (by omega) (by omega))]; decide))) (congrArg (nm _) (chk_2 hm' (may_big hM (i := i) (by omega) (by omega)))) | (have hjk : k.toNat = j := (by omega); exact tup_eq2 (gs_as ((lpL_ok (chk_0 hm' hmy)).trans (by rw [hjk]))) (congrArg (nm _) (chk_0 hm' hmy)))

end Go.Proofs.YtdmkejloknejdaaDoor

namespace Go.Mth
open Go.Ab
theorem exW_free : freeM (kinM 3 1) := fun i hi => by
 have : i < 2 := hi
 have : i = 0 ∨ i = 1 := by omega
 rcases this with rfl | rfl <;> decide
theorem exW_ok : OkW (kinM 3 1) [1, 1, 0] := ⟨fun r hr => by
 simp only [List.mem_cons, List.not_mem_nil, or_false] at hr
 rcases hr with rfl | rfl | rfl <;> exact ⟨by decide, by decide⟩, by decide⟩
def exL : LineS := ⟨⟨#[57]⟩, ⟨#[53]⟩, ⟨#[56]⟩⟩
end Go.Mth

set_option maxRecDepth 1000000
namespace Go.Mth
open Go Go.Ab
def colM : MapM := kinM 3 1
theorem col_1 : lpN colM 1 = [[-1], [0]] := by decide +kernel
theorem col_2 : lpN colM 2 = [[1, 2]] := by decide +kernel
theorem col_3 : lpN colM 3 = [[-10, -5, -7]] := by decide +kernel
theorem col_a : ∀ k, k < 5 → lpN colM (k + 4) = [] := by decide +kernel
theorem col_9 : lpN colM 9 = [] := by decide +kernel
theorem col_10 : lpN colM 10 = [] := by decide +kernel
theorem hit_11 : (List.range 2048).filter (fun t => decide (hitW colM (wordT 2 11 t))) = [247] := by decide +kernel
theorem num_11 : (fixZ colM (wordT 2 11 247)).num = -136 := by decide +kernel
theorem orb_11 : orbL colM (-136) 11 = [-136, -68, -34, -17, -25, -37, -55, -82, -41, -61, -91] := by decide +kernel
theorem rot_11 : rotM [-136, -68, -34, -17, -25, -37, -55, -82, -41, -61, -91] = [-136, -68, -34, -17, -25, -37, -55, -82, -41, -61, -91] := by decide +kernel
theorem col_11 : lpN colM 11 = [[-136, -68, -34, -17, -25, -37, -55, -82, -41, -61, -91]] := by
 have h : lsT colM 11 2048 = [[-136, -68, -34, -17, -25, -37, -55, -82, -41, -61, -91]] := by
  unfold lsT
  rw [show colM.mod.toNat = 2 from rfl, hit_11]
  show [cyc colM (fixZ colM (wordT 2 11 247)).num 11] = _
  rw [num_11]
  unfold cyc
  rw [orb_11, rot_11]
 unfold lpN
 rw [show colM.mod.toNat ^ 11 = 2048 from rfl, h]
 rfl
def colL : List (List Int) := [[-1], [0], [1, 2], [-10, -5, -7], [-136, -68, -34, -17, -25, -37, -55, -82, -41, -61, -91]]
theorem colU : cyU colM 11 = colL := by
 have a := col_a
 show ((((((((((([] ++ lpN colM 1) ++ lpN colM 2) ++ lpN colM 3) ++ lpN colM 4) ++ lpN colM 5) ++ lpN colM 6) ++ lpN colM 7) ++ lpN colM 8) ++ lpN colM 9) ++ lpN colM 10) ++ lpN colM 11) = _
 rw [col_1, col_2, col_3, a 0 (by decide), a 1 (by decide), a 2 (by decide), a 3 (by decide), a 4 (by decide), col_9, col_10, col_11]
 rfl
theorem col_chk : chkE colM 11 = 0 := by
 have h : ∀ i, i < 2 → (kinM 3 1).mul.getD i 0 ≠ 0 := by decide
 exact chk_0 okM_ex ⟨exW_free, by decide, by decide⟩
theorem col_lp : lpL (kinM 3 1) 11 = colL := (lpL_ok col_chk).trans colU
theorem ex6_w1 : OkW (kinM 3 1) [1, 1, 0] := exW_ok
theorem ex6_w2 : OkW (kinM 3 1) [1, 0, 0] := ⟨fun r hr => by
 simp only [List.mem_cons, List.not_mem_nil, or_false] at hr
 rcases hr with rfl | rfl | rfl <;> exact ⟨by decide, by decide⟩, by decide⟩
theorem ex6_f1 : fxF (kinM 3 1) [1, 1, 0] = ⟨⟨#[45, 53]⟩, ⟨#[49]⟩⟩ ∧ cycE (kinM 3 1) [1, 1, 0] = 0 := by
 have h := cyc_0 okM_ex ⟨exW_free, ex6_w1, by decide⟩
 have e : fixZ (kinM 3 1) [1, 1, 0] = ⟨-5, 1⟩ := by rfl
 refine ⟨(if_pos h).trans ?_, h⟩
 rw [e]
 show Frc.mk (txt (-5)) (txt 1) = _
 congr 1 <;> simp [txt, txtL, decs, strN] <;> rfl
theorem ex6_f2 : fxF (kinM 3 1) [1, 0, 0] = ⟨⟨#[49]⟩, ⟨#[53]⟩⟩ ∧ cycE (kinM 3 1) [1, 0, 0] = 0 := by
 have h := cyc_0 okM_ex ⟨exW_free, ex6_w2, by decide⟩
 have e : fixZ (kinM 3 1) [1, 0, 0] = ⟨1, 5⟩ := by rfl
 refine ⟨(if_pos h).trans ?_, h⟩
 rw [e]
 show Frc.mk (txt 1) (txt 5) = _
 congr 1 <;> simp [txt, txtL, decs, strN] <;> rfl
theorem txm1 : txt (-1) = ⟨#[45, 49]⟩ := by simp [txt, txtL, decs, strN]; rfl
theorem tx0 : txt 0 = ⟨#[48]⟩ := by simp [txt, txtL, decs, strN]; rfl
theorem tx1 : txt 1 = ⟨#[49]⟩ := by simp [txt, txtL, decs, strN]; rfl
theorem tx2 : txt 2 = ⟨#[50]⟩ := by simp [txt, txtL, decs, strN]; rfl
theorem txm10 : txt (-10) = ⟨#[45, 49, 48]⟩ := by simp [txt, txtL, decs, strN]; rfl
theorem txm5 : txt (-5) = ⟨#[45, 53]⟩ := by simp [txt, txtL, decs, strN]; rfl
theorem txm7 : txt (-7) = ⟨#[45, 55]⟩ := by simp [txt, txtL, decs, strN]; rfl
theorem txm136 : txt (-136) = ⟨#[45, 49, 51, 54]⟩ := by simp [txt, txtL, decs, strN]; rfl
theorem ex6_s1 : (colL.getD 0 default).map txt = [⟨#[45, 49]⟩] := by show [txt (-1)] = _; rw [txm1]
theorem ex6_s2 : (colL.getD 1 default).map txt = [⟨#[48]⟩] := by show [txt 0] = _; rw [tx0]
theorem ex6_s3 : (colL.getD 2 default).map txt = [⟨#[49]⟩, ⟨#[50]⟩] := by show [txt 1, txt 2] = _; rw [tx1, tx2]
theorem ex6_s4 : (colL.getD 3 default).map txt = [⟨#[45, 49, 48]⟩, ⟨#[45, 53]⟩, ⟨#[45, 55]⟩] := by show [txt (-10), txt (-5), txt (-7)] = _; rw [txm10, txm5, txm7]
theorem ex6_s5 : ((colL.getD 4 default).map txt).getD 0 { data := #[] } = ⟨#[45, 49, 51, 54]⟩ := txm136
end Go.Mth

namespace Go.Proofs.YtdmkejloknejdaaDoor
open Go Go.Ab Go.Mth
theorem f114_ : cx.P.underlying 41 = some (.slice 9) := by kernel_rfl
theorem f115_ : tySc cx.P 9 = true := by kernel_rfl
theorem f116_ : callable cx.P 15 = true := by kernel_rfl
theorem f117_ : callable cx.P 8 = true := by kernel_rfl
theorem f118_ : callable cx.P 11 = true := by kernel_rfl
theorem f119_ : cx.P.underlying 38 = some (.slice 43) := by kernel_rfl
theorem f120_ : tyField cx.P 43 0 = some (0, 41) := by kernel_rfl
theorem f121_ : tySc cx.P 41 = true := by kernel_rfl
theorem f122_ : callable cx.P 16 = true := by kernel_rfl
theorem f123_ : callable cx.P 12 = true := by kernel_rfl
theorem f124_ : callable cx.P 13 = true := by kernel_rfl
theorem f125_ : callable cx.P 14 = true := by kernel_rfl
theorem c_l6Same (x y : List ByteArray) : ECalls cx 16 [.sl 1 (sbs x), .sl 1 (sbs y)] (bp (x = y)) := by
 refine ecalls_of_awp Tryd.func16 (c := _) rfl (Nat.le_of_ble_eq_true rfl) ?_
 show awp cx 26 _ (postF cx Tryd.f16 _) ⟨[(0, .sl 1 (sbs x)), (1, .sl 1 (sbs y))], []⟩
 refine awp_bound (i := 0) rfl fun hb => ?_
 replace hb := sbs_bnd hb
 refine awp_bound (i := 1) rfl fun hb2 => ?_
 replace hb2 := sbs_bnd hb2
 refine awp_seq fun K0 hK0 => awp_region rfl (o_as Fv rfl (aops_end (hK0 _ (awp_seq fun K1 hK1 => awp_seq fun K2 hK2 => awp_region rfl (o_mv (.sl 1 (sbs x)) rfl ?_)))))
 refine s_len x gn f114_ rfl ?_
 refine o_mv (.sl 1 (sbs y)) rfl ?_
 refine s_len y gn f114_ rfl ?_
 refine n_neq (x.length) (y.length) gn rfl rfl ?_
 refine aops_end (hK2 _ ?_)
 refine awp_condQ (q := (x.length) ≠ (y.length)) rfl (fun h1 => ?_) (fun h1 => ?_)
 ·refine awp_seq fun K3 hK3 => awp_region rfl (o_as Fv rfl (aops_end (hK3 _ ?_)))
  refine awp_ret ?_
  refine post_ret ⟨[Fv], ⟨AV.le_refl _, trivial⟩, rfl, ?_⟩
  exact (bl_bp (b := false) (by constructor <;> intro h <;> first | (exfalso; subst h; exact h1 rfl) | cases h)).symm
 ·refine awp_skip (hK1 _ (awp_seq fun K4 hK4 => awp_seq fun K5 hK5 => awp_region rfl (o_as (Nv 0) rfl (aops_end (hK5 _ ?_)))))
  refine awp_block ?_
  refine awp_loopR (fun κ σ => ∃ (i : Nat), (i ≤ x.length) ∧ (∀ k, k < i → x.getD k { data := #[] } = y.getD k { data := #[] }) ∧ (x.length - i) = κ ∧ σ = ⟨[(0, .sl 1 (sbs x)), (1, .sl 1 (sbs y)), (5, Nv i)], []⟩) ⟨_, _, ⟨0, (by omega), (fun k hk => by omega), rfl, rfl⟩, ?wk0⟩ ?rd0
  case wk0 =>
   exact Wk.sub ⟨rfl, rfl, (by first | rfl | exact nm_int (by omega)), trivial⟩ trivial
  rintro κ _ ⟨i, hi, hv, rfl, rfl⟩
  refine awp_seq fun K6 hK6 => awp_seq fun K7 hK7 => awp_region rfl (o_mv (Nv i) rfl (o_mv (.sl 1 (sbs x)) rfl ?_))
  refine s_len x gn f114_ rfl ?_
  refine n_lss i (x.length) gn rfl rfl ?_
  refine aops_end (hK7 _ ?_)
  refine awp_condQ (q := i < (x.length)) rfl (fun h2 => ?_) (fun h2 => ?_)
  ·refine awp_skip (hK6 _ (awp_seq fun K8 hK8 => ?_))
   refine awp_block ?_
   refine awp_seq fun K9 hK9 => awp_regionD rfl (o_mv (.sl 1 (sbs x)) rfl (o_mv (Nv i) rfl ?_))
   refine s_index x i gn f109_ rfl rfl (by omega) ?_
   refine s_loadI x i gn f115_ rfl (by omega) ?_
   refine o_mv (.sl 1 (sbs y)) rfl (o_mv (Nv i) rfl ?_)
   refine s_index y i gn f109_ rfl rfl (by omega) ?_
   refine s_loadI y i gn f115_ rfl (by omega) ?_
   refine o_neqS (a := (x.getD i { data := #[] })) (c := (y.getD i { data := #[] })) gn rfl rfl ?_
   refine aops_end ⟨by kernel_rfl, ?_⟩
   refine hK9 _ ?_
   refine awp_condQ (q := (x.getD i { data := #[] }).toList ≠ (y.getD i { data := #[] }).toList) rfl (fun h3 => ?_) (fun h3 => ?_)
   ·refine awp_seq fun K10 hK10 => awp_region rfl (o_as Fv rfl (aops_end (hK10 _ ?_)))
    refine awp_ret ?_
    refine post_ret ⟨[Fv], ⟨AV.le_refl _, trivial⟩, rfl, ?_⟩
    exact (bl_bp (b := false) (by constructor <;> intro h <;> first | (exfalso; subst h; exact h3 rfl) | cases h)).symm
   ·refine awp_skip (hK8 _ (awp_region rfl (o_mv (Nv i) rfl ?_)))
    refine n_add i 1 gn rfl rfl (by simp only [topOf]; omega) ?_
    refine o_as (Nv (i + 1)) rfl (aops_end ?_)
    refine ⟨_, _, ?lt, ⟨i + 1, (by omega), (fun k hk => by by_cases e : k = i; subst e; exact str_eq.1 (Decidable.not_not.1 h3); exact hv k (by omega)), rfl, rfl⟩, ?wk⟩
    case lt => omega
    case wk => exact Wk.sub ⟨rfl, rfl, (by first | rfl | exact nm_int (by omega)), trivial⟩ trivial
  ·refine awp_exit ?_
   refine hK4 _ (awp_seq fun K11 hK11 => awp_region rfl (o_as Tv rfl (aops_end (hK11 _ ?_))))
   refine awp_ret ?_
   refine post_ret ⟨[Tv], ⟨AV.le_refl _, trivial⟩, rfl, ?_⟩
   exact (bl_bp (b := true) ⟨fun _ => list_extS (by omega) (fun k hk => hv k (by omega)), fun _ => rfl⟩).symm

theorem c_awake6  : ECalls cx 6 [] (.lit (.bool true)) := by
 refine ecalls_of_awp Tryd.func6 (c := _) rfl (Nat.le_of_ble_eq_true rfl) ?_
 show awp cx 100 _ (postF cx Tryd.f6 _) ⟨[], []⟩
 refine awp_seq fun K0 hK0 => awp_region rfl (o_as Fv rfl (aops_end (hK0 _ (awp_seq fun K1 hK1 => awp_region rfl ?_))))
 refine o_ct c_gCollatz gn f116_ rfl ?_
 refine o_alloc 2 [Nv 0, Zv, Zv] gn f45_ rfl rfl rfl ?_
 refine o_store [(2, oM 24 (kinM 3 1))] gn f48_ rfl rfl rfl rfl rfl rfl ?_
 refine aops_end (hK1 _ (awp_seq fun K2 hK2 => awp_region rfl ?_))
 refine o_loadA [Iv ((kinM 3 1).mod), Lv ((kinM 3 1).mul), Lv ((kinM 3 1).add)] gn f49_ rfl rfl rfl rfl rfl ?_
 refine o_buildSlice 3 (ns .i64 ([1, 1, 0])) [(0, [Nv 1]), (1, [Nv 1]), (2, [Nv 0])] gn f42_ rfl f46_ rfl rfl rfl rfl rfl rfl rfl ?_
 refine o_callG [(3, 1, ns .i64 ([1, 1, 0]))] [mapV (kinM 3 1), .sl 1 (ns .i64 ([1, 1, 0]))] _ (.tup [(.agg [(Sv ({data := #[45, 53]} : ByteArray)), (Sv ({data := #[49]} : ByteArray))]), Nv 0]) [(2, oM 24 (kinM 3 1))] gn f117_ rfl ⟨⟨_, rfl⟩, trivial⟩ rfl rfl (LeL.cons (AV.le_refl _) (LeL.cons (AV.le_refl _) LeL.nil)) (by have h := c_yFixed (kinM 3 1) [1, 1, 0] (by decide); rw [ex6_f1.1, ex6_f1.2] at h; exact h) rfl ?_
 refine o_mv (.tup [(.agg [(Sv ({data := #[45, 53]} : ByteArray)), (Sv ({data := #[49]} : ByteArray))]), Nv 0]) rfl (o_extract (.agg [(Sv ({data := #[45, 53]} : ByteArray)), (Sv ({data := #[49]} : ByteArray))]) gn rfl rfl (o_extract (Nv 0) gn rfl rfl ?_))
 refine o_alloc 4 [Sv Ev, Sv Ev] gn f69_ rfl rfl rfl ?_
 refine o_store [(4, (.var 32 [(Sv ({data := #[45, 53]} : ByteArray)), (Sv ({data := #[49]} : ByteArray))])), (2, oM 24 (kinM 3 1))] gn f74_ rfl rfl rfl rfl rfl rfl ?_
 refine o_as (Nv 0) rfl (aops_end (hK2 _ (awp_seq fun K3 hK3 => awp_region rfl ?_)))
 refine o_loadA [Iv ((kinM 3 1).mod), Lv ((kinM 3 1).mul), Lv ((kinM 3 1).add)] gn f49_ rfl rfl rfl rfl rfl ?_
 refine o_buildSlice 5 (ns .i64 ([1, 0, 0])) [(0, [Nv 1]), (1, [Nv 0]), (2, [Nv 0])] gn f42_ rfl f46_ rfl rfl rfl rfl rfl rfl rfl ?_
 refine o_callG [(5, 1, ns .i64 ([1, 0, 0]))] [mapV (kinM 3 1), .sl 1 (ns .i64 ([1, 0, 0]))] _ (.tup [(.agg [(Sv ({data := #[49]} : ByteArray)), (Sv ({data := #[53]} : ByteArray))]), Nv 0]) [(4, (.var 32 [(Sv ({data := #[45, 53]} : ByteArray)), (Sv ({data := #[49]} : ByteArray))])), (2, oM 24 (kinM 3 1))] gn f117_ rfl ⟨⟨_, rfl⟩, trivial⟩ rfl rfl (LeL.cons (AV.le_refl _) (LeL.cons (AV.le_refl _) LeL.nil)) (by have h := c_yFixed (kinM 3 1) [1, 0, 0] (by decide); rw [ex6_f2.1, ex6_f2.2] at h; exact h) rfl ?_
 refine o_mv (.tup [(.agg [(Sv ({data := #[49]} : ByteArray)), (Sv ({data := #[53]} : ByteArray))]), Nv 0]) rfl (o_extract (.agg [(Sv ({data := #[49]} : ByteArray)), (Sv ({data := #[53]} : ByteArray))]) gn rfl rfl (o_extract (Nv 0) gn rfl rfl ?_))
 refine o_alloc 6 [Sv Ev, Sv Ev] gn f69_ rfl rfl rfl ?_
 refine o_store [(6, (.var 32 [(Sv ({data := #[49]} : ByteArray)), (Sv ({data := #[53]} : ByteArray))])), (4, (.var 32 [(Sv ({data := #[45, 53]} : ByteArray)), (Sv ({data := #[49]} : ByteArray))])), (2, oM 24 (kinM 3 1))] gn f74_ rfl rfl rfl rfl rfl rfl ?_
 refine o_as (Nv 0) rfl (aops_end (hK3 _ (awp_seq fun K4 hK4 => awp_region rfl ?_)))
 refine o_loadA [Iv ((kinM 3 1).mod), Lv ((kinM 3 1).mul), Lv ((kinM 3 1).add)] gn f49_ rfl rfl rfl rfl rfl ?_
 refine o_call [mapV (kinM 3 1), Nv 11] (.tup [.sl 1 (gcells cP colL), Nv 0]) gn f118_ rfl (by have h := c_Loops (kinM 3 1) 11 (by decide); rw [show lpL (kinM 3 1) 11 = colL from col_lp, show chkE (kinM 3 1) 11 = 0 from col_chk] at h; exact h) ?_
 refine o_mv (.tup [.sl 1 (gcells cP colL), Nv 0]) rfl (o_extract (.sl 1 (gcells cP colL)) gn rfl rfl (o_extract (Nv 0) gn rfl rfl (o_as (.sl 1 (gcells cP colL)) rfl (o_as (Nv 0) rfl (aops_end (hK4 _ (awp_seq fun K5 hK5 => awp_region rfl (o_mv (Nv 0) rfl ?_))))))))
 refine n_eql 0 0 gn rfl rfl ?_
 refine o_mv (bp (0 = 0)) rfl ?_
 refine n_as (v' := Tv) (by exact bpy (by first | rfl | decide | exact ex6_s1 | exact ex6_s2 | exact ex6_s3 | exact ex6_s4 | exact ex6_s5)) ?_
 refine o_loadA [(Sv ({data := #[45, 53]} : ByteArray)), (Sv ({data := #[49]} : ByteArray))] (Gd.yes rfl rfl rfl) f75_ rfl rfl rfl rfl rfl ?_
 refine o_build [(Sv ({data := #[45, 53]} : ByteArray)), (Sv ({data := #[49]} : ByteArray))] [(0, [(Sv ({data := #[45, 53]} : ByteArray))]), (1, [(Sv ({data := #[49]} : ByteArray))])] (Gd.yes rfl rfl rfl) f73_ f69_ rfl rfl rfl ?_
 refine o_eqlA [.string ({data := #[45, 53]} : ByteArray), .string ({data := #[49]} : ByteArray)] [.string ({data := #[45, 53]} : ByteArray), .string ({data := #[49]} : ByteArray)] (({data := #[45, 53]} : ByteArray) = ({data := #[45, 53]} : ByteArray) ∧ ({data := #[49]} : ByteArray) = ({data := #[49]} : ByteArray)) (Gd.yes rfl rfl rfl) rfl rfl (eq_api_Frac _ _ _ _) ?_
 refine o_pickT (bp (({data := #[45, 53]} : ByteArray) = ({data := #[45, 53]} : ByteArray) ∧ ({data := #[49]} : ByteArray) = ({data := #[49]} : ByteArray))) gn rfl rfl rfl ?_
 refine o_mv (bp (({data := #[45, 53]} : ByteArray) = ({data := #[45, 53]} : ByteArray) ∧ ({data := #[49]} : ByteArray) = ({data := #[49]} : ByteArray))) rfl ?_
 refine n_as (v' := Tv) (by exact bpy (by first | rfl | decide | exact ex6_s1 | exact ex6_s2 | exact ex6_s3 | exact ex6_s4 | exact ex6_s5)) ?_
 refine o_move (Nv 0) (Gd.yes rfl rfl rfl) rfl ?_
 refine n_eql 0 0 (Gd.yes rfl rfl rfl) rfl rfl ?_
 refine o_pickT (bp (0 = 0)) gn rfl rfl rfl ?_
 refine o_mv (bp (0 = 0)) rfl ?_
 refine n_as (v' := Tv) (by exact bpy (by first | rfl | decide | exact ex6_s1 | exact ex6_s2 | exact ex6_s3 | exact ex6_s4 | exact ex6_s5)) ?_
 refine o_loadA [(Sv ({data := #[49]} : ByteArray)), (Sv ({data := #[53]} : ByteArray))] (Gd.yes rfl rfl rfl) f75_ rfl rfl rfl rfl rfl ?_
 refine o_build [(Sv ({data := #[49]} : ByteArray)), (Sv ({data := #[53]} : ByteArray))] [(0, [(Sv ({data := #[49]} : ByteArray))]), (1, [(Sv ({data := #[53]} : ByteArray))])] (Gd.yes rfl rfl rfl) f73_ f69_ rfl rfl rfl ?_
 refine o_eqlA [.string ({data := #[49]} : ByteArray), .string ({data := #[53]} : ByteArray)] [.string ({data := #[49]} : ByteArray), .string ({data := #[53]} : ByteArray)] (({data := #[49]} : ByteArray) = ({data := #[49]} : ByteArray) ∧ ({data := #[53]} : ByteArray) = ({data := #[53]} : ByteArray)) (Gd.yes rfl rfl rfl) rfl rfl (eq_api_Frac _ _ _ _) ?_
 refine o_pickT (bp (({data := #[49]} : ByteArray) = ({data := #[49]} : ByteArray) ∧ ({data := #[53]} : ByteArray) = ({data := #[53]} : ByteArray))) gn rfl rfl rfl ?_
 refine o_mv (bp (({data := #[49]} : ByteArray) = ({data := #[49]} : ByteArray) ∧ ({data := #[53]} : ByteArray) = ({data := #[53]} : ByteArray))) rfl ?_
 refine n_as (v' := Tv) (by exact bpy (by first | rfl | decide | exact ex6_s1 | exact ex6_s2 | exact ex6_s3 | exact ex6_s4 | exact ex6_s5)) ?_
 refine o_move (Nv 0) (Gd.yes rfl rfl rfl) rfl ?_
 refine n_eql 0 0 (Gd.yes rfl rfl rfl) rfl rfl ?_
 refine o_pickT (bp (0 = 0)) gn rfl rfl rfl ?_
 refine o_mv (bp (0 = 0)) rfl ?_
 refine n_as (v' := Tv) (by exact bpy (by first | rfl | decide | exact ex6_s1 | exact ex6_s2 | exact ex6_s3 | exact ex6_s4 | exact ex6_s5)) ?_
 refine o_move (.sl 1 (gcells cP colL)) (Gd.yes rfl rfl rfl) rfl ?_
 refine g_len cP colL cP_len (Gd.yes rfl rfl rfl) f119_ rfl ?_
 refine n_eql (colL.length) 5 (Gd.yes rfl rfl rfl) rfl rfl ?_
 refine o_pickT (bp ((colL.length) = 5)) gn rfl rfl rfl ?_
 refine o_mv (bp ((colL.length) = 5)) rfl ?_
 refine n_as (v' := Tv) (by exact bpy (by first | rfl | decide | exact ex6_s1 | exact ex6_s2 | exact ex6_s3 | exact ex6_s4 | exact ex6_s5)) ?_
 refine o_move (.sl 1 (gcells cP colL)) (Gd.yes rfl rfl rfl) rfl ?_
 refine g_index cP colL 0 cP_len rfl (Gd.yes rfl rfl rfl) f113_ rfl rfl (by decide) ?_
 refine g_field cP colL 0 cP_len (Gd.yes rfl rfl rfl) f120_ rfl (by decide) rfl ?_
 refine g_loadS cP colL 0 default (.sl 1 (sbs ((colL.getD 0 default).map txt))) cP_len (Gd.yes rfl rfl rfl) f121_ rfl (by decide) rfl ?_
 refine o_buildSlice 7 (sbs ([({data := #[45, 49]} : ByteArray)])) [(0, [(Sv ({data := #[45, 49]} : ByteArray))])] (Gd.yes rfl rfl rfl) f109_ rfl f110_ rfl rfl rfl rfl rfl rfl rfl ?_
 refine o_callG [(7, 1, (sbs ([({data := #[45, 49]} : ByteArray)])))] [.sl 1 (sbs ((colL.getD 0 default).map txt)), (.sl 1 (sbs ([({data := #[45, 49]} : ByteArray)])))] _ (bp ((colL.getD 0 default).map txt = [({data := #[45, 49]} : ByteArray)])) [(6, (.var 32 [(Sv ({data := #[49]} : ByteArray)), (Sv ({data := #[53]} : ByteArray))])), (4, (.var 32 [(Sv ({data := #[45, 53]} : ByteArray)), (Sv ({data := #[49]} : ByteArray))])), (2, oM 24 (kinM 3 1))] (Gd.yes rfl rfl rfl) f122_ rfl ⟨⟨_, rfl⟩, trivial⟩ rfl rfl (LeL.cons (AV.le_refl _) (LeL.cons (AV.le_refl _) LeL.nil)) (c_l6Same ((colL.getD 0 default).map txt) ([({data := #[45, 49]} : ByteArray)])) rfl ?_
 refine o_pickT (bp ((colL.getD 0 default).map txt = [({data := #[45, 49]} : ByteArray)])) gn rfl rfl rfl ?_
 refine o_mv (bp ((colL.getD 0 default).map txt = [({data := #[45, 49]} : ByteArray)])) rfl ?_
 refine n_as (v' := Tv) (by exact bpy (by first | rfl | decide | exact ex6_s1 | exact ex6_s2 | exact ex6_s3 | exact ex6_s4 | exact ex6_s5)) ?_
 refine o_move (.sl 1 (gcells cP colL)) (Gd.yes rfl rfl rfl) rfl ?_
 refine g_index cP colL 1 cP_len rfl (Gd.yes rfl rfl rfl) f113_ rfl rfl (by decide) ?_
 refine g_field cP colL 1 cP_len (Gd.yes rfl rfl rfl) f120_ rfl (by decide) rfl ?_
 refine g_loadS cP colL 1 default (.sl 1 (sbs ((colL.getD 1 default).map txt))) cP_len (Gd.yes rfl rfl rfl) f121_ rfl (by decide) rfl ?_
 refine o_buildSlice 8 (sbs ([({data := #[48]} : ByteArray)])) [(0, [(Sv ({data := #[48]} : ByteArray))])] (Gd.yes rfl rfl rfl) f109_ rfl f110_ rfl rfl rfl rfl rfl rfl rfl ?_
 refine o_callG [(8, 1, (sbs ([({data := #[48]} : ByteArray)])))] [.sl 1 (sbs ((colL.getD 1 default).map txt)), (.sl 1 (sbs ([({data := #[48]} : ByteArray)])))] _ (bp ((colL.getD 1 default).map txt = [({data := #[48]} : ByteArray)])) [(6, (.var 32 [(Sv ({data := #[49]} : ByteArray)), (Sv ({data := #[53]} : ByteArray))])), (4, (.var 32 [(Sv ({data := #[45, 53]} : ByteArray)), (Sv ({data := #[49]} : ByteArray))])), (2, oM 24 (kinM 3 1))] (Gd.yes rfl rfl rfl) f122_ rfl ⟨⟨_, rfl⟩, trivial⟩ rfl rfl (LeL.cons (AV.le_refl _) (LeL.cons (AV.le_refl _) LeL.nil)) (c_l6Same ((colL.getD 1 default).map txt) ([({data := #[48]} : ByteArray)])) rfl ?_
 refine o_pickT (bp ((colL.getD 1 default).map txt = [({data := #[48]} : ByteArray)])) gn rfl rfl rfl ?_
 refine o_mv (bp ((colL.getD 1 default).map txt = [({data := #[48]} : ByteArray)])) rfl ?_
 refine n_as (v' := Tv) (by exact bpy (by first | rfl | decide | exact ex6_s1 | exact ex6_s2 | exact ex6_s3 | exact ex6_s4 | exact ex6_s5)) ?_
 refine o_move (.sl 1 (gcells cP colL)) (Gd.yes rfl rfl rfl) rfl ?_
 refine g_index cP colL 2 cP_len rfl (Gd.yes rfl rfl rfl) f113_ rfl rfl (by decide) ?_
 refine g_field cP colL 2 cP_len (Gd.yes rfl rfl rfl) f120_ rfl (by decide) rfl ?_
 refine g_loadS cP colL 2 default (.sl 1 (sbs ((colL.getD 2 default).map txt))) cP_len (Gd.yes rfl rfl rfl) f121_ rfl (by decide) rfl ?_
 refine o_buildSlice 9 (sbs ([({data := #[49]} : ByteArray), ({data := #[50]} : ByteArray)])) [(0, [(Sv ({data := #[49]} : ByteArray))]), (1, [(Sv ({data := #[50]} : ByteArray))])] (Gd.yes rfl rfl rfl) f109_ rfl f110_ rfl rfl rfl rfl rfl rfl rfl ?_
 refine o_callG [(9, 1, (sbs ([({data := #[49]} : ByteArray), ({data := #[50]} : ByteArray)])))] [.sl 1 (sbs ((colL.getD 2 default).map txt)), (.sl 1 (sbs ([({data := #[49]} : ByteArray), ({data := #[50]} : ByteArray)])))] _ (bp ((colL.getD 2 default).map txt = [({data := #[49]} : ByteArray), ({data := #[50]} : ByteArray)])) [(6, (.var 32 [(Sv ({data := #[49]} : ByteArray)), (Sv ({data := #[53]} : ByteArray))])), (4, (.var 32 [(Sv ({data := #[45, 53]} : ByteArray)), (Sv ({data := #[49]} : ByteArray))])), (2, oM 24 (kinM 3 1))] (Gd.yes rfl rfl rfl) f122_ rfl ⟨⟨_, rfl⟩, trivial⟩ rfl rfl (LeL.cons (AV.le_refl _) (LeL.cons (AV.le_refl _) LeL.nil)) (c_l6Same ((colL.getD 2 default).map txt) ([({data := #[49]} : ByteArray), ({data := #[50]} : ByteArray)])) rfl ?_
 refine o_pickT (bp ((colL.getD 2 default).map txt = [({data := #[49]} : ByteArray), ({data := #[50]} : ByteArray)])) gn rfl rfl rfl ?_
 refine o_mv (bp ((colL.getD 2 default).map txt = [({data := #[49]} : ByteArray), ({data := #[50]} : ByteArray)])) rfl ?_
 refine n_as (v' := Tv) (by exact bpy (by first | rfl | decide | exact ex6_s1 | exact ex6_s2 | exact ex6_s3 | exact ex6_s4 | exact ex6_s5)) ?_
 refine o_move (.sl 1 (gcells cP colL)) (Gd.yes rfl rfl rfl) rfl ?_
 refine g_index cP colL 3 cP_len rfl (Gd.yes rfl rfl rfl) f113_ rfl rfl (by decide) ?_
 refine g_field cP colL 3 cP_len (Gd.yes rfl rfl rfl) f120_ rfl (by decide) rfl ?_
 refine g_loadS cP colL 3 default (.sl 1 (sbs ((colL.getD 3 default).map txt))) cP_len (Gd.yes rfl rfl rfl) f121_ rfl (by decide) rfl ?_
 refine o_buildSlice 10 (sbs ([({data := #[45, 49, 48]} : ByteArray), ({data := #[45, 53]} : ByteArray), ({data := #[45, 55]} : ByteArray)])) [(0, [(Sv ({data := #[45, 49, 48]} : ByteArray))]), (1, [(Sv ({data := #[45, 53]} : ByteArray))]), (2, [(Sv ({data := #[45, 55]} : ByteArray))])] (Gd.yes rfl rfl rfl) f109_ rfl f110_ rfl rfl rfl rfl rfl rfl rfl ?_
 refine o_callG [(10, 1, (sbs ([({data := #[45, 49, 48]} : ByteArray), ({data := #[45, 53]} : ByteArray), ({data := #[45, 55]} : ByteArray)])))] [.sl 1 (sbs ((colL.getD 3 default).map txt)), (.sl 1 (sbs ([({data := #[45, 49, 48]} : ByteArray), ({data := #[45, 53]} : ByteArray), ({data := #[45, 55]} : ByteArray)])))] _ (bp ((colL.getD 3 default).map txt = [({data := #[45, 49, 48]} : ByteArray), ({data := #[45, 53]} : ByteArray), ({data := #[45, 55]} : ByteArray)])) [(6, (.var 32 [(Sv ({data := #[49]} : ByteArray)), (Sv ({data := #[53]} : ByteArray))])), (4, (.var 32 [(Sv ({data := #[45, 53]} : ByteArray)), (Sv ({data := #[49]} : ByteArray))])), (2, oM 24 (kinM 3 1))] (Gd.yes rfl rfl rfl) f122_ rfl ⟨⟨_, rfl⟩, trivial⟩ rfl rfl (LeL.cons (AV.le_refl _) (LeL.cons (AV.le_refl _) LeL.nil)) (c_l6Same ((colL.getD 3 default).map txt) ([({data := #[45, 49, 48]} : ByteArray), ({data := #[45, 53]} : ByteArray), ({data := #[45, 55]} : ByteArray)])) rfl ?_
 refine o_pickT (bp ((colL.getD 3 default).map txt = [({data := #[45, 49, 48]} : ByteArray), ({data := #[45, 53]} : ByteArray), ({data := #[45, 55]} : ByteArray)])) gn rfl rfl rfl ?_
 refine o_mv (bp ((colL.getD 3 default).map txt = [({data := #[45, 49, 48]} : ByteArray), ({data := #[45, 53]} : ByteArray), ({data := #[45, 55]} : ByteArray)])) rfl ?_
 refine n_as (v' := Tv) (by exact bpy (by first | rfl | decide | exact ex6_s1 | exact ex6_s2 | exact ex6_s3 | exact ex6_s4 | exact ex6_s5)) ?_
 refine o_move (.sl 1 (gcells cP colL)) (Gd.yes rfl rfl rfl) rfl ?_
 refine g_index cP colL 4 cP_len rfl (Gd.yes rfl rfl rfl) f113_ rfl rfl (by decide) ?_
 refine g_field cP colL 4 cP_len (Gd.yes rfl rfl rfl) f120_ rfl (by decide) rfl ?_
 refine g_loadS cP colL 4 default (.sl 1 (sbs ((colL.getD 4 default).map txt))) cP_len (Gd.yes rfl rfl rfl) f121_ rfl (by decide) rfl ?_
 refine s_len ((colL.getD 4 default).map txt) (Gd.yes rfl rfl rfl) f114_ rfl ?_
 refine n_eql (((colL.getD 4 default).map txt).length) 11 (Gd.yes rfl rfl rfl) rfl rfl ?_
 refine o_pickT (bp ((((colL.getD 4 default).map txt).length) = 11)) gn rfl rfl rfl ?_
 refine o_mv (bp ((((colL.getD 4 default).map txt).length) = 11)) rfl ?_
 refine n_as (v' := Tv) (by exact bpy (by first | rfl | decide | exact ex6_s1 | exact ex6_s2 | exact ex6_s3 | exact ex6_s4 | exact ex6_s5)) ?_
 refine o_move (.sl 1 (gcells cP colL)) (Gd.yes rfl rfl rfl) rfl ?_
 refine g_index cP colL 4 cP_len rfl (Gd.yes rfl rfl rfl) f113_ rfl rfl (by decide) ?_
 refine g_field cP colL 4 cP_len (Gd.yes rfl rfl rfl) f120_ rfl (by decide) rfl ?_
 refine g_loadS cP colL 4 default (.sl 1 (sbs ((colL.getD 4 default).map txt))) cP_len (Gd.yes rfl rfl rfl) f121_ rfl (by decide) rfl ?_
 refine s_index ((colL.getD 4 default).map txt) 0 (Gd.yes rfl rfl rfl) f109_ rfl rfl (by decide) ?_
 refine s_loadI ((colL.getD 4 default).map txt) 0 (Gd.yes rfl rfl rfl) f115_ rfl (by decide) ?_
 refine o_eqlS (a := (((colL.getD 4 default).map txt).getD 0 { data := #[] })) (c := ({data := #[45, 49, 51, 54]} : ByteArray)) (Gd.yes rfl rfl rfl) rfl rfl ?_
 refine o_pickT (bp ((((colL.getD 4 default).map txt).getD 0 { data := #[] }).toList = ({data := #[45, 49, 51, 54]} : ByteArray).toList)) gn rfl rfl rfl ?_
 refine o_as (bp ((((colL.getD 4 default).map txt).getD 0 { data := #[] }).toList = ({data := #[45, 49, 51, 54]} : ByteArray).toList)) rfl (aops_end (hK5 _ ?_))
 refine awp_ret ?_
 refine post_ret ⟨[(bp ((((colL.getD 4 default).map txt).getD 0 { data := #[] }).toList = ({data := #[45, 49, 51, 54]} : ByteArray).toList))], ⟨AV.le_refl _, trivial⟩, rfl, ?_⟩
 exact (bpy (by rw [ex6_s5])).symm

theorem c_l6Proper (m : MapM) (w : List Int) (hl : w.length ≤ 17592186044416) : ECalls cx 5 [mapV m, Lv w] (bp (cycE m w = 0)) := by
 refine ecalls_of_awp Tryd.func5 (c := _) rfl (Nat.le_of_ble_eq_true rfl) ?_
 show awp cx 21 _ (postF cx Tryd.f5 _) ⟨[(0, mapV m), (1, Lv w)], []⟩
 refine awp_seq fun K0 hK0 => awp_region rfl ?_
 refine o_box 2 [Iv m.mod, Lv m.mul, Lv m.add] gn rfl rfl ?_
 refine o_as Fv rfl (aops_end (hK0 _ (awp_seq fun K1 hK1 => awp_region rfl ?_)))
 refine o_loadA [Iv m.mod, Lv m.mul, Lv m.add] gn f49_ rfl rfl rfl rfl rfl ?_
 refine o_ct (c_gValid m) gn f123_ rfl ?_
 refine o_mv (.lit (.bool (okM m))) rfl ?_
 refine o_split (b := okM m) 7 rfl (fun h1 => ?_) (fun h1 => ?_)
 ·have hm' : okM m = true := by simpa using h1
  have hM := okM_iff.1 hm'
  refine o_loadA [Iv m.mod, Lv m.mul, Lv m.add] (Gd.yes rfl rfl h1) f49_ rfl rfl rfl rfl rfl ?_
  refine o_ct (c_gRegular m (by first | assumption | exact okM_iff.1 (by assumption))) (Gd.yes rfl rfl h1) f124_ rfl ?_
  refine o_pickT (bp (freeM m)) gn rfl h1 rfl ?_
  refine o_mv (bp (freeM m)) rfl ?_
  refine o_splitP (q := freeM m) 11 rfl (fun h2 => ?_) (fun h2 => ?_)
  ·refine o_loadA [Iv m.mod, Lv m.mul, Lv m.add] (Gd.yes rfl rfl (decide_eq_true h2)) f49_ rfl rfl rfl rfl rfl ?_
   refine o_move (Lv w) (Gd.yes rfl rfl (decide_eq_true h2)) rfl ?_
   refine o_ct (c_vIs m w (by omega)) (Gd.yes rfl rfl (decide_eq_true h2)) f125_ rfl ?_
   refine o_pickT (bp (OkW m w)) gn rfl (decide_eq_true h2) rfl ?_
   refine o_mv (bp (OkW m w)) rfl ?_
   refine o_splitP (q := OkW m w) 16 rfl (fun h3 => ?_) (fun h3 => ?_)
   ·refine o_move (Lv w) (Gd.yes rfl rfl (decide_eq_true h3)) rfl ?_
    refine i_len w (Gd.yes rfl rfl (decide_eq_true h3)) f40_ rfl ?_
    refine n_gtr (w.length) 0 (Gd.yes rfl rfl (decide_eq_true h3)) rfl rfl ?_
    refine o_pickT (bp (0 < (w.length))) gn rfl (decide_eq_true h3) rfl ?_
    refine o_as (bp (0 < (w.length))) rfl (aops_end (hK1 _ ?_))
    refine awp_ret ?_
    refine post_ret ⟨[bp (0 < (w.length))], ⟨AV.le_refl _, trivial⟩, rfl, ?_⟩
    exact bpc ⟨fun e => List.length_pos_iff.2 (cyc_0' e).2.2.2, fun e => cyc_0 hm' ⟨h2, h3, List.length_pos_iff.1 e⟩⟩
   ·refine o_skip rfl rfl (decide_eq_false h3) (o_skip rfl rfl (decide_eq_false h3) (o_skip rfl rfl (decide_eq_false h3) ?_))
    refine o_pickF Fv gn rfl (decide_eq_false h3) rfl ?_
    refine o_as Fv rfl (aops_end (hK1 _ ?_))
    refine awp_ret ?_
    refine post_ret ⟨[Fv], ⟨AV.le_refl _, trivial⟩, rfl, ?_⟩
    exact bpn (fun e => absurd (cyc_0' e).2.2.1 h3)
  ·refine o_skip rfl rfl (decide_eq_false h2) (o_skip rfl rfl (decide_eq_false h2) (o_skip rfl rfl (decide_eq_false h2) ?_))
   refine o_pickF Fv gn rfl (decide_eq_false h2) rfl ?_
   refine o_mv Fv rfl (o_skip rfl rfl rfl (o_skip rfl rfl rfl (o_skip rfl rfl rfl ?_)))
   refine o_pickF Fv gn rfl rfl rfl ?_
   refine o_as Fv rfl (aops_end (hK1 _ ?_))
   refine awp_ret ?_
   refine post_ret ⟨[Fv], ⟨AV.le_refl _, trivial⟩, rfl, ?_⟩
   exact bpn (fun e => absurd (cyc_0' e).2.1 h2)
 ·have hm' : ¬ okM m = true := by simpa using h1
  refine o_skip rfl rfl h1 (o_skip rfl rfl h1 ?_)
  refine o_pickF Fv gn rfl h1 rfl ?_
  refine o_mv Fv rfl (o_skip rfl rfl rfl (o_skip rfl rfl rfl (o_skip rfl rfl rfl ?_)))
  refine o_pickF Fv gn rfl rfl rfl ?_
  refine o_mv Fv rfl (o_skip rfl rfl rfl (o_skip rfl rfl rfl (o_skip rfl rfl rfl ?_)))
  refine o_pickF Fv gn rfl rfl rfl ?_
  refine o_as Fv rfl (aops_end (hK1 _ ?_))
  refine awp_ret ?_
  refine post_ret ⟨[Fv], ⟨AV.le_refl _, trivial⟩, rfl, ?_⟩
  exact bpn (fun e => absurd (okM_iff.2 (cyc_0' e).1) hm')

end Go.Proofs.YtdmkejloknejdaaDoor

namespace Go.Mth
open Go.Ab
theorem per_min {m : MapM} {x : Int} : ∀ k, 0 < k → iterZ m k x = x → ∃ p, 0 < p ∧ p ≤ k ∧ iterZ m p x = x ∧ ∀ i, 0 < i → i < p → iterZ m i x ≠ x := by
 intro k
 induction k using Nat.strongRecOn with
 | ind k ih =>
  intro hk h
  by_cases hh : ∃ i, 0 < i ∧ i < k ∧ iterZ m i x = x
  ·obtain ⟨i, h1, h2, h3⟩ := hh
   obtain ⟨p, a, b, c, d⟩ := ih i h2 h1 h3
   exact ⟨p, a, by omega, c, d⟩
  ·exact ⟨k, hk, Nat.le_refl _, h, fun i h1 h2 h3 => hh ⟨i, h1, h2, h3⟩⟩
theorem arg_min (f : Nat → Int) : ∀ n, 0 < n → ∃ d, d < n ∧ ∀ i, i < n → f d ≤ f i
 | 0, h => absurd h (by decide)
 | 1, _ => ⟨0, by decide, fun i hi => by rw [show i = 0 by omega]; exact Int.le_refl _⟩
 | n + 2, _ => by
  obtain ⟨d, h1, h2⟩ := arg_min f (n + 1) (by omega)
  by_cases h : f d ≤ f (n + 1)
  ·exact ⟨d, by omega, fun i hi => by
    by_cases e : i = n + 1
    ·rw [e]; exact h
    ·exact h2 i (by omega)⟩
  ·exact ⟨n + 1, by omega, fun i hi => by
    by_cases e : i = n + 1
    ·rw [e]; exact Int.le_refl _
    ·have := h2 i (by omega)
     omega⟩
theorem word_inj {m : MapM} (hm : OkM m) (hf : freeM m) {y z : Int} {p : Nat} (hp : 0 < p) (hy : iterZ m p y = y) (hz : iterZ m p z = z) (h : wordZ m y p = wordZ m z p) : y = z := by
 have a := int_fix hm hf hp hy
 rw [h, int_fix hm hf hp hz] at a
 exact (congrArg FrZ.num a).symm
theorem iter_back {m : MapM} {x : Int} {p : Nat} (h : iterZ m p x = x) (d : Nat) : iterZ m p (iterZ m d x) = iterZ m d x := by rw [iterZ_add, Nat.add_comm, iterZ_per h]
theorem first_rot {m : MapM} (hm : OkM m) (hf : freeM m) {x : Int} {p : Nat} (hp : 0 < p) (h : iterZ m p x = x) (ha : ∀ i, 0 < i → i < p → iterZ m i x ≠ x) : ∃ d, d < p ∧ firstP (wordZ m (iterZ m d x) p) := by
 obtain ⟨d, hd, hmin⟩ := arg_min (fun d => valW m.mod (wordZ m (iterZ m d x) p)) p hp
 refine ⟨d, hd, (first_val hm (wordZ_is hm _ _)).2 fun i hi h0 => ?_⟩
 rw [wordZ_len] at hi
 rw [valW_pos_rot hm (iter_back h d) (Nat.le_of_lt hi)]
 have h1 := hmin ((i + d) % p) (Nat.mod_lt _ hp)
 have h2 : iterZ m i (iterZ m d x) = iterZ m ((i + d) % p) x := by rw [iterZ_add, iterZ_mod h]
 rcases Int.lt_or_eq_of_le h1 with e | e
 ·rw [h2]; exact e
 ·have e2 := valW_inj hm (wordZ_is hm _ _) (wordZ_is hm _ _) (by rw [wordZ_len, wordZ_len]) e
  have e3 := word_inj hm hf hp (iter_back h d) (iter_back h _) e2
  exact absurd (h2.trans e3.symm) (iter_alone h ha hd i h0 hi)
theorem rot_mem {α : Type} {l : List α} {i : Nat} {y : α} : y ∈ rotL l i ↔ y ∈ l := by
 unfold rotL
 rw [List.mem_append]
 constructor
 ·rintro (h | h)
  ·exact List.mem_of_mem_drop h
  ·exact List.mem_of_mem_take h
 ·intro h
  rw [← List.take_append_drop i l, List.mem_append] at h
  exact h.symm
theorem orb_mem {m : MapM} {x y : Int} {n : Nat} : y ∈ orbL m x n ↔ ∃ i, i < n ∧ y = iterZ m i x := by
 unfold orbL
 rw [List.mem_map]
 constructor
 ·rintro ⟨i, h, rfl⟩; exact ⟨i, List.mem_range.1 h, rfl⟩
 ·rintro ⟨i, h, rfl⟩; exact ⟨i, List.mem_range.2 h, rfl⟩
theorem cyc_mem {m : MapM} {x y : Int} {n : Nat} : y ∈ cyc m x n ↔ ∃ i, i < n ∧ y = iterZ m i x := by unfold cyc rotM; rw [rot_mem, orb_mem]
theorem lsT_has {m : MapM} (hm : OkM m) (hf : freeM m) {n : Nat} (hn : 0 < n) {y : Int} (h : iterZ m n y = y) (h1 : firstP (wordZ m y n)) : cyc m y n ∈ lsT m n (m.mod.toNat ^ n) := by
 have hw := wordZ_is hm y n
 have hl := wordZ_len m y n
 have hwt : wordT m.mod.toNat n (valW m.mod (wordZ m y n)).toNat = wordZ m y n := by
  have := wordT_valW hm _ hw
  rwa [hl] at this
 have hb := valW_bd hm _ hw
 rw [hl, ← toNat_pw hm n] at hb
 have e := int_fix hm hf hn h
 unfold lsT
 refine List.mem_map.2 ⟨(valW m.mod (wordZ m y n)).toNat, List.mem_filter.2 ⟨List.mem_range.2 (by omega), decide_eq_true ?_⟩, ?_⟩
 ·rw [hwt]; exact ⟨h1, by rw [e]⟩
 ·unfold cyT; rw [hwt, e]
theorem lpN_mem {m : MapM} {n : Nat} {l : List Int} : l ∈ lpN m n ↔ l ∈ lsT m n (m.mod.toNat ^ n) := (sortK_perm _).mem_iff
theorem cyU_mem {m : MapM} {l : List Int} : ∀ K, l ∈ cyU m K ↔ ∃ n, 0 < n ∧ n ≤ K ∧ l ∈ lpN m n
 | 0 => ⟨fun h => (by cases h), fun ⟨n, h1, h2, _⟩ => by omega⟩
 | K + 1 => by
  rw [cyU, List.mem_append, cyU_mem K]
  constructor
  ·rintro (⟨n, h1, h2, h3⟩ | h)
   ·exact ⟨n, h1, by omega, h3⟩
   ·exact ⟨K + 1, by omega, Nat.le_refl _, h⟩
  ·rintro ⟨n, h1, h2, h3⟩
   by_cases e : n = K + 1
   ·subst e; exact .inr h3
   ·exact .inl ⟨n, h1, by omega, h3⟩
theorem cyU_loo {m : MapM} (hm : OkM m) (hf : freeM m) {K : Nat} (hK : K ≤ 100) {l : List Int} (h : l ∈ cyU m K) : l.length ≤ K ∧ Loo m l.length l := by
 obtain ⟨n, h1, h2, h3⟩ := (cyU_mem K).1 h
 have h4 := lpN_loo hm hf h1 (by omega) h3
 rw [loo_len h4]
 exact ⟨h2, h4⟩
theorem loo_mem {m : MapM} {n : Nat} {l : List Int} (h : Loo m n l) {z : Int} (hz : z ∈ l) : ∃ i, i < n ∧ z = iterZ m i (hdL l) := by
 rw [h.orb] at hz
 exact orb_mem.1 hz
theorem loo_per {m : MapM} {n : Nat} {l : List Int} (h : Loo m n l) {z : Int} (hz : z ∈ l) : iterZ m n z = z := by
 obtain ⟨i, _, rfl⟩ := loo_mem h hz
 exact iter_back h.back i
theorem loo_alone {m : MapM} {n : Nat} {l : List Int} (h : Loo m n l) {z : Int} (hz : z ∈ l) : ∀ i, 0 < i → i < n → iterZ m i z ≠ z := by
 obtain ⟨i, hi, rfl⟩ := loo_mem h hz
 exact iter_alone h.back h.alone hi
theorem loo_le {m : MapM} {n : Nat} {a b : List Int} (ha : Loo m n a) (hb : Loo m n b) {z : Int} (h1 : z ∈ a) (h2 : z ∈ b) : hdL a ≤ hdL b := by
 obtain ⟨i, hi, e1⟩ := loo_mem ha h1
 obtain ⟨j, hj, e2⟩ := loo_mem hb h2
 have h3 : hdL b = iterZ m (n - j + i) (hdL a) := by
  rw [← iterZ_add, ← e1, e2, iterZ_add, show n - j + j = n by omega, hb.back]
 rw [h3, iterZ_mod ha.back]
 exact ha.low _ (Nat.mod_lt _ ha.pos)
theorem loo_one {m : MapM} {n k : Nat} {a b : List Int} (ha : Loo m n a) (hb : Loo m k b) {z : Int} (h1 : z ∈ a) (h2 : z ∈ b) : a = b := by
 have e : n = k := by
  rcases Nat.lt_trichotomy n k with h | h | h
  ·exact absurd (loo_per ha h1) (loo_alone hb h2 n ha.pos h)
  ·exact h
  ·exact absurd (loo_per hb h2) (loo_alone ha h1 k hb.pos h)
 subst e
 exact loo_inj ha hb (Int.le_antisymm (loo_le ha hb h1 h2) (loo_le hb ha h2 h1))
theorem cyU_has {m : MapM} (hm : OkM m) (hf : freeM m) {K k : Nat} (h1 : 0 < k) (h2 : k ≤ K) {x : Int} (h : iterZ m k x = x) : ∃ l, l ∈ cyU m K ∧ x ∈ l := by
 obtain ⟨p, hp, hpk, hb, ha⟩ := per_min k h1 h
 obtain ⟨d, hd, h3⟩ := first_rot hm hf hp hb ha
 refine ⟨cyc m (iterZ m d x) p, (cyU_mem K).2 ⟨p, hp, by omega, lpN_mem.2 (lsT_has hm hf hp (iter_back hb d) h3)⟩, cyc_mem.2 ⟨(p - d) % p, Nat.mod_lt _ hp, ?_⟩⟩
 rw [← iterZ_mod (iter_back hb d), iterZ_add, show p - d + d = p by omega, hb]
theorem mem_orb {m : MapM} {x : Int} {n : Nat} (h : iterZ m n x = x) {i : Nat} (hi : i < n) : ∃ j, j < n ∧ x = iterZ m j (iterZ m i x) := by
 refine ⟨(n - i) % n, Nat.mod_lt _ (by omega), ?_⟩
 rw [← iterZ_mod (iter_back h i), iterZ_add, show n - i + i = n by omega, h]
theorem lsT_nod {m : MapM} (hm : OkM m) (hf : freeM m) {n : Nat} (hn : 0 < n) (hn2 : n ≤ 100) : (lsT m n (m.mod.toNat ^ n)).Pairwise (· ≠ ·) := by
 have hM0 : 0 < m.mod.toNat := by have := hm.1; omega
 have hMM : ((m.mod.toNat : Nat) : Int) = m.mod := Int.toNat_of_nonneg (by have := hm.1; omega)
 unfold lsT
 rw [List.pairwise_map]
 refine (List.pairwise_lt_range.filter _).imp_of_mem ?_
 intro a b ha hb hab e
 obtain ⟨a1, a2⟩ := List.mem_filter.1 ha
 obtain ⟨b1, b2⟩ := List.mem_filter.1 hb
 have a3 := of_decide_eq_true a2
 have b3 := of_decide_eq_true b2
 have hwa := wordT_is hm n a
 have hwb := wordT_is hm n b
 have hla := wordT_len m.mod.toNat n a
 have hlb := wordT_len m.mod.toNat n b
 obtain ⟨_, ea1, ea2⟩ := fix_int hm hf hwa a3.2
 obtain ⟨_, eb1, eb2⟩ := fix_int hm hf hwb b3.2
 rw [hla] at ea1 ea2
 rw [hlb] at eb1 eb2
 unfold cyT at e
 generalize hy : (fixZ m (wordT m.mod.toNat n a)).num = y at *
 generalize hz : (fixZ m (wordT m.mod.toNat n b)).num = z at *
 have hyz : y = z := by
  have my : y ∈ cyc m z n := by rw [← e]; exact cyc_mem.2 ⟨0, hn, rfl⟩
  obtain ⟨i, hi, e1⟩ := cyc_mem.1 my
  obtain ⟨j, hj, e2⟩ := mem_orb eb1 hi
  rw [← e1] at e2
  by_cases h0 : i = 0
  ·rw [e1, h0]; rfl
  by_cases h1 : j = 0
  ·rw [e2, h1]; rfl
  have f1 := (first_val hm hwb).1 b3.1 i (by omega) (by omega)
  have f2 := (first_val hm hwa).1 a3.1 j (by omega) (by omega)
  rw [← eb2, valW_pos_rot hm eb1 (Nat.le_of_lt hi), ← e1] at f1
  rw [← ea2, valW_pos_rot hm ea1 (Nat.le_of_lt hj), ← e2] at f2
  omega
 have e3 : wordT m.mod.toNat n a = wordT m.mod.toNat n b := by rw [← ea2, ← eb2, hyz]
 have va := valW_wordT m.mod.toNat hM0 n a (List.mem_range.1 a1)
 have vb := valW_wordT m.mod.toNat hM0 n b (List.mem_range.1 b1)
 rw [e3, vb] at va
 omega
def ordL (a b : List Int) : Prop := a.length < b.length ∨ a.length = b.length ∧ hdL a < hdL b
instance (a b : List Int) : Decidable (ordL a b) := inferInstanceAs (Decidable (a.length < b.length ∨ a.length = b.length ∧ hdL a < hdL b))
theorem lpN_ord {m : MapM} (hm : OkM m) (hf : freeM m) {n : Nat} (hn : 0 < n) (hn2 : n ≤ 100) : (lpN m n).Pairwise ordL := by
 have h1 : (lpN m n).Pairwise (· ≠ ·) := (sortK_perm (lsT m n (m.mod.toNat ^ n))).symm.pairwise (lsT_nod hm hf hn hn2) (fun h => Ne.symm h)
 refine ((sortK_srt _).and h1).imp_of_mem ?_
 intro a b ha hb hab
 have la := lpN_loo hm hf hn hn2 ha
 have lb := lpN_loo hm hf hn hn2 hb
 refine .inr ⟨(loo_len la).trans (loo_len lb).symm, ?_⟩
 rcases Int.lt_or_eq_of_le hab.1 with e | e
 ·exact e
 ·exact absurd (loo_inj la lb e) hab.2
theorem cyU_ord {m : MapM} (hm : OkM m) (hf : freeM m) : ∀ K, K ≤ 100 → (cyU m K).Pairwise ordL
 | 0, _ => List.Pairwise.nil
 | K + 1, h => by
  rw [cyU, List.pairwise_append]
  refine ⟨cyU_ord hm hf K (by omega), lpN_ord hm hf (by omega) h, fun a ha b hb => .inl ?_⟩
  have h1 := (cyU_loo hm hf (by omega) ha).1
  have h2 := loo_len (lpN_loo hm hf (by omega) h hb)
  omega
theorem ord_ne {a b : List Int} (h : ordL a b) : a ≠ b := fun e => by
 subst e
 rcases h with h | h <;> omega
theorem orb_nod {m : MapM} {x : Int} {n : Nat} (h : iterZ m n x = x) (ha : ∀ i, 0 < i → i < n → iterZ m i x ≠ x) : (orbL m x n).Pairwise (· ≠ ·) := by
 unfold orbL
 rw [List.pairwise_map]
 refine List.pairwise_lt_range.imp_of_mem ?_
 intro i j hi hj hij e
 have hj := List.mem_range.1 hj
 refine ha (n - j + i) (by omega) (by omega) ?_
 rw [← iterZ_add, e, iterZ_add, show n - j + j = n by omega, h]
theorem cyU_flat {m : MapM} (hm : OkM m) (hf : freeM m) {K : Nat} (hK : K ≤ 100) : (cyU m K).flatten.Nodup := by
 unfold List.Nodup
 rw [List.pairwise_flatten]
 refine ⟨fun l hl => ?_, (cyU_ord hm hf K hK).imp_of_mem fun {a b} ha hb hab => ?_⟩
 ·have h := (cyU_loo hm hf hK hl).2
  rw [h.orb]
  exact orb_nod h.back h.alone
 ·intro x hx y hy e
  subst e
  exact ord_ne hab (loo_one (cyU_loo hm hf hK ha).2 (cyU_loo hm hf hK hb).2 hx hy)
theorem cyU_in {m : MapM} (hm : OkM m) (hf : freeM m) {K : Nat} (hK : K ≤ 100) {z : Int} : z ∈ (cyU m K).flatten ↔ ∃ k, 0 < k ∧ k ≤ K ∧ iterZ m k z = z := by
 rw [List.mem_flatten]
 constructor
 ·rintro ⟨l, h1, h2⟩
  obtain ⟨h3, h4⟩ := cyU_loo hm hf hK h1
  exact ⟨l.length, h4.pos, h3, loo_per h4 h2⟩
 ·rintro ⟨k, h1, h2, h3⟩
  exact cyU_has hm hf h1 h2 h3
theorem cyU_one {m : MapM} (hm : OkM m) (hf : freeM m) {K : Nat} (hK : K ≤ 100) (z : Int) : (cyU m K).flatten.count z ≤ 1 ∧ ((cyU m K).flatten.count z = 1 ↔ ∃ k, 0 < k ∧ k ≤ K ∧ iterZ m k z = z) := by
 have h1 : (cyU m K).flatten.count z ≤ 1 := List.nodup_iff_count.1 (cyU_flat hm hf hK) z
 refine ⟨h1, ?_⟩
 rw [← cyU_in hm hf hK, ← List.count_pos_iff]
 omega
end Go.Mth

namespace Go.Mth
open Go.Ab
def lstF (m : MapM) (x : Int) (i : Nat) : Nat := leastI (orbL m x i) i
def perP (m : MapM) (x : Int) (p : Nat) : Prop := 0 < p ∧ iterZ m p x = x ∧ ∀ i, 0 < i → i < p → iterZ m i x ≠ x
theorem per_one {m : MapM} {x : Int} {p q : Nat} (h : perP m x p) (h2 : perP m x q) : p = q := by
 rcases Nat.lt_trichotomy p q with e | e | e
 ·exact absurd h.2.1 (h2.2.2 p h.1 e)
 ·exact e
 ·exact absurd h2.2.1 (h.2.2 q h2.1 e)
open Classical in
noncomputable def refLp (m : MapM) (x : Int) (k : Int) : List Int := if h : ∃ p : Nat, (p : Int) ≤ k ∧ perP m x p then cyc m x (Classical.choose h) else []
end Go.Mth

namespace Go.Mth
open Go.Ab
def lnP (m : MapM) (n s : Nat) : List LinZ := (List.range s).map fun t => lineZ m (wordT m.mod.toNat n t)
def outP (m : MapM) (k : Int) (o : List (List Int)) (n t : Nat) : Prop := o.Pairwise ordL ∧ (∀ l ∈ o, l ∈ cyU m k.toNat) ∧ ∀ n' t', 0 < n' → (n' < n ∨ n' = n ∧ t' < t) → t' < m.mod.toNat ^ n' → (fixZ m (wordT m.mod.toNat n' t')).den = 1 → refLp m (fixZ m (wordT m.mod.toNat n' t')).num k ∈ o
end Go.Mth

namespace Go.Mth
open Go Go.Ab
def trnP (m : MapM) (w : List Int) (f : FrZ) : Prop := (∀ i, i < w.length → restF m (trnZ m w f i) = w.getD i 0) ∧ trnZ m w f w.length = f
noncomputable instance (m : MapM) (w : List Int) (f : FrZ) : Decidable (trnP m w f) := Classical.propDecidable _
def rdZ (x : Frc) : FrZ := ⟨numS x.num, numS x.den⟩
def rdO (x : Frc) : Prop := (okS x.num = true ∧ okS x.den = true) ∧ RedF (rdZ x)
noncomputable instance (x : Frc) : Decidable (rdO x) := Classical.propDecidable _
noncomputable def rdF (x : Frc) : FrZ := if okS x.num = true ∧ okS x.den = true then rdZ x else ⟨0, 0⟩
end Go.Mth

namespace Go.Mth
open Go Go.Ab
theorem take_sD {α : Type} [Inhabited α] {l : List α} {j : Nat} (h : j < l.length) : l.take (j + 1) = l.take j ++ [l.getD j default] := by
 rw [List.getD_eq_getElem?_getD, List.getElem?_eq_getElem h, List.take_succ_eq_append_getElem h]
 rfl
theorem cnt_s {l : List Int} {j : Nat} (h : j < l.length) (z : Int) : (l.take (j + 1)).count z = (l.take j).count z + if l.getD j default = z then 1 else 0 := by
 rw [take_sD h, List.count_append, List.count_singleton]
 by_cases e : l.getD j default = z
 ·simp [e]
 ·simp [e]
theorem cnt_y {l : List Int} {j c : Nat} {z : Int} (h : j < l.length) (e : l.getD j default = z) : c + (l.take j).count z + 1 = c + (l.take (j + 1)).count z := by rw [cnt_s h, if_pos e]; omega
theorem cnt_n {l : List Int} {j c : Nat} {z : Int} (h : j < l.length) (e : l.getD j default ≠ z) : c + (l.take j).count z = c + (l.take (j + 1)).count z := by rw [cnt_s h, if_neg e]; omega
theorem cnt_row {L : List (List Int)} {i j : Nat} {z : Int} (h : i < L.length) (hj : (L.getD i default).length ≤ j) : (L.take i).flatten.count z + ((L.getD i default).take j).count z = (L.take (i + 1)).flatten.count z := by
 rw [take_sD h, List.flatten_append, List.count_append, List.take_of_length_le hj]
 simp
theorem cnt_le {L : List (List Int)} {i j : Nat} {z : Int} (h : i < L.length) : (L.take i).flatten.count z + ((L.getD i default).take j).count z ≤ L.flatten.count z := by
 have h1 : ((L.getD i default).take j).count z ≤ (L.getD i default).count z := (List.take_sublist j _).count_le z
 have h2 := cnt_row (z := z) h (Nat.le_refl _)
 rw [List.take_length] at h2
 have h3 : L.flatten.count z = (L.take (i + 1)).flatten.count z + (L.drop (i + 1)).flatten.count z := by
  rw [← List.count_append, ← List.flatten_append, List.take_append_drop]
 omega
end Go.Mth

namespace Go.Mth
open Go Go.Ab
def wholeP (w : List Int) (d i : Nat) : Prop := ∀ j, j < i → d ≤ j → w.getD j 0 = w.getD (j - d) 0
instance (w : List Int) (d i : Nat) : Decidable (wholeP w d i) := inferInstanceAs (Decidable (∀ j, j < i → d ≤ j → w.getD j 0 = w.getD (j - d) 0))
theorem whole_0 (w : List Int) (d : Nat) : wholeP w d d := fun j h1 h2 => by omega
theorem whole_s {w : List Int} {d i : Nat} (h : wholeP w d i) (hd : d ≤ i) : wholeP w d (i + 1) ↔ w.getD i 0 = w.getD (i - d) 0 :=
 ⟨fun e => e i (by omega) hd, fun e j h1 h2 => by
  by_cases q : j = i
  ·rw [q]; exact e
  ·exact h j (by omega) h2⟩
theorem whole_n {w : List Int} {d i : Nat} (h : ¬ wholeP w d i) : ¬ wholeP w d (i + 1) := fun e => h fun j h1 h2 => e j (by omega) h2
def primP (w : List Int) : Prop := 0 < w.length ∧ ∀ d, 0 < d → d < w.length → w.length % d = 0 → ¬ wholeP w d w.length
noncomputable instance (w : List Int) : Decidable (primP w) := Classical.propDecidable _
theorem prim_per {m : MapM} (hm : OkM m) (hf : freeM m) {w : List Int} (hw : IsW m w) (hp : primP w) (hd : (fixZ m w).den = 1) : perP m (fixZ m w).num w.length := by
 obtain ⟨_, e1, e2⟩ := fix_int hm hf hw hd
 refine ⟨hp.1, e1, fun i h0 h1 h2 => ?_⟩
 obtain ⟨p, p0, pi, pb, pa⟩ := per_min i h0 h2
 have hr : w.length % p = 0 := by
  by_cases q : w.length % p = 0
  ·exact q
  ·have h3 := iterZ_mod pb w.length
   rw [e1] at h3
   exact absurd h3.symm (pa _ (by omega) (Nat.mod_lt _ p0))
 refine hp.2 p p0 (by omega) hr fun j hj hpj => ?_
 rw [← e2] at hj ⊢
 rw [wordZ_len] at hj
 rw [wordZ_get _ _ _ _ hj, wordZ_get _ _ _ _ (show j - p < w.length by omega)]
 have h4 := iterZ_per pb (j - p)
 rw [show j - p + p = j by omega] at h4
 rw [h4]
theorem prim_loo {m : MapM} (hm : OkM m) (hf : freeM m) {K : Nat} (hK : K ≤ 100) {x : Int} {n : Nat} (h : perP m x n) {X : List Int} (hX : X ∈ cyU m K) {i : Nat} (hi : i < X.length) (e : X.getD i default = x) : X.length = n ∧ ∀ j, X.getD ((i + j) % X.length) default = iterZ m j x := by
 obtain ⟨_, hl⟩ := cyU_loo hm hf hK hX
 have hx : x ∈ X := by
  rw [← e, List.getD_eq_getElem?_getD, List.getElem?_eq_getElem hi]
  exact List.getElem_mem _
 refine ⟨per_one ⟨hl.pos, loo_per hl hx, loo_alone hl hx⟩ h, fun j => ?_⟩
 rw [loo_get hl (Nat.mod_lt _ hl.pos), ← iterZ_mod hl.back, ← e, loo_get hl hi, iterZ_add, Nat.add_comm]
theorem trn_int {m : MapM} (hm : OkM m) (hf : freeM m) {w : List Int} (hw : IsW m w) (h1 : (fixZ m w).den = 1) {i : Nat} (hi : i ≤ w.length) : trnZ m w (fixZ m w) i = ⟨iterZ m i (fixZ m w).num, 1⟩ := (fix_int hm hf hw h1).1 i hi
theorem txt_1i {z : Int} : txt z = ⟨#[49]⟩ ↔ z = 1 := by
 have h : txt 1 = ⟨#[49]⟩ := by simp [txt, txtL, decs, strN]; rfl
 constructor
 ·intro e; rw [← h] at e; have := congrArg numS e; rwa [numS_txt, numS_txt] at this
 ·intro e; rw [e, h]
end Go.Mth

namespace Go.Proofs.YtdmkejloknejdaaDoor
open Go Go.Ab Go.Mth
theorem f126_ : callable cx.P 5 = true := by kernel_rfl
theorem f127_ : callable cx.P 6 = true := by kernel_rfl
theorem f128_ : callable cx.P 9 = true := by kernel_rfl
theorem f129_ : callable cx.P 10 = true := by kernel_rfl
theorem f130_ : callable cx.P 7 = true := by kernel_rfl
theorem f131_ : cx.P.underlying 27 = some (.slice 32) := by kernel_rfl
theorem f132_ : tyField cx.P 32 1 = some (1, 9) := by kernel_rfl
theorem f133_ : tyField cx.P 32 0 = some (0, 9) := by kernel_rfl
theorem c_vRests (m : MapM) (k : Int) (hM : OkM m) (hkb : k ≤ 9223372036854775807) : ECalls cx 9 [mapV m, Iv k] (.lit (.int .i64 (rstN m k))) := by
 refine ecalls_of_awp Tryd.func9 (c := _) rfl (Nat.le_of_ble_eq_true rfl) ?_
 show awp cx 21 _ (postF cx Tryd.f9 _) ⟨[(0, mapV m), (1, Iv k)], []⟩
 have hM2 := hM
 obtain ⟨o1, o2, o3, o4, o5⟩ := hM2
 refine awp_seq fun K0 hK0 => awp_region rfl ?_
 refine o_box 2 [Iv m.mod, Lv m.mul, Lv m.add] gn rfl rfl ?_
 refine o_as (Nv 0) rfl (aops_end (hK0 _ (awp_seq fun K1 hK1 => awp_region rfl (o_as (Nv 1) rfl ?_))))
 refine n_as (v' := (Iv (m.mod ^ 0))) (by exact congrArg (fun z => AV.lit (.int .i64 z)) (Int.pow_zero _).symm) ?_
 refine aops_end (hK1 _ (awp_seq fun K2 hK2 => awp_seq fun K3 hK3 => awp_region rfl (o_as (Nv 0) rfl (aops_end (hK3 _ ?_)))))
 refine awp_block ?_
 refine awp_loopR (fun κ σ => ∃ (i : Nat), (((i : Nat) : Int) ≤ k ∨ i = 0) ∧ (m.mod ^ i ≤ 65536) ∧ ((k - ((i : Nat) : Int)).toNat) = κ ∧ σ = ⟨[(1, Iv k), (2, .ref 2 0), (5, Iv (m.mod ^ i)), (6, Nv i)], [(2, oM 24 m)]⟩) ⟨_, _, ⟨0, .inr rfl, (by rw [Int.pow_zero]; decide), rfl, rfl⟩, ?wk0⟩ ?rd0
 case wk0 =>
  exact Wk.sub ⟨rfl, rfl, (by first | rfl | exact int_eq (by omega) | exact int_nm (by omega)), (by first | rfl | exact nm_int (by omega)), trivial⟩ ⟨rfl, trivial⟩
 rintro κ _ ⟨i, hi, hb, rfl, rfl⟩
 have hpp : 0 < m.mod ^ i := Int.pow_pos (by omega)
 have hmb := Int.mul_le_mul hb o2 (show (0 : Int) ≤ m.mod by omega) (by decide)
 have hml := Int.mul_pos hpp (show 0 < m.mod by omega)
 refine awp_seq fun K4 hK4 => awp_seq fun K5 hK5 => awp_region rfl (o_mv (Nv i) rfl (o_mv (Iv k) rfl ?_))
 refine o_lss (a := ((i : Nat) : Int)) (c := k) gn rfl rfl ?_
 refine aops_end (hK5 _ ?_)
 refine awp_condQ (q := ((i : Nat) : Int) < k) rfl (fun h1 => ?_) (fun h1 => ?_)
 ·refine awp_skip (hK4 _ (awp_seq fun K6 hK6 => ?_))
  refine awp_block ?_
  refine awp_seq fun K7 hK7 => awp_region rfl (o_mv (Iv (m.mod ^ i)) rfl ?_)
  refine o_fieldRef 0 gn f36_ rfl rfl ?_
  refine o_loadS (Iv m.mod) gn f37_ rfl rfl rfl ?_
  refine o_mul (a := (m.mod ^ i)) (c := m.mod) gn rfl rfl (by exact wrap64 (by omega) (by omega)) ?_
  refine n_as (v' := (Iv (m.mod ^ (i + 1)))) (by exact congrArg (fun z => AV.lit (.int .i64 z)) (Int.pow_succ _ _).symm) ?_
  refine o_as (Iv (m.mod ^ (i + 1))) rfl (aops_end (hK7 _ (awp_seq fun K8 hK8 => awp_region rfl (o_mv (Iv (m.mod ^ (i + 1))) rfl ?_))))
  refine o_gtr (a := (m.mod ^ (i + 1))) (c := ((65536 : Nat) : Int)) gn rfl rfl ?_
  refine aops_end (hK8 _ ?_)
  refine awp_condQ (q := ((65536 : Nat) : Int) < (m.mod ^ (i + 1))) rfl (fun h2 => ?_) (fun h2 => ?_)
  ·refine awp_seq fun K9 hK9 => awp_region rfl (o_as (Nv 0) rfl (aops_end (hK9 _ ?_)))
   refine awp_ret ?_
   refine post_ret ⟨[Nv 0], ⟨AV.le_refl _, trivial⟩, rfl, ?_⟩
   first | exact congrArg (fun z => AV.lit (.int .i64 z)) (rst_big (i := i) hM (by omega) (by omega)) | exact congrArg (fun z => AV.lit (.int .i64 z)) (if_neg (fun e => by have := e.1; omega)) | exact congrArg (fun z => AV.lit (.int .i64 z)) ((if_pos ⟨by omega, by rw [show k.toNat = i by omega]; exact hb⟩).trans (by rw [show k.toNat = i by omega]))
  ·refine awp_skip (hK6 _ (awp_region rfl (o_mv (Nv i) rfl ?_)))
   refine n_add i 1 gn rfl rfl (by simp only [topOf]; omega) ?_
   refine o_as (Nv (i + 1)) rfl (aops_end ?_)
   refine ⟨_, _, ?lt, ⟨i + 1, (.inl (by omega)), (by omega), rfl, rfl⟩, ?wk⟩
   case lt => omega
   case wk => exact Wk.sub ⟨rfl, rfl, (by first | rfl | exact int_eq (by omega) | exact int_nm (by omega)), (by first | rfl | exact nm_int (by omega)), trivial⟩ ⟨rfl, trivial⟩
 ·refine awp_exit ?_
  refine hK2 _ (awp_seq fun K10 hK10 => awp_seq fun K11 hK11 => awp_region rfl (o_mv (Iv k) rfl ?_))
  refine o_lss (a := k) (c := ((1 : Nat) : Int)) gn rfl rfl ?_
  refine aops_end (hK11 _ ?_)
  refine awp_condQ (q := k < ((1 : Nat) : Int)) rfl (fun h3 => ?_) (fun h3 => ?_)
  ·refine awp_seq fun K12 hK12 => awp_region rfl (o_as (Nv 0) rfl (aops_end (hK12 _ ?_)))
   refine awp_ret ?_
   refine post_ret ⟨[Nv 0], ⟨AV.le_refl _, trivial⟩, rfl, ?_⟩
   first | exact congrArg (fun z => AV.lit (.int .i64 z)) (rst_big (i := i) hM (by omega) (by omega)) | exact congrArg (fun z => AV.lit (.int .i64 z)) (if_neg (fun e => by have := e.1; omega)) | exact congrArg (fun z => AV.lit (.int .i64 z)) ((if_pos ⟨by omega, by rw [show k.toNat = i by omega]; exact hb⟩).trans (by rw [show k.toNat = i by omega]))
  ·refine awp_skip (hK10 _ (awp_seq fun K13 hK13 => awp_region rfl (o_mv (Iv (m.mod ^ i)) rfl (o_as (Iv (m.mod ^ i)) rfl (aops_end (hK13 _ ?_))))))
   refine awp_ret ?_
   refine post_ret ⟨[Iv (m.mod ^ i)], ⟨AV.le_refl _, trivial⟩, rfl, ?_⟩
   first | exact congrArg (fun z => AV.lit (.int .i64 z)) (rst_big (i := i) hM (by omega) (by omega)) | exact congrArg (fun z => AV.lit (.int .i64 z)) (if_neg (fun e => by have := e.1; omega)) | exact congrArg (fun z => AV.lit (.int .i64 z)) ((if_pos ⟨by omega, by rw [show k.toNat = i by omega]; exact hb⟩).trans (by rw [show k.toNat = i by omega]))

theorem c_l6Prim (w : List Int) (hwl : w.length ≤ 17592186044416) : ECalls cx 10 [Lv w] (bp (primP w)) := by
 refine ecalls_of_awp Tryd.func10 (c := _) rfl (Nat.le_of_ble_eq_true rfl) ?_
 show awp cx 42 _ (postF cx Tryd.f10 _) ⟨[(0, Lv w)], []⟩
 refine awp_seq fun K0 hK0 => awp_region rfl (o_as Fv rfl (aops_end (hK0 _ (awp_seq fun K1 hK1 => awp_seq fun K2 hK2 => awp_region rfl (o_as (Nv 1) rfl (aops_end (hK2 _ ?_)))))))
 refine awp_block ?_
 refine awp_loopR (fun κ σ => ∃ (e : Nat), (e ≤ w.length) ∧ (∀ d, 0 < d → d ≤ e → w.length % d = 0 → ¬ wholeP w d w.length) ∧ (w.length - e) = κ ∧ σ = ⟨[(0, Lv w), (3, Nv (e + 1))], []⟩) ⟨_, _, ⟨0, Nat.zero_le _, (fun d h1 h2 => by omega), rfl, rfl⟩, ?wk0⟩ ?rd0
 case wk0 =>
  exact Wk.sub ⟨rfl, (by first | rfl | exact nm_int (by omega)), trivial⟩ trivial
 rintro κ _ ⟨e, he, hv, rfl, rfl⟩
 refine awp_seq fun K3 hK3 => awp_seq fun K4 hK4 => awp_region rfl (o_mv (Nv (e + 1)) rfl (o_mv (Lv w) rfl ?_))
 refine i_len w gn f40_ rfl ?_
 refine n_lss (e + 1) (w.length) gn rfl rfl ?_
 refine aops_end (hK4 _ ?_)
 refine awp_condQ (q := (e + 1) < (w.length)) rfl (fun h1 => ?_) (fun h1 => ?_)
 ·refine awp_skip (hK3 _ (awp_seq fun K5 hK5 => ?_))
  refine awp_block ?_
  refine awp_seq fun K6 hK6 => awp_seq fun K7 hK7 => awp_region rfl (o_mv (Lv w) rfl ?_)
  refine i_len w gn f40_ rfl ?_
  refine o_mv (Nv (e + 1)) rfl ?_
  refine n_rem (w.length) (e + 1) gn rfl rfl (by omega) ?_
  refine n_neq ((w.length) % (e + 1)) 0 gn rfl rfl ?_
  refine aops_end (hK7 _ ?_)
  refine awp_condQ (q := ((w.length) % (e + 1)) ≠ 0) rfl (fun h2 => ?_) (fun h2 => ?_)
  ·refine awp_exit ?_
   refine hK5 _ (awp_region rfl (o_mv (Nv (e + 1)) rfl ?_))
   refine n_add (e + 1) 1 gn rfl rfl (by simp only [topOf]; omega) ?_
   refine o_as (Nv ((e + 1) + 1)) rfl (aops_end ?_)
   refine ⟨_, _, ?lt, ⟨e + 1, (by omega), (fun d q1 q2 q3 => by by_cases q : d = e + 1; subst q; (first | exact absurd q3 (by assumption) | (intro q4; exact absurd (show wholeP w (e + 1) i by rw [show i = w.length by omega]; exact q4) (by assumption))); exact hv d q1 (by omega) q3), rfl, rfl⟩, ?wk⟩
   case lt => omega
   case wk => exact Wk.sub ⟨rfl, (by first | rfl | exact nm_int (by omega)), trivial⟩ trivial
  ·refine awp_skip (hK6 _ (awp_seq fun K8 hK8 => awp_region rfl (o_as Tv rfl ?_)))
   refine n_as (v' := (bp (wholeP w (e + 1) (e + 1)))) (by first | exact (bpy (whole_0 _ _)).symm | exact bpc (whole_s (by assumption) (by omega)).symm | exact (bpn (whole_n (by assumption))).symm) ?_
   refine aops_end (hK8 _ (awp_seq fun K9 hK9 => awp_seq fun K10 hK10 => awp_region rfl (o_mv (Nv (e + 1)) rfl (o_as (Nv (e + 1)) rfl (aops_end (hK10 _ ?_))))))
   refine awp_block ?_
   refine awp_loopR (fun κ σ => ∃ (i : Nat), (e + 1 ≤ i) ∧ (i ≤ w.length) ∧ (w.length - i) = κ ∧ σ = ⟨[(0, Lv w), (3, Nv (e + 1)), (4, bp (wholeP w (e + 1) i)), (5, Nv i)], []⟩) ⟨_, _, ⟨e + 1, Nat.le_refl _, (by omega), rfl, rfl⟩, ?wk1⟩ ?rd1
   case wk1 =>
    exact Wk.sub ⟨rfl, rfl, (by first | rfl | exact bp_congr (by first | omega | simp) | exact bl_bp (by first | omega | simp)), (by first | rfl | exact nm_int (by omega)), trivial⟩ trivial
   rintro κ _ ⟨i, hi, hi2, rfl, rfl⟩
   refine awp_seq fun K11 hK11 => awp_seq fun K12 hK12 => awp_region rfl (o_mv (Nv i) rfl (o_mv (Lv w) rfl ?_))
   refine i_len w gn f40_ rfl ?_
   refine n_lss i (w.length) gn rfl rfl ?_
   refine aops_end (hK12 _ ?_)
   refine awp_condQ (q := i < (w.length)) rfl (fun h3 => ?_) (fun h3 => ?_)
   ·refine awp_skip (hK11 _ (awp_seq fun K13 hK13 => ?_))
    refine awp_block ?_
    refine awp_regionD rfl (o_mv (bp (wholeP w (e + 1) i)) rfl (o_mv (bp (wholeP w (e + 1) i)) rfl ?_))
    refine o_splitP (q := wholeP w (e + 1) i) 25 rfl (fun h4 => ?_) (fun h4 => ?_)
    ·refine o_move (Lv w) (Gd.yes rfl rfl (decide_eq_true h4)) rfl (o_move (Nv i) (Gd.yes rfl rfl (decide_eq_true h4)) rfl ?_)
     refine i_index w i (Gd.yes rfl rfl (decide_eq_true h4)) f42_ rfl rfl (by omega) ?_
     refine i_loadI w i (Gd.yes rfl rfl (decide_eq_true h4)) f37_ rfl (by omega) ?_
     refine o_move (Lv w) (Gd.yes rfl rfl (decide_eq_true h4)) rfl (o_move (Nv i) (Gd.yes rfl rfl (decide_eq_true h4)) rfl (o_move (Nv (e + 1)) (Gd.yes rfl rfl (decide_eq_true h4)) rfl ?_))
     refine n_sub i (e + 1) (Gd.yes rfl rfl (decide_eq_true h4)) rfl rfl (by omega) (by simp only [topOf]; omega) ?_
     refine i_index w (i - (e + 1)) (Gd.yes rfl rfl (decide_eq_true h4)) f42_ rfl rfl (by omega) ?_
     refine i_loadI w (i - (e + 1)) (Gd.yes rfl rfl (decide_eq_true h4)) f37_ rfl (by omega) ?_
     refine o_eql (a := (w.getD i 0)) (c := (w.getD (i - (e + 1)) 0)) (Gd.yes rfl rfl (decide_eq_true h4)) rfl rfl ?_
     refine o_pickT (bp ((w.getD i 0) = (w.getD (i - (e + 1)) 0))) gn rfl (decide_eq_true h4) rfl ?_
     refine o_as (bp ((w.getD i 0) = (w.getD (i - (e + 1)) 0))) rfl ?_
     refine n_as (v' := (bp (wholeP w (e + 1) (i + 1)))) (by first | exact (bpy (whole_0 _ _)).symm | exact bpc (whole_s (by assumption) (by omega)).symm | exact (bpn (whole_n (by assumption))).symm) ?_
     refine aops_end ⟨by kernel_rfl, ?_⟩
     refine hK13 _ (awp_region rfl (o_mv (Nv i) rfl ?_))
     refine n_add i 1 gn rfl rfl (by simp only [topOf]; omega) ?_
     refine o_as (Nv (i + 1)) rfl (aops_end ?_)
     refine ⟨_, _, ?lt, ⟨i + 1, (by omega), (by omega), rfl, rfl⟩, ?wk⟩
     case lt => omega
     case wk => exact Wk.sub ⟨rfl, rfl, (by first | rfl | exact bp_congr (by first | omega | simp) | exact bl_bp (by first | omega | simp)), (by first | rfl | exact nm_int (by omega)), trivial⟩ trivial
    ·refine o_skip rfl rfl (decide_eq_false h4) (o_skip rfl rfl (decide_eq_false h4) (o_skip rfl rfl (decide_eq_false h4) (o_skip rfl rfl (decide_eq_false h4) (o_skip rfl rfl (decide_eq_false h4) (o_skip rfl rfl (decide_eq_false h4) (o_skip rfl rfl (decide_eq_false h4) (o_skip rfl rfl (decide_eq_false h4) (o_skip rfl rfl (decide_eq_false h4) (o_skip rfl rfl (decide_eq_false h4) (o_skip rfl rfl (decide_eq_false h4) ?_))))))))))
     refine o_pickF Fv gn rfl (decide_eq_false h4) rfl ?_
     refine o_as Fv rfl ?_
     refine n_as (v' := (bp (wholeP w (e + 1) (i + 1)))) (by first | exact (bpy (whole_0 _ _)).symm | exact bpc (whole_s (by assumption) (by omega)).symm | exact (bpn (whole_n (by assumption))).symm) ?_
     refine aops_end ⟨by kernel_rfl, ?_⟩
     refine hK13 _ (awp_region rfl (o_mv (Nv i) rfl ?_))
     refine n_add i 1 gn rfl rfl (by simp only [topOf]; omega) ?_
     refine o_as (Nv (i + 1)) rfl (aops_end ?_)
     refine ⟨_, _, ?lt, ⟨i + 1, (by omega), (by omega), rfl, rfl⟩, ?wk⟩
     case lt => omega
     case wk => exact Wk.sub ⟨rfl, rfl, (by first | rfl | exact bp_congr (by first | omega | simp) | exact bl_bp (by first | omega | simp)), (by first | rfl | exact nm_int (by omega)), trivial⟩ trivial
   ·refine awp_exit ?_
    refine hK9 _ (awp_seq fun K14 hK14 => awp_region rfl (o_mv (bp (wholeP w (e + 1) i)) rfl (aops_end (hK14 _ ?_))))
    refine awp_condQ (q := wholeP w (e + 1) i) rfl (fun h5 => ?_) (fun h5 => ?_)
    ·refine awp_seq fun K15 hK15 => awp_region rfl (o_as Fv rfl (aops_end (hK15 _ ?_)))
     refine awp_ret ?_
     refine post_ret ⟨[Fv], ⟨AV.le_refl _, trivial⟩, rfl, ?_⟩
     first | exact bpc ⟨fun q => q.1, fun q => ⟨q, fun d q1 q2 q3 => hv d q1 (by omega) q3⟩⟩ | exact bpn (fun q => q.2 (e + 1) (by omega) (by omega) (Decidable.not_not.1 h2) (by rw [← show i = w.length by omega]; assumption))
    ·refine awp_skip (hK5 _ (awp_region rfl (o_mv (Nv (e + 1)) rfl ?_)))
     refine n_add (e + 1) 1 gn rfl rfl (by simp only [topOf]; omega) ?_
     refine o_as (Nv ((e + 1) + 1)) rfl (aops_end ?_)
     refine ⟨_, _, ?lt, ⟨e + 1, (by omega), (fun d q1 q2 q3 => by by_cases q : d = e + 1; subst q; (first | exact absurd q3 (by assumption) | (intro q4; exact absurd (show wholeP w (e + 1) i by rw [show i = w.length by omega]; exact q4) (by assumption))); exact hv d q1 (by omega) q3), rfl, rfl⟩, ?wk⟩
     case lt => omega
     case wk => exact Wk.sub ⟨rfl, (by first | rfl | exact nm_int (by omega)), trivial⟩ trivial
 ·refine awp_exit ?_
  refine hK1 _ (awp_seq fun K16 hK16 => awp_region rfl (o_mv (Lv w) rfl ?_))
  refine i_len w gn f40_ rfl ?_
  refine n_gtr (w.length) 0 gn rfl rfl ?_
  refine o_as (bp (0 < (w.length))) rfl (aops_end (hK16 _ ?_))
  refine awp_ret ?_
  refine post_ret ⟨[bp (0 < (w.length))], ⟨AV.le_refl _, trivial⟩, rfl, ?_⟩
  first | exact bpc ⟨fun q => q.1, fun q => ⟨q, fun d q1 q2 q3 => hv d q1 (by omega) q3⟩⟩ | exact bpn (fun q => q.2 (e + 1) (by omega) (by omega) (Decidable.not_not.1 h2) (by rw [← show i = w.length by omega]; assumption))

theorem c_CycleWords (m : MapM) (w : List Int) (h1m : m.mul.length ≤ 17592186044416) (h2m : m.add.length ≤ 17592186044416) (hwl : w.length ≤ 17592186044416) : ECalls cx 4 [mapV m, Lv w] (.lit (.bool true)) := by
 refine ecalls_of_awp Tryd.func4 (c := _) rfl (Nat.le_of_ble_eq_true rfl) ?_
 show awp cx 128 _ (postF cx Tryd.f4 _) ⟨[(0, mapV m), (1, Lv w)], []⟩
 refine awp_seq fun K0 hK0 => awp_region rfl ?_
 refine o_box 2 [Iv m.mod, Lv m.mul, Lv m.add] gn rfl rfl ?_
 refine o_as Fv rfl (aops_end (hK0 _ (awp_seq fun K1 hK1 => awp_seq fun K2 hK2 => awp_region rfl ?_)))
 refine o_loadA [Iv m.mod, Lv m.mul, Lv m.add] gn f49_ rfl rfl rfl rfl rfl ?_
 refine o_mv (Lv w) rfl ?_
 refine o_ct (c_l6Proper m w (by assumption)) gn f126_ rfl ?_
 refine o_notP (q := cycE m w = 0) gn rfl ?_
 refine o_mv (bp (¬ (cycE m w = 0))) rfl ?_
 refine o_splitP (q := ¬ (cycE m w = 0)) 18 rfl (fun h1 => ?_) (fun h1 => ?_)
 ·refine o_skip rfl rfl (decide_eq_true h1) (o_skip rfl rfl (decide_eq_true h1) (o_skip rfl rfl (decide_eq_true h1) (o_skip rfl rfl (decide_eq_true h1) (o_skip rfl rfl (decide_eq_true h1) ?_))))
  refine o_pickT Tv gn rfl (decide_eq_true h1) rfl ?_
  refine o_mv Tv rfl (o_skip rfl rfl rfl (o_skip rfl rfl rfl (o_skip rfl rfl rfl ?_)))
  refine o_pickT Tv gn rfl rfl rfl ?_
  refine aops_end (hK2 _ ?_)
  refine awp_condB (b := true) rfl (fun _ => ?_) (fun hh => absurd (hh.symm.trans rfl) (by decide))
  refine awp_seq fun K3 hK3 => awp_region rfl ?_
  refine o_ct c_awake6 gn f127_ rfl ?_
  refine o_as Tv rfl (aops_end (hK3 _ ?_))
  refine awp_ret ?_
  refine post_ret ⟨[Tv], ⟨AV.le_refl _, trivial⟩, rfl, ?_⟩
  first | rfl | simp [bp]
 ·have hc0 : cycE m w = 0 := Decidable.not_not.1 h1
  obtain ⟨hM, hf, hW, hne⟩ := cyc_0' hc0
  have hx := fxF_ok hc0
  have hwp : 0 < w.length := List.length_pos_iff.2 hne
  obtain ⟨k1, k2⟩ := fix_fit hM hf hW hne
  have k3 := fit_len k1
  have k4 := fit_len k2
  have hz1 := tzL_len m w w.length
  have hz2 := trL_len m w w.length
  have hwl2 := hW.2
  refine o_loadA [Iv m.mod, Lv m.mul, Lv m.add] (Gd.yes rfl rfl (decide_eq_false h1)) f49_ rfl rfl rfl rfl rfl ?_
  refine o_move (Lv w) (Gd.yes rfl rfl (decide_eq_false h1)) rfl ?_
  refine i_len w (Gd.yes rfl rfl (decide_eq_false h1)) f40_ rfl ?_
  refine o_ct (c_vRests m ((w.length : Nat) : Int) (by first | assumption | exact okM_iff.1 (by assumption)) (by first | assumption | omega)) (Gd.yes rfl rfl (decide_eq_false h1)) f128_ rfl ?_
  refine o_eql (a := (rstN m ((w.length : Nat) : Int))) (c := ((0 : Nat) : Int)) (Gd.yes rfl rfl (decide_eq_false h1)) rfl rfl ?_
  refine o_pickF (bp ((rstN m ((w.length : Nat) : Int)) = ((0 : Nat) : Int))) gn rfl (decide_eq_false h1) rfl ?_
  refine o_mv (bp ((rstN m ((w.length : Nat) : Int)) = ((0 : Nat) : Int))) rfl ?_
  refine o_splitP (q := (rstN m ((w.length : Nat) : Int)) = ((0 : Nat) : Int)) 25 rfl (fun h2 => ?_) (fun h2 => ?_)
  ·refine o_skip rfl rfl (decide_eq_true h2) (o_skip rfl rfl (decide_eq_true h2) (o_skip rfl rfl (decide_eq_true h2) ?_))
   refine o_pickT Tv gn rfl (decide_eq_true h2) rfl ?_
   refine aops_end (hK2 _ ?_)
   refine awp_condB (b := true) rfl (fun _ => ?_) (fun hh => absurd (hh.symm.trans rfl) (by decide))
   refine awp_seq fun K4 hK4 => awp_region rfl ?_
   refine o_ct c_awake6 gn f127_ rfl ?_
   refine o_as Tv rfl (aops_end (hK4 _ ?_))
   refine awp_ret ?_
   refine post_ret ⟨[Tv], ⟨AV.le_refl _, trivial⟩, rfl, ?_⟩
   first | rfl | simp [bp]
  ·have hmy : mayS m ((w.length : Nat) : Int) := ⟨hf, Decidable.byContradiction fun e => h2 (if_neg e)⟩
   have hc := chk_0 (okM_iff.2 hM) hmy
   have hlp : lpL m ((w.length : Nat) : Int) = cyU m (w.length) := lpL_ok hc
   have hk16 : w.length ≤ 16 := may_16 hM hmy.2.2
   have hul := cyU_len m hM w.length
   have hpw := toNat_pw hM w.length
   have hm65 : m.mod ^ w.length ≤ 65536 := hmy.2.2
   have hul2 := Nat.mul_le_mul hk16 (show m.mod.toNat ^ w.length ≤ 65536 by omega)
   refine o_move (Lv w) (Gd.yes rfl rfl (decide_eq_false h2)) rfl ?_
   refine o_ct (c_l6Prim w (by first | assumption | omega)) (Gd.yes rfl rfl (decide_eq_false h2)) f129_ rfl ?_
   refine o_notP (q := primP w) (Gd.yes rfl rfl (decide_eq_false h2)) rfl ?_
   refine o_pickF (bp (¬ (primP w))) gn rfl (decide_eq_false h2) rfl ?_
   refine aops_end (hK2 _ ?_)
   refine awp_condQ (q := ¬ (primP w)) rfl (fun h3 => ?_) (fun h3 => ?_)
   ·refine awp_seq fun K5 hK5 => awp_region rfl ?_
    refine o_ct c_awake6 gn f127_ rfl ?_
    refine o_as Tv rfl (aops_end (hK5 _ ?_))
    refine awp_ret ?_
    refine post_ret ⟨[Tv], ⟨AV.le_refl _, trivial⟩, rfl, ?_⟩
    first | rfl | simp [bp]
   ·have hpr : primP w := Decidable.not_not.1 h3
    refine awp_skip (hK1 _ (awp_seq fun K6 hK6 => awp_region rfl ?_))
    refine o_loadA [Iv m.mod, Lv m.mul, Lv m.add] gn f49_ rfl rfl rfl rfl rfl ?_
    refine o_mv (Lv w) rfl ?_
    refine o_ct (c_yTurn m w (by first | assumption | omega | decide)) gn f130_ rfl ?_
    refine o_mv (.tup [.sl 2 (gcells cF (tnL m w)), Nv (cycE m w)]) rfl (o_extract (.sl 2 (gcells cF (tnL m w))) gn rfl rfl (o_extract (Nv (cycE m w)) gn rfl rfl (o_as (.sl 2 (gcells cF (tnL m w))) rfl (o_as (Nv (cycE m w)) rfl (aops_end (hK6 _ (awp_seq fun K7 hK7 => awp_seq fun K8 hK8 => awp_region rfl (o_mv (Nv (cycE m w)) rfl ?_))))))))
    refine n_as (v' := (Nv 0)) (by rw [hc0]) ?_
    refine n_neq 0 0 gn rfl rfl ?_
    refine o_mv (bp (0 ≠ 0)) rfl ?_
    refine o_move (.sl 2 (gcells cF (tnL m w))) (Gd.yes rfl rfl (decide_eq_false (by decide))) rfl ?_
    refine n_as (v' := (.sl 2 (gcells cF (trL m w w.length)))) (by rw [hx.2]) ?_
    refine g_len cF (trL m w w.length) cF_len (Gd.yes rfl rfl (decide_eq_false (by decide))) f131_ rfl ?_
    refine o_move (Lv w) (Gd.yes rfl rfl (decide_eq_false (by decide))) rfl ?_
    refine i_len w (Gd.yes rfl rfl (decide_eq_false (by decide))) f40_ rfl ?_
    refine n_neq ((trL m w w.length).length) (w.length) (Gd.yes rfl rfl (decide_eq_false (by decide))) rfl rfl ?_
    refine n_as (v' := Fv) (by exact bp_no (fun e => e hz2)) ?_
    refine o_pickF Fv gn rfl (decide_eq_false (by decide)) rfl ?_
    refine aops_end (hK8 _ ?_)
    refine awp_condB (b := false) rfl (fun hh => absurd (hh.symm.trans rfl) (by decide)) (fun _ => ?_)
    refine awp_skip (hK7 _ (awp_seq fun K9 hK9 => awp_seq fun K10 hK10 => awp_region rfl (o_mv (.sl 2 (gcells cF (tnL m w))) rfl ?_)))
    refine n_as (v' := (.sl 2 (gcells cF (trL m w w.length)))) (by rw [hx.2]) ?_
    refine g_index cF (trL m w w.length) 0 cF_len rfl gn f84_ rfl rfl (by omega) ?_
    refine g_field cF (trL m w w.length) 0 cF_len gn f132_ rfl (by omega) rfl ?_
    refine g_loadS cF (trL m w w.length) 0 default (Sv (((trL m w w.length).getD 0 default).den)) cF_len gn f115_ rfl (by omega) rfl ?_
    refine n_as (v' := (Sv (txt ((fixZ m w).den)))) (by exact str_as (congrArg Frc.den (trL_get hwp))) ?_
    refine o_neqS (a := (txt ((fixZ m w).den))) (c := ({data := #[49]} : ByteArray)) gn rfl rfl ?_
    refine aops_end (hK10 _ ?_)
    refine awp_condQ (q := (txt ((fixZ m w).den)).toList ≠ ({data := #[49]} : ByteArray).toList) rfl (fun h4 => ?_) (fun h4 => ?_)
    ·refine awp_seq fun K11 hK11 => awp_region rfl ?_
     refine o_ct c_awake6 gn f127_ rfl ?_
     refine o_as Tv rfl (aops_end (hK11 _ ?_))
     refine awp_ret ?_
     refine post_ret ⟨[Tv], ⟨AV.le_refl _, trivial⟩, rfl, ?_⟩
     first | rfl | simp [bp]
    ·have hden : (fixZ m w).den = 1 := txt_1i.1 (str_eq.1 (Decidable.not_not.1 h4))
     have hper := prim_per hM hf hW.1 hpr hden
     have hc1 := cyU_one hM hf (K := w.length) (by omega) ((fixZ m w).num)
     have hone : (cyU m (w.length)).flatten.count ((fixZ m w).num) = 1 := hc1.2.2 ⟨w.length, hwp, Nat.le_refl _, hper.2.1⟩
     refine awp_skip (hK9 _ (awp_seq fun K12 hK12 => awp_region rfl ?_))
     refine o_loadA [Iv m.mod, Lv m.mul, Lv m.add] gn f49_ rfl rfl rfl rfl rfl ?_
     refine o_mv (Lv w) rfl ?_
     refine i_len w gn f40_ rfl ?_
     refine o_ct (c_Loops m ((w.length : Nat) : Int) (by first | assumption | omega)) gn f118_ rfl ?_
     refine o_mv (.tup [(.sl 1 (gcells cP (lpL m ((w.length : Nat) : Int)))), (Nv (chkE m ((w.length : Nat) : Int)))]) rfl (o_extract (.sl 1 (gcells cP (lpL m ((w.length : Nat) : Int)))) gn rfl rfl ?_)
     refine n_as (v' := (.sl 1 (gcells cP (cyU m (w.length))))) (by rw [hlp]) ?_
     refine o_extract (Nv (chkE m ((w.length : Nat) : Int))) gn rfl rfl (o_as (.sl 1 (gcells cP (cyU m (w.length)))) rfl (o_as (Nv (chkE m ((w.length : Nat) : Int))) rfl (aops_end (hK12 _ (awp_seq fun K13 hK13 => awp_seq fun K14 hK14 => awp_region rfl (o_mv (Nv (chkE m ((w.length : Nat) : Int))) rfl ?_))))))
     refine n_as (v' := (Nv 0)) (by rw [hc]) ?_
     refine n_neq 0 0 gn rfl rfl ?_
     refine aops_end (hK14 _ ?_)
     refine awp_condB (b := decide (0 ≠ 0)) rfl (fun hh => absurd (hh.symm.trans (decide_eq_false (by decide))) (by decide)) (fun _ => ?_)
     refine awp_skip (hK13 _ (awp_seq fun K15 hK15 => awp_region rfl (o_as (Nv 0) rfl (aops_end (hK15 _ (awp_seq fun K16 hK16 => awp_seq fun K17 hK17 => awp_region rfl (o_as (Nv 0) rfl (aops_end ?_))))))))
     refine hK17 _ ?_
     refine awp_block ?_
     refine awp_loopR (fun κ σ => ∃ (i : Nat), (i ≤ (cyU m (w.length)).length) ∧ ((cyU m (w.length)).length - i) = κ ∧ σ = ⟨[(1, Lv w), (2, .ref 2 0), (5, .sl 2 (gcells cF (trL m w w.length))), (7, .sl 1 (gcells cP (cyU m (w.length)))), (9, Nv (((cyU m (w.length)).take i).flatten.count ((fixZ m w).num))), (10, Nv i)], [(2, oM 24 m)]⟩) ⟨_, _, ⟨0, Nat.zero_le _, rfl, rfl⟩, ?wk0⟩ ?rd0
     case wk0 =>
      exact Wk.sub ⟨rfl, rfl, (by first | rfl | (first | rfl | exact congrArg (fun l => AV.sl 2 (gcells cF l)) hx.2)), rfl, (by first | rfl | exact nm_int (by omega)), (by first | rfl | exact nm_int (by omega)), trivial⟩ ⟨rfl, trivial⟩
     rintro κ _ ⟨i, hi, rfl, rfl⟩
     refine awp_seq fun K18 hK18 => awp_seq fun K19 hK19 => awp_region rfl (o_mv (Nv i) rfl (o_mv (.sl 1 (gcells cP (cyU m (w.length)))) rfl ?_))
     refine g_len cP (cyU m (w.length)) cP_len gn f119_ rfl ?_
     refine n_lss i ((cyU m (w.length)).length) gn rfl rfl ?_
     refine aops_end (hK19 _ ?_)
     refine awp_condQ (q := i < ((cyU m (w.length)).length)) rfl (fun h5 => ?_) (fun h5 => ?_)
     ·have hin := getD_memL (l := cyU m (w.length)) (i := i) (by omega)
      have hml : (List.map txt ((cyU m (w.length)).getD i default)).length = ((cyU m (w.length)).getD i default).length := List.length_map (f := txt)
      obtain ⟨c1, c2⟩ := cyU_loo hM hf (by omega) hin
      refine awp_skip (hK18 _ (awp_seq fun K20 hK20 => ?_))
      refine awp_block ?_
      refine awp_seq fun K21 hK21 => awp_region rfl (o_mv (.sl 1 (gcells cP (cyU m (w.length)))) rfl (o_mv (Nv i) rfl ?_))
      refine g_index cP (cyU m (w.length)) i cP_len rfl gn f113_ rfl rfl (by omega) ?_
      refine g_field cP (cyU m (w.length)) i cP_len gn f120_ rfl (by omega) rfl ?_
      refine g_loadS cP (cyU m (w.length)) i default (.sl 1 (sbs (((cyU m (w.length)).getD i default).map txt))) cP_len gn f121_ rfl (by omega) rfl ?_
      refine o_as (.sl 1 (sbs (((cyU m (w.length)).getD i default).map txt))) rfl (aops_end (hK21 _ (awp_seq fun K22 hK22 => awp_region rfl (o_as (Nv 0) rfl (aops_end (hK22 _ ?_))))))
      refine awp_block ?_
      refine awp_loopR (fun κ σ => ∃ (t : Nat), (t ≤ ((cyU m (w.length)).getD i default).length) ∧ (((cyU m (w.length)).getD i default).length - t) = κ ∧ σ = ⟨[(1, Lv w), (2, .ref 2 0), (5, .sl 2 (gcells cF (trL m w w.length))), (7, .sl 1 (gcells cP (cyU m (w.length)))), (9, Nv (((cyU m (w.length)).take i).flatten.count ((fixZ m w).num) + (((cyU m (w.length)).getD i default).take t).count ((fixZ m w).num))), (10, Nv i), (11, .sl 1 (sbs (List.map txt ((cyU m (w.length)).getD i default)))), (12, Nv t)], [(2, oM 24 m)]⟩) ⟨_, _, ⟨0, Nat.zero_le _, rfl, rfl⟩, ?wk1⟩ ?rd1
      case wk1 =>
       exact Wk.sub ⟨rfl, rfl, rfl, rfl, (by first | rfl | exact nm_int (by omega)), rfl, (by first | rfl | (first | rfl | exact congrArg (fun l => AV.sl 2 (gcells cF l)) hx.2)), (by first | rfl | exact nm_int (by omega)), trivial⟩ ⟨rfl, trivial⟩
      rintro κ _ ⟨t, ht, rfl, rfl⟩
      have hcl := cnt_le (L := cyU m (w.length)) (i := i) (j := t) (z := ((fixZ m w).num)) (by omega)
      refine awp_seq fun K23 hK23 => awp_seq fun K24 hK24 => awp_region rfl (o_mv (Nv t) rfl (o_mv (.sl 1 (sbs (List.map txt ((cyU m (w.length)).getD i default)))) rfl ?_))
      refine s_len (List.map txt ((cyU m (w.length)).getD i default)) gn f114_ rfl ?_
      refine n_as (v' := (Nv (((cyU m (w.length)).getD i default).length))) (by exact congrArg (nm _) hml) ?_
      refine n_lss t (((cyU m (w.length)).getD i default).length) gn rfl rfl ?_
      refine aops_end (hK24 _ ?_)
      refine awp_condQ (q := t < (((cyU m (w.length)).getD i default).length)) rfl (fun h6 => ?_) (fun h6 => ?_)
      ·refine awp_skip (hK23 _ (awp_seq fun K25 hK25 => ?_))
       refine awp_block ?_
       refine awp_seq fun K26 hK26 => awp_seq fun K27 hK27 => awp_regionD rfl (o_mv (.sl 1 (sbs (List.map txt ((cyU m (w.length)).getD i default)))) rfl (o_mv (Nv t) rfl ?_))
       refine s_index (List.map txt ((cyU m (w.length)).getD i default)) t gn f109_ rfl rfl (by omega) ?_
       refine s_loadI (List.map txt ((cyU m (w.length)).getD i default)) t gn f115_ rfl (by omega) ?_
       refine n_as (v' := (Sv (txt (((cyU m (w.length)).getD i default).getD t default)))) (by exact str_as (map_getD (by omega))) ?_
       refine o_mv (.sl 2 (gcells cF (trL m w w.length))) rfl ?_
       refine g_index cF (trL m w w.length) 0 cF_len rfl gn f84_ rfl rfl (by omega) ?_
       refine g_field cF (trL m w w.length) 0 cF_len gn f133_ rfl (by omega) rfl ?_
       refine g_loadS cF (trL m w w.length) 0 default (Sv (((trL m w w.length).getD 0 default).num)) cF_len gn f115_ rfl (by omega) rfl ?_
       refine n_as (v' := (Sv (txt ((fixZ m w).num)))) (by exact str_as (congrArg Frc.num (trL_get hwp))) ?_
       refine o_neqS (a := (txt (((cyU m (w.length)).getD i default).getD t default))) (c := (txt ((fixZ m w).num))) gn rfl rfl ?_
       refine aops_end ⟨by kernel_rfl, ?_⟩
       refine hK27 _ ?_
       refine awp_condQ (q := (txt (((cyU m (w.length)).getD i default).getD t default)).toList ≠ (txt ((fixZ m w).num)).toList) rfl (fun h7 => ?_) (fun h7 => ?_)
       ·refine awp_wk (Wk.slot (i := 9) (y := (Nv (((cyU m (w.length)).take i).flatten.count ((fixZ m w).num) + (((cyU m (w.length)).getD i default).take (t + 1)).count ((fixZ m w).num)))) (AV.le_eq (by exact congrArg (nm _) (cnt_n (by omega) (fun e => absurd (str_eq.2 (congrArg txt e)) (by assumption)))))) ?_
        refine awp_exit ?_
        refine hK25 _ (awp_region rfl (o_mv (Nv t) rfl ?_))
        refine n_add t 1 gn rfl rfl (by simp only [topOf]; omega) ?_
        refine o_as (Nv (t + 1)) rfl (aops_end ?_)
        refine ⟨_, _, ?lt, ⟨t + 1, (by omega), rfl, rfl⟩, ?wk⟩
        case lt => omega
        case wk => exact Wk.sub ⟨rfl, rfl, rfl, rfl, (by first | rfl | exact nm_int (by omega)), rfl, rfl, (by first | rfl | exact nm_int (by omega)), trivial⟩ ⟨rfl, trivial⟩
       ·have hxe : (((cyU m (w.length)).getD i default).getD t default) = ((fixZ m w).num) := txt_inj (str_eq.1 (Decidable.not_not.1 h7))
        obtain ⟨p1, p2⟩ := prim_loo hM hf (by omega) hper hin (show t < ((cyU m (w.length)).getD i default).length by omega) hxe
        have p3 := c2.pos
        refine awp_skip (hK26 _ (awp_seq fun K28 hK28 => awp_region rfl (o_mv (Nv (((cyU m (w.length)).take i).flatten.count ((fixZ m w).num) + (((cyU m (w.length)).getD i default).take t).count ((fixZ m w).num))) rfl ?_)))
        refine n_add (((cyU m (w.length)).take i).flatten.count ((fixZ m w).num) + (((cyU m (w.length)).getD i default).take t).count ((fixZ m w).num)) 1 gn rfl rfl (by simp only [topOf]; omega) ?_
        refine n_as (v' := (Nv (((cyU m (w.length)).take i).flatten.count ((fixZ m w).num) + (((cyU m (w.length)).getD i default).take (t + 1)).count ((fixZ m w).num)))) (by exact congrArg (nm _) (cnt_y (by omega) hxe)) ?_
        refine o_as (Nv (((cyU m (w.length)).take i).flatten.count ((fixZ m w).num) + (((cyU m (w.length)).getD i default).take (t + 1)).count ((fixZ m w).num))) rfl (aops_end (hK28 _ (awp_seq fun K29 hK29 => awp_seq fun K30 hK30 => awp_region rfl (o_mv (.sl 1 (sbs (List.map txt ((cyU m (w.length)).getD i default)))) rfl ?_))))
        refine s_len (List.map txt ((cyU m (w.length)).getD i default)) gn f114_ rfl ?_
        refine n_as (v' := (Nv (((cyU m (w.length)).getD i default).length))) (by exact congrArg (nm _) hml) ?_
        refine o_mv (Lv w) rfl ?_
        refine i_len w gn f40_ rfl ?_
        refine n_neq (((cyU m (w.length)).getD i default).length) (w.length) gn rfl rfl ?_
        refine n_as (v' := Fv) (by exact bp_no (fun e => e p1)) ?_
        refine aops_end (hK30 _ ?_)
        refine awp_condB (b := false) rfl (fun hh => absurd (hh.symm.trans rfl) (by decide)) (fun _ => ?_)
        refine awp_skip (hK29 _ (awp_seq fun K31 hK31 => awp_region rfl (o_as (Nv 0) rfl (aops_end (hK31 _ ?_)))))
        refine awp_block ?_
        refine awp_loopR (fun κ σ => ∃ (j : Nat), (j ≤ ((cyU m (w.length)).getD i default).length) ∧ (((cyU m (w.length)).getD i default).length - j) = κ ∧ σ = ⟨[(1, Lv w), (2, .ref 2 0), (5, .sl 2 (gcells cF (trL m w w.length))), (7, .sl 1 (gcells cP (cyU m (w.length)))), (9, Nv (((cyU m (w.length)).take i).flatten.count ((fixZ m w).num) + (((cyU m (w.length)).getD i default).take (t + 1)).count ((fixZ m w).num))), (10, Nv i), (11, .sl 1 (sbs (List.map txt ((cyU m (w.length)).getD i default)))), (12, Nv t), (13, Nv j)], [(2, oM 24 m)]⟩) ⟨_, _, ⟨0, Nat.zero_le _, rfl, rfl⟩, ?wk2⟩ ?rd2
        case wk2 =>
         exact Wk.sub ⟨rfl, rfl, rfl, rfl, rfl, rfl, rfl, rfl, (by first | rfl | exact nm_int (by omega)), trivial⟩ ⟨rfl, trivial⟩
        rintro κ _ ⟨j, hj, rfl, rfl⟩
        refine awp_seq fun K32 hK32 => awp_seq fun K33 hK33 => awp_region rfl (o_mv (Nv j) rfl (o_mv (.sl 1 (sbs (List.map txt ((cyU m (w.length)).getD i default)))) rfl ?_))
        refine s_len (List.map txt ((cyU m (w.length)).getD i default)) gn f114_ rfl ?_
        refine n_as (v' := (Nv (((cyU m (w.length)).getD i default).length))) (by exact congrArg (nm _) hml) ?_
        refine n_lss j (((cyU m (w.length)).getD i default).length) gn rfl rfl ?_
        refine aops_end (hK33 _ ?_)
        refine awp_condQ (q := j < (((cyU m (w.length)).getD i default).length)) rfl (fun h8 => ?_) (fun h8 => ?_)
        ·have ht1 := trn_int hM hf hW.1 hden (i := j) (by omega)
         have p4 := Nat.mod_lt (t + j) p3
         refine awp_skip (hK32 _ (awp_seq fun K34 hK34 => ?_))
         refine awp_block ?_
         refine awp_seq fun K35 hK35 => awp_regionD rfl (o_mv (.sl 2 (gcells cF (trL m w w.length))) rfl (o_mv (Nv j) rfl ?_))
         refine g_index cF (trL m w w.length) j cF_len rfl gn f84_ rfl rfl (by omega) ?_
         refine g_field cF (trL m w w.length) j cF_len gn f132_ rfl (by omega) rfl ?_
         refine g_loadS cF (trL m w w.length) j default (Sv (((trL m w w.length).getD j default).den)) cF_len gn f115_ rfl (by omega) rfl ?_
         refine n_as (v' := (Sv ({data := #[49]} : ByteArray))) (by exact str_as ((congrArg Frc.den (trL_get (by omega))).trans ((congrArg (fun f : FrZ => txt f.den) ht1).trans (txt_1i.2 rfl)))) ?_
         refine o_neqS (a := ({data := #[49]} : ByteArray)) (c := ({data := #[49]} : ByteArray)) gn rfl rfl ?_
         refine n_as (v' := Fv) (by exact bp_no (fun e => e rfl)) ?_
         refine o_mv Fv rfl (o_move (.sl 2 (gcells cF (trL m w w.length))) (Gd.yes rfl rfl rfl) rfl (o_move (Nv j) (Gd.yes rfl rfl rfl) rfl ?_))
         refine g_index cF (trL m w w.length) j cF_len rfl (Gd.yes rfl rfl rfl) f84_ rfl rfl (by omega) ?_
         refine g_field cF (trL m w w.length) j cF_len (Gd.yes rfl rfl rfl) f133_ rfl (by omega) rfl ?_
         refine g_loadS cF (trL m w w.length) j default (Sv (((trL m w w.length).getD j default).num)) cF_len (Gd.yes rfl rfl rfl) f115_ rfl (by omega) rfl ?_
         refine n_as (v' := (Sv (txt (iterZ m j ((fixZ m w).num))))) (by exact str_as ((congrArg Frc.num (trL_get (by omega))).trans (congrArg (fun f : FrZ => txt f.num) ht1))) ?_
         refine o_move (.sl 1 (sbs (List.map txt ((cyU m (w.length)).getD i default)))) (Gd.yes rfl rfl rfl) rfl (o_move (Nv t) (Gd.yes rfl rfl rfl) rfl (o_move (Nv j) (Gd.yes rfl rfl rfl) rfl ?_))
         refine n_add t j (Gd.yes rfl rfl rfl) rfl rfl (by simp only [topOf]; omega) ?_
         refine o_move (.sl 1 (sbs (List.map txt ((cyU m (w.length)).getD i default)))) (Gd.yes rfl rfl rfl) rfl ?_
         refine s_len (List.map txt ((cyU m (w.length)).getD i default)) (Gd.yes rfl rfl rfl) f114_ rfl ?_
         refine n_as (v' := (Nv (((cyU m (w.length)).getD i default).length))) (by exact congrArg (nm _) hml) ?_
         refine n_rem (t + j) (((cyU m (w.length)).getD i default).length) (Gd.yes rfl rfl rfl) rfl rfl (by omega) ?_
         refine s_index (List.map txt ((cyU m (w.length)).getD i default)) ((t + j) % (((cyU m (w.length)).getD i default).length)) (Gd.yes rfl rfl rfl) f109_ rfl rfl (by omega) ?_
         refine s_loadI (List.map txt ((cyU m (w.length)).getD i default)) ((t + j) % (((cyU m (w.length)).getD i default).length)) (Gd.yes rfl rfl rfl) f115_ rfl (by omega) ?_
         refine n_as (v' := (Sv (txt (iterZ m j ((fixZ m w).num))))) (by exact str_as ((map_getD (by omega)).trans (congrArg txt (p2 j)))) ?_
         refine o_neqS (a := (txt (iterZ m j ((fixZ m w).num)))) (c := (txt (iterZ m j ((fixZ m w).num)))) (Gd.yes rfl rfl rfl) rfl rfl ?_
         refine n_as (v' := Fv) (by exact bp_no (fun e => e rfl)) ?_
         refine o_pickF Fv gn rfl rfl rfl ?_
         refine aops_end ⟨by kernel_rfl, ?_⟩
         refine hK35 _ ?_
         refine awp_condB (b := false) rfl (fun hh => absurd (hh.symm.trans rfl) (by decide)) (fun _ => ?_)
         refine awp_skip (hK34 _ (awp_region rfl (o_mv (Nv j) rfl ?_)))
         refine n_add j 1 gn rfl rfl (by simp only [topOf]; omega) ?_
         refine o_as (Nv (j + 1)) rfl (aops_end ?_)
         refine ⟨_, _, ?lt, ⟨j + 1, (by omega), rfl, rfl⟩, ?wk⟩
         case lt => omega
         case wk => exact Wk.sub ⟨rfl, rfl, rfl, rfl, rfl, rfl, rfl, rfl, (by first | rfl | exact nm_int (by omega)), trivial⟩ ⟨rfl, trivial⟩
        ·refine awp_exit ?_
         refine hK25 _ (awp_region rfl (o_mv (Nv t) rfl ?_))
         refine n_add t 1 gn rfl rfl (by simp only [topOf]; omega) ?_
         refine o_as (Nv (t + 1)) rfl (aops_end ?_)
         refine ⟨_, _, ?lt, ⟨t + 1, (by omega), rfl, rfl⟩, ?wk⟩
         case lt => omega
         case wk => exact Wk.sub ⟨rfl, rfl, rfl, rfl, (by first | rfl | exact nm_int (by omega)), rfl, rfl, (by first | rfl | exact nm_int (by omega)), trivial⟩ ⟨rfl, trivial⟩
      ·refine awp_wk (Wk.slot (i := 9) (y := (Nv (((cyU m (w.length)).take (i + 1)).flatten.count ((fixZ m w).num)))) (AV.le_eq (by exact congrArg (nm _) (cnt_row (by omega) (by omega))))) ?_
       refine awp_exit ?_
       refine hK20 _ (awp_region rfl (o_mv (Nv i) rfl ?_))
       refine n_add i 1 gn rfl rfl (by simp only [topOf]; omega) ?_
       refine o_as (Nv (i + 1)) rfl (aops_end ?_)
       refine ⟨_, _, ?lt, ⟨i + 1, (by omega), rfl, rfl⟩, ?wk⟩
       case lt => omega
       case wk => exact Wk.sub ⟨rfl, rfl, rfl, rfl, (by first | rfl | exact nm_int (by omega)), (by first | rfl | exact nm_int (by omega)), trivial⟩ ⟨rfl, trivial⟩
     ·refine awp_exit ?_
      refine hK16 _ (awp_seq fun K36 hK36 => awp_region rfl (o_mv (Nv (((cyU m (w.length)).take i).flatten.count ((fixZ m w).num))) rfl ?_))
      refine n_as (v' := (Nv ((cyU m (w.length)).flatten.count ((fixZ m w).num)))) (by exact congrArg (nm _) (by rw [show i = (cyU m (w.length)).length by omega, List.take_length])) ?_
      refine n_eql ((cyU m (w.length)).flatten.count ((fixZ m w).num)) 1 gn rfl rfl ?_
      refine n_as (v' := Tv) (by exact bpy hone) ?_
      refine o_mv Tv rfl ?_
      refine o_ct c_awake6 (Gd.yes rfl rfl rfl) f127_ rfl ?_
      refine o_pickT Tv gn rfl rfl rfl ?_
      refine o_as Tv rfl (aops_end (hK36 _ ?_))
      refine awp_ret ?_
      refine post_ret ⟨[Tv], ⟨AV.le_refl _, trivial⟩, rfl, ?_⟩
      first | rfl | simp [bp]

end Go.Proofs.YtdmkejloknejdaaDoor

namespace Go.Proofs.YtdmkejloknejdaaDoor.cycleWords
open Go Go.Ab Go.Mth Go.ChangeShapes Go.WideShapes Go.ChangeAt Go.RowKit
noncomputable def laid5 : List (String × DataW Unit) := [("math/bits.deBruijn32tab", Rows.laid_math_bits_deBruijn32tab), ("math/bits.deBruijn64tab", Rows.laid_math_bits_deBruijn64tab), ("internal/strconv.uint64pow10", Rows.laid_internal_strconv_uint64pow10)]
theorem laid5_met {W : World} (h : laidMetH Tryd.prog laid5 W) : laidMet Tryd.prog laid5 W := (MakeChecks.laidMetH_plain _ _ _ (by kernel_rfl)).mp h
theorem laid5_tab {W : World} (h : laidMet Tryd.prog laid5 W) : laidMet Tryd.prog (("internal/strconv.uint64pow10", Lib.tabData .u64 Lib.pow10Tab) :: []) W := h.tail.tail
set_option maxRecDepth 100000 in
theorem tabG_of {W : World} (h : laidMetH Tryd.prog laid5 W) : TabG (memOf W) :=
 var_mem gTab (Lib.tabIs_of_head gTab gTabType uTab uElTab cElTab cTab (laid5_tab (laid5_met h)))
theorem reads (os : Os) {H : Type} (enc : TypeId × Value → H) : ∃ places, DataW.whole enc Tryd.prog ((World.laidAll Tryd.prog os laid5).forCall (fun _ _ => 0) ⟨#[], #[.agg #[.int .i64 0, .slice none 0 0, .slice none 0 0], .slice none 0 0], []⟩).memory Tryd.f4.params.toList Rows.cycleWordsSpec.vars false (#[.agg #[.int .i64 0, .slice none 0 0, .slice none 0 0], .slice none 0 0] : Array Value).toList 8 = some ([.agg [.lit (.int .i64 0), .nil, .nil], .nil], [], places) := ⟨[], by kernel_rfl⟩
theorem met (os : Os) : laidMetH Tryd.prog laid5 ((World.laidAll Tryd.prog os laid5).forCall (fun _ _ => 0) ⟨#[], #[.agg #[.int .i64 0, .slice none 0 0, .slice none 0 0], .slice none 0 0], []⟩).memory := (MakeChecks.laidMetH_plain _ _ _ (by kernel_rfl)).mpr (laidMet_laidAll _ (by kernel_rfl) (by kernel_rfl))
theorem specs {H : Type} (ds : List (DataW H)) (h : ds.length = 2) : (Rows.cycleWordsSpec.fn H ds).results = [.lit (.bool true)] ∧ (Rows.cycleWordsSpec.fn H ds).args = ds ∧ (Rows.cycleWordsSpec.fn H ds).vars = [] := by
 rcases ds with _ | ⟨d0, _ | ⟨d1, _ | ⟨e, t⟩⟩⟩ <;> simp at h <;> exact ⟨rfl, rfl, rfl⟩
set_option maxRecDepth 100000 in
theorem opened {H : Type} (enc : TypeId × Value → H) (W : World) (base : Nat) (args : Array Value) (ds : List (DataW H)) (ps : List MemPlace) (hval : ∀ (j : Nat) t v, (#[24, 22] : Array TypeId)[j]? = some t → args[j]? = some v → Value.okWide Tryd.prog W .any base t v)
  (hA : DataW.TrodAll enc Tryd.prog W 0 (fun _ => true) true [24, 22] args.toList ds ps) (hsz : (DataW.weightsEach Tryd.prog [24, 22] ds).all (· ≤ reachBytes) = true) : ∃ xs, RepL (memOf W) xs noLoc args.toList ∧ ECalls cx 4 xs (.lit (.bool true)) := by
 obtain ⟨v0, vs0, d0, ds0, p0, q0, hargs, rfl, rfl, h0, r0⟩ := trodAll_cons hA
 obtain ⟨v1, vs1, d1, ds1, p1, q1, rfl, rfl, rfl, h1, r1⟩ := trodAll_cons r0
 obtain ⟨rfl, rfl, rfl⟩ := trodAll_nil r1
 obtain rfl : args = #[v0, v1] := by cases args; simp_all
 obtain ⟨m0, e0, b0, c0⟩ := rep_map (hval 0 24 v0 rfl rfl) h0 (fun n hn => by simpa using List.all_eq_true.1 hsz n (DataW.weights_mem_each (j := 0) rfl rfl n hn))
 obtain ⟨l1, e1, b1⟩ := rep_list (hval 1 22 v1 rfl rfl) h1 (fun n hn => by simpa using List.all_eq_true.1 hsz n (DataW.weights_mem_each (j := 1) rfl rfl n hn))
 exact ⟨[mapV m0, .sl 1 (is .i64 l1)], RepL.cons e0 (RepL.cons e1 (by simp only [RepL])), c_CycleWords m0 l1 b0 c0 b1⟩
set_option maxRecDepth 100000 in
theorem lifted (os : Os) (started : os.Started) (H : Type) (enc : TypeId × Value → H) (F : Stop.Interp) :
  ReturnsInHanded {} Tryd.checked os 4 .any ((OpenSpec.ofChange Rows.cycleWordsSpec).preRow enc Tryd.prog Tryd.f4 Rows.cycleWordsRow.domain false Rows.cycleWordsRow.laid) (((OpenSpec.ofChange Rows.cycleWordsSpec).at F).post enc Tryd.prog Tryd.f4 false true false false) := by
 obtain ⟨places, hx⟩ := reads os enc
 refine lifted_of (C := Tryd.checked) started cx rfl ownT (by kernel_rfl) Tryd.func4 (witness_laid #[.agg #[.int .i64 0, .slice none 0 0, .slice none 0 0], .slice none 0 0] (by kernel_rfl) (by kernel_rfl) (by kernel_rfl) (OpenSpec.preRow_of_cond 8 hx (by kernel_rfl) (fun k hk => by cases hk) (by kernel_rfl) (met os))) laidOutT (by kernel_rfl) (tb := 4) (by kernel_rfl) u4T rfl (fun ds h => specs ds (h.trans (by kernel_rfl))) (fun W h => tabG_of h) ?_
 intro W base args ds ps hval hA hsz
 exact opened enc W base args ds ps hval hA hsz
theorem said : Rows.CycleWordsSaid :=
 OpenClaim.holds_of_cond 4 Tryd.f4 rfl rfl rfl rfl rfl rfl rfl ⟨rfl, rfl, rfl, rfl, rfl⟩ rfl rfl rfl rfl rfl (by kernel_rfl) Tryd.func4 (by kernel_rfl)
  (of_decide_eq_true (by kernel_rfl)) (by unfold Func.isWrapper; first | (rw [if_pos (by decide +kernel)]; kernel_rfl) | (rw [if_neg (by decide +kernel)]; exact ⟨rfl, rfl⟩))
  (fun os started H enc _ F => by rw [OpenClaim.pre_eq_preRow]; exact lifted os started H enc F)
theorem plain (f : FuncId) (fn : Func) (hf : Tryd.pinned.checked.prog.funcNamed "katabasis/katabasislaw06.CycleWords" = some f) (hfn : Tryd.pinned.checked.prog.funcs[f]? = some fn) :
  false = Tryd.pinned.checked.prog.looks [] ∧ ∀ (j : Nat) t, fn.params[j]? = some t → Tryd.pinned.checked.prog.wantsStandIn t = false := by
 obtain rfl : f = 4 := Option.some.inj ((show Tryd.prog.funcNamed "katabasis/katabasislaw06.CycleWords" = some 4 by kernel_rfl).symm.trans hf) |>.symm
 obtain rfl : fn = Tryd.f4 := (Option.some.inj (Tryd.func4.symm.trans hfn)).symm
 refine ⟨by kernel_rfl, fun j t ht => ?_⟩
 rw [Tryd.params4] at ht
 have : t = 24 ∨ t = 22 := by have h := Array.mem_of_getElem? ht; simp at h; first | exact h | (rcases h with h | h | h | h <;> simp [h]) | (rcases h with h | h | h <;> simp [h]) | (rcases h with h | h <;> simp [h])
 rcases this with rfl | rfl
 ·exact (show Tryd.prog.wantsStandIn 24 = false by kernel_rfl)
 ·exact (show Tryd.prog.wantsStandIn 22 = false by kernel_rfl)
end Go.Proofs.YtdmkejloknejdaaDoor.cycleWords
namespace Go.Proofs.YtdmkejloknejdaaDoor
open Go
theorem cycleWords_holds : Rows.CycleWordsCardSaid :=
 Claim7.holds_tied_plain_at .later [] _ _ _ _ cycleWords.said (fun _ h => by cases h) (by kernel_rfl) (fun _ h => by cases h) cycleWords_row_tie rfl ⟨rfl, rfl⟩ (by kernel_rfl) rfl cycleWords.plain (by kernel_rfl)
#print axioms cycleWords_holds
end Go.Proofs.YtdmkejloknejdaaDoor

