/- The law 'katabasislaw04.SieveExact' is true for every map, string and number: a number with the rest of a fall is less than itself after the fall's steps if and only if it is greater than Bound. Its condition: none but the row's own (the listed tables of the library). -/
import Derived.Test.YtjbaamfahkjhgaaGreatDoorPkSieveExacte
set_option linter.unusedVariables false
set_option linter.unusedSimpArgs false
namespace Go.Proofs.YtjbaamfahkjhgaaGreatDoor
open Go Go.Ab Go.Mth
theorem f137_ : callable cx.P 65 = true := by kernel_rfl
theorem f138_ : callable cx.P 66 = true := by kernel_rfl
theorem f139_ : callable cx.P 67 = true := by kernel_rfl
set_option maxRecDepth 100000 in
theorem c_sFind (m : MapM) (a : ByteArray) (k : Int) (ha : a.size ≤ 9223372036854775807) (hkb : k ≤ 9223372036854775807) : ECalls cx 17 [mapV m, Sv a, Iv k] (.tup [falV (fdF m a k), bp (fdB m a k), nm .i64 (fdE m a k)]) := by
 refine ecalls_of_awp Tryz.func17 (c := _) rfl (Nat.le_of_ble_eq_true rfl) ?_
 show awp cx 87 _ (postF cx Tryz.f17 _) ⟨[(0, mapV m), (1, Sv a), (2, Iv k)], []⟩
 refine awp_seq fun K0 hK0 => ?_
 refine awp_region rfl ?_
 refine o_box 2 [Iv m.mod, Lv m.mul, Lv m.add] Gd.none rfl rfl ?_
 refine o_alloc 3 [Nv 0, Nv 0, Sv Ev, Sv Ev, Sv Ev, Sv Ev] Gd.none f93_ rfl rfl rfl ?_
 refine o_as Fv rfl ?_
 refine o_as (Nv 0) rfl ?_
 refine aops_end ?_
 refine hK0 _ ?_
 refine awp_seq fun K1 hK1 => ?_
 refine awp_seq fun K2 hK2 => ?_
 refine awp_region rfl ?_
 refine o_loadA [Iv m.mod, Lv m.mul, Lv m.add] Gd.none f64_ rfl rfl rfl rfl rfl ?_
 refine o_ct (c_sValid m) Gd.none f91_ rfl ?_
 refine o_not (b := okM m) Gd.none rfl ?_
 refine o_mv (.lit (.bool (!(okM m)))) rfl ?_
 refine o_split (b := !(okM m)) 21 rfl (fun h1 => ?_) (fun h1 => ?_)
 ·have hm' : ¬ okM m = true := by simpa using h1
  refine o_skip rfl rfl h1 ?_
  refine o_skip rfl rfl h1 ?_
  refine o_skip rfl rfl h1 ?_
  refine o_pickT Tv Gd.none rfl h1 rfl ?_
  refine aops_end ?_
  refine hK2 _ ?_
  refine awp_condB (b := true) rfl (fun _ => ?_) (fun hh => absurd (hh.symm.trans rfl) (by decide))
  refine awp_seq fun K3 hK3 => ?_
  refine awp_region rfl ?_
  refine o_build [Nv 0, Nv 0, Sv Ev, Sv Ev, Sv Ev, Sv Ev] [] Gd.none f96_ f93_ rfl rfl rfl ?_
  refine n_as (v' := (falV zFal)) (by exact rfl) ?_
  refine o_store [(3, .var 40 [Iv (zFal.steps), Iv (zFal.rest), Sv (zFal.lmul), Sv (zFal.ladd), Sv (zFal.ldiv), Sv (zFal.bound)]), (2, oM 24 m)] Gd.none f97_ rfl rfl rfl rfl rfl rfl ?_
  refine o_as Fv rfl ?_
  refine o_as (Nv 1) rfl ?_
  refine aops_end ?_
  refine hK3 _ ?_
  refine awp_ret ?_
  refine post_ret ⟨[.agg [Iv (zFal.steps), Iv (zFal.rest), Sv (zFal.lmul), Sv (zFal.ladd), Sv (zFal.ldiv), Sv (zFal.bound)], Fv, Nv 1], ⟨⟨3, .var 40 [Iv (zFal.steps), Iv (zFal.rest), Sv (zFal.lmul), Sv (zFal.ladd), Sv (zFal.ldiv), Sv (zFal.bound)], rfl, rfl, rfl, Or.inl ⟨f98_, AV.le_refl _⟩⟩, AV.le_refl _, AV.le_refl _, trivial⟩, rfl, ?_⟩
  first | (have e := fd_1 (m := m) (a := a) (k := k) (fun q => hm' q.1); rw [e.1, e.2.1, bpn e.2.2]; rfl) | (have e := fd_1 (m := m) (a := a) (k := k) (fun q => ha' q.2); rw [e.1, e.2.1, bpn e.2.2]; rfl) | (have e := fd_2 (m := m) (a := a) (k := k) ⟨hm', ha'⟩ h3; rw [e.1, e.2.1, bpn e.2.2]; rfl) | (have e := fd_0 (m := m) (a := a) (k := k) ⟨hm', ha'⟩ hy; rw [e.1, e.2.1, ← hfm.1, hfy.1, bpy (e.2.2.2 (hfm.2.1 hfy.2))]; rfl) | (have e := fd_0 (m := m) (a := a) (k := k) ⟨hm', ha'⟩ hy; have e2 := fnd_no (m := m) (z := Z) (k := k.toNat) (by rw [show k.toNat = i by omega]; exact h0); rw [e.1, e.2.1, ← hfm.1, e2.1, bpn (fun q => e2.2 (hfm.2.2 (e.2.2.1 q)))]; rfl)
 ·have hm' : okM m = true := by simpa using h1
  have hM := okM_iff.1 hm'
  have hM2 := hM
  obtain ⟨o1, o2, o3, o4, o5⟩ := hM2
  refine o_move (Sv a) (Gd.yes rfl rfl h1) rfl ?_
  refine o_ct (c_nValid a (by first | assumption | decide | omega)) (Gd.yes rfl rfl h1) f137_ rfl ?_
  refine o_not (b := okS a) (Gd.yes rfl rfl h1) rfl ?_
  refine o_pickF (.lit (.bool (!(okS a)))) Gd.none rfl h1 rfl ?_
  refine aops_end ?_
  refine hK2 _ ?_
  refine awp_condB (b := !(okS a)) rfl (fun h2 => ?_) (fun h2 => ?_)
  ·have ha' : ¬ okS a = true := by simpa using h2
   refine awp_seq fun K4 hK4 => ?_
   refine awp_region rfl ?_
   refine o_build [Nv 0, Nv 0, Sv Ev, Sv Ev, Sv Ev, Sv Ev] [] Gd.none f96_ f93_ rfl rfl rfl ?_
   refine n_as (v' := (falV zFal)) (by exact rfl) ?_
   refine o_store [(3, .var 40 [Iv (zFal.steps), Iv (zFal.rest), Sv (zFal.lmul), Sv (zFal.ladd), Sv (zFal.ldiv), Sv (zFal.bound)]), (2, oM 24 m)] Gd.none f97_ rfl rfl rfl rfl rfl rfl ?_
   refine o_as Fv rfl ?_
   refine o_as (Nv 1) rfl ?_
   refine aops_end ?_
   refine hK4 _ ?_
   refine awp_ret ?_
   refine post_ret ⟨[.agg [Iv (zFal.steps), Iv (zFal.rest), Sv (zFal.lmul), Sv (zFal.ladd), Sv (zFal.ldiv), Sv (zFal.bound)], Fv, Nv 1], ⟨⟨3, .var 40 [Iv (zFal.steps), Iv (zFal.rest), Sv (zFal.lmul), Sv (zFal.ladd), Sv (zFal.ldiv), Sv (zFal.bound)], rfl, rfl, rfl, Or.inl ⟨f98_, AV.le_refl _⟩⟩, AV.le_refl _, AV.le_refl _, trivial⟩, rfl, ?_⟩
   first | (have e := fd_1 (m := m) (a := a) (k := k) (fun q => hm' q.1); rw [e.1, e.2.1, bpn e.2.2]; rfl) | (have e := fd_1 (m := m) (a := a) (k := k) (fun q => ha' q.2); rw [e.1, e.2.1, bpn e.2.2]; rfl) | (have e := fd_2 (m := m) (a := a) (k := k) ⟨hm', ha'⟩ h3; rw [e.1, e.2.1, bpn e.2.2]; rfl) | (have e := fd_0 (m := m) (a := a) (k := k) ⟨hm', ha'⟩ hy; rw [e.1, e.2.1, ← hfm.1, hfy.1, bpy (e.2.2.2 (hfm.2.1 hfy.2))]; rfl) | (have e := fd_0 (m := m) (a := a) (k := k) ⟨hm', ha'⟩ hy; have e2 := fnd_no (m := m) (z := Z) (k := k.toNat) (by rw [show k.toNat = i by omega]; exact h0); rw [e.1, e.2.1, ← hfm.1, e2.1, bpn (fun q => e2.2 (hfm.2.2 (e.2.2.1 q)))]; rfl)
  ·have ha' : okS a = true := by simpa using h2
   have la := len_numS (okS_iff.1 ha')
   refine awp_skip ?_
   refine hK1 _ ?_
   refine awp_seq fun K5 hK5 => ?_
   refine awp_seq fun K6 hK6 => ?_
   refine awp_region rfl ?_
   refine o_loadA [Iv m.mod, Lv m.mul, Lv m.add] Gd.none f64_ rfl rfl rfl rfl rfl ?_
   refine o_mv (Iv k) rfl ?_
   refine o_ct (c_scheck m k (by first | assumption | omega)) Gd.none f127_ rfl ?_
   refine o_as (Nv (chkE m k)) rfl ?_
   refine aops_end ?_
   refine hK6 _ ?_
   refine awp_seq fun K7 hK7 => ?_
   refine awp_region rfl ?_
   refine o_mv (Nv (chkE m k)) rfl ?_
   refine n_neq (chkE m k) 0 Gd.none rfl rfl ?_
   refine aops_end ?_
   refine hK7 _ ?_
   refine awp_condQ (q := (chkE m k) ≠ 0) rfl (fun h3 => ?_) (fun h3 => ?_)
   ·refine awp_seq fun K8 hK8 => ?_
    refine awp_region rfl ?_
    refine o_build [Nv 0, Nv 0, Sv Ev, Sv Ev, Sv Ev, Sv Ev] [] Gd.none f96_ f93_ rfl rfl rfl ?_
    refine n_as (v' := (falV zFal)) (by exact rfl) ?_
    refine o_mv (Nv (chkE m k)) rfl ?_
    refine o_store [(3, .var 40 [Iv (zFal.steps), Iv (zFal.rest), Sv (zFal.lmul), Sv (zFal.ladd), Sv (zFal.ldiv), Sv (zFal.bound)]), (2, oM 24 m)] Gd.none f97_ rfl rfl rfl rfl rfl rfl ?_
    refine o_as Fv rfl ?_
    refine o_as (Nv (chkE m k)) rfl ?_
    refine aops_end ?_
    refine hK8 _ ?_
    refine awp_ret ?_
    refine post_ret ⟨[.agg [Iv (zFal.steps), Iv (zFal.rest), Sv (zFal.lmul), Sv (zFal.ladd), Sv (zFal.ldiv), Sv (zFal.bound)], Fv, Nv (chkE m k)], ⟨⟨3, .var 40 [Iv (zFal.steps), Iv (zFal.rest), Sv (zFal.lmul), Sv (zFal.ladd), Sv (zFal.ldiv), Sv (zFal.bound)], rfl, rfl, rfl, Or.inl ⟨f98_, AV.le_refl _⟩⟩, AV.le_refl _, AV.le_refl _, trivial⟩, rfl, ?_⟩
    first | (have e := fd_1 (m := m) (a := a) (k := k) (fun q => hm' q.1); rw [e.1, e.2.1, bpn e.2.2]; rfl) | (have e := fd_1 (m := m) (a := a) (k := k) (fun q => ha' q.2); rw [e.1, e.2.1, bpn e.2.2]; rfl) | (have e := fd_2 (m := m) (a := a) (k := k) ⟨hm', ha'⟩ h3; rw [e.1, e.2.1, bpn e.2.2]; rfl) | (have e := fd_0 (m := m) (a := a) (k := k) ⟨hm', ha'⟩ hy; rw [e.1, e.2.1, ← hfm.1, hfy.1, bpy (e.2.2.2 (hfm.2.1 hfy.2))]; rfl) | (have e := fd_0 (m := m) (a := a) (k := k) ⟨hm', ha'⟩ hy; have e2 := fnd_no (m := m) (z := Z) (k := k.toNat) (by rw [show k.toNat = i by omega]; exact h0); rw [e.1, e.2.1, ← hfm.1, e2.1, bpn (fun q => e2.2 (hfm.2.2 (e.2.2.1 q)))]; rfl)
   ·have hy : mayS m k := Decidable.byContradiction fun e => absurd (chk_2 hm' e) (by rw [Decidable.not_not.1 h3]; decide)
    have hk2 := hy.2.2
    have hk1 := hy.2.1
    have hk16 := may_16 hM hk2
    have hkp : 0 < m.mod ^ k.toNat := Int.pow_pos (by omega)
    obtain ⟨P, hP⟩ : ∃ P : Nat, ((P : Nat) : Int) = m.mod ^ k.toNat := ⟨_, Int.toNat_of_nonneg (Int.le_of_lt hkp)⟩
    obtain ⟨Z, hZ⟩ : ∃ Z : Int, Z = numS a % m.mod ^ k.toNat := ⟨_, rfl⟩
    have hZ0 : 0 ≤ Z := by rw [hZ]; exact Int.emod_nonneg _ (by omega)
    have hZ1 : Z < m.mod ^ k.toNat := by rw [hZ]; exact Int.emod_lt_of_pos _ hkp
    have hfm := fndF_mod hM (numS a) k.toNat
    rw [← hZ] at hfm
    have hzl := small_len (z := Z) (by omega)
    refine awp_skip ?_
    refine hK5 _ ?_
    refine awp_seq fun K9 hK9 => ?_
    refine awp_region rfl ?_
    refine o_as (Nv 1) rfl ?_
    refine n_as (v' := (Iv (m.mod ^ 0))) (by exact congrArg (fun z => AV.lit (.int .i64 z)) (Int.pow_zero _).symm) ?_
    refine aops_end ?_
    refine hK9 _ ?_
    refine awp_seq fun K10 hK10 => ?_
    refine awp_seq fun K11 hK11 => ?_
    refine awp_region rfl ?_
    refine o_mv (Iv k) rfl ?_
    refine o_mv (Nv 0) rfl ?_
    refine aops_end ?_
    refine hK11 _ ?_
    refine awp_block ?_
    refine awp_loopR (fun κ σ => ∃ (u : Nat), (u ≤ k.toNat) ∧ (k.toNat - u) = κ ∧ σ = ⟨[(1, Sv a), (2, Iv k), (3, .ref 2 0), (6, .ref 3 0), (10, Iv (m.mod ^ u)), (34, Iv k), (35, Nv u)], [(2, oM 24 m), (3, .var 40 [Nv 0, Nv 0, Sv Ev, Sv Ev, Sv Ev, Sv Ev])]⟩) ⟨_, _, ⟨0, (by omega), rfl, rfl⟩, ?wk0⟩ ?rd0
    case wk0 =>
     exact Wk.sub ⟨rfl, rfl, rfl, rfl, (by first | rfl | exact int_eq (by omega) | exact int_nm (by omega)), rfl, (by first | rfl | exact nm_int (by omega)), trivial⟩ ⟨rfl, rfl, trivial⟩
    rintro κ _ ⟨u, hu, rfl, rfl⟩
    have hpp : 0 < m.mod ^ u := Int.pow_pos (by omega)
    have hb := pow_le_of hM (j := u) (k := k.toNat) (by omega)
    have hmb := Int.mul_le_mul (show m.mod ^ u ≤ 65536 by omega) o2 (show (0 : Int) ≤ m.mod by omega) (by decide)
    have hml := Int.mul_pos hpp (show 0 < m.mod by omega)
    refine awp_seq fun K12 hK12 => ?_
    refine awp_region rfl ?_
    refine o_lss (a := (((u : Nat) : Int))) (c := k) Gd.none rfl rfl ?_
    refine aops_end ?_
    refine hK12 _ ?_
    refine awp_seq fun K13 hK13 => ?_
    refine awp_condQ (q := (((u : Nat) : Int)) < k) rfl (fun h4 => ?_) (fun h4 => ?_)
    ·refine awp_skip ?_
     refine hK13 _ ?_
     refine awp_seq fun K14 hK14 => ?_
     refine awp_block ?_
     refine awp_region rfl ?_
     refine o_mv (Iv (m.mod ^ u)) rfl ?_
     refine o_fieldRef 0 Gd.none f60_ rfl rfl ?_
     refine o_loadS (Iv m.mod) Gd.none f11_ rfl rfl rfl ?_
     refine o_mul (a := (m.mod ^ u)) (c := m.mod) Gd.none rfl rfl (by exact wrap64 (by omega) (by omega)) ?_
     refine n_as (v' := (Iv (m.mod ^ (u + 1)))) (by exact congrArg (fun z => AV.lit (.int .i64 z)) (Int.pow_succ _ _).symm) ?_
     refine o_as (Iv (m.mod ^ (u + 1))) rfl ?_
     refine aops_end ?_
     refine hK14 _ ?_
     refine awp_region rfl ?_
     refine n_add u 1 Gd.none rfl rfl (by simp only [topOf]; omega) ?_
     refine o_mv (Nv (u + 1)) rfl ?_
     refine aops_end ?_
     refine ⟨_, _, ?lt, ⟨u + 1, (by omega), rfl, rfl⟩, ?wk⟩
     case lt => omega
     case wk => exact Wk.sub ⟨rfl, rfl, rfl, rfl, (by first | rfl | exact int_eq (by omega) | exact int_nm (by omega)), rfl, (by first | rfl | exact nm_int (by omega)), trivial⟩ ⟨rfl, rfl, trivial⟩
    ·refine awp_exit ?_
     refine hK10 _ ?_
     refine awp_seq fun K15 hK15 => ?_
     refine awp_region rfl ?_
     refine o_mv (Sv a) rfl ?_
     refine o_ct (c_wParse a (by first | assumption | exact okS_iff.1 (by assumption))) Gd.none f138_ rfl ?_
     refine o_mv (Iv (m.mod ^ u)) rfl ?_
     refine n_as (v' := (Nv P)) (nm_int (by rw [hP, show k.toNat = u by omega])) ?_
     refine o_ct (c_wQR ((numS a)) P (by omega) (by omega) (by first | omega | assumption | (simp only [Int.natAbs_neg]; omega))) Gd.none f67_ rfl ?_
     refine o_mv (.tup [(intW (((numS a) / ((P : Nat) : Int)))), (Iv ((numS a) % ((P : Nat) : Int)))]) rfl ?_
     refine o_extract (intW (((numS a) / ((P : Nat) : Int)))) Gd.none rfl rfl ?_
     refine o_extract (Iv ((numS a) % ((P : Nat) : Int))) Gd.none rfl rfl ?_
     refine n_as (v' := (Iv Z)) (by exact congrArg (fun z => AV.lit (.int .i64 z)) (by rw [hZ, hP])) ?_
     refine o_alloc 101 [Fv, Zv] Gd.none f15_ rfl rfl rfl ?_
     refine o_store [(101, (oZ 79 .u32 (((numS a) / ((P : Nat) : Int))))), (2, oM 24 m), (3, .var 40 [Nv 0, Nv 0, Sv Ev, Sv Ev, Sv Ev, Sv Ev])] Gd.none f19_ rfl rfl rfl rfl rfl rfl ?_
     refine o_as (Iv Z) rfl ?_
     refine aops_end ?_
     refine hK15 _ ?_
     refine awp_seq fun K16 hK16 => ?_
     refine awp_region rfl ?_
     refine o_mv (Iv Z) rfl ?_
     refine o_ct (c_wOf Z (by first | decide | omega) (by first | decide | omega)) Gd.none f46_ rfl ?_
     refine o_alloc 102 [Fv, Zv] Gd.none f15_ rfl rfl rfl ?_
     refine o_store [(102, oZ 79 .u32 Z), (101, (oZ 79 .u32 (((numS a) / ((P : Nat) : Int))))), (2, oM 24 m), (3, .var 40 [Nv 0, Nv 0, Sv Ev, Sv Ev, Sv Ev, Sv Ev])] Gd.none f19_ rfl rfl rfl rfl rfl rfl ?_
     refine aops_end ?_
     refine hK16 _ ?_
     refine awp_seq fun K17 hK17 => ?_
     refine awp_region rfl ?_
     refine o_as Zv rfl ?_
     refine aops_end ?_
     refine hK17 _ ?_
     refine awp_seq fun K18 hK18 => ?_
     refine awp_region rfl ?_
     refine o_as (Nv 1) rfl ?_
     refine n_as (v' := (Iv (m.mod ^ 0))) (by exact congrArg (fun z => AV.lit (.int .i64 z)) (Int.pow_zero _).symm) ?_
     refine aops_end ?_
     refine hK18 _ ?_
     refine awp_seq fun K19 hK19 => ?_
     refine awp_seq fun K20 hK20 => ?_
     refine awp_region rfl ?_
     refine o_mv (Iv k) rfl ?_
     refine o_mv (Nv 0) rfl ?_
     refine aops_end ?_
     refine hK20 _ ?_
     refine awp_block ?_
     refine awp_loopR (fun κ σ => ∃ (i : Nat), (i ≤ k.toNat) ∧ (ffal m Z i = 0) ∧ ((digs (iterZ m i Z).natAbs).length ≤ 1 + 4 * i) ∧ (k.toNat - i) = κ ∧ σ = ⟨[(2, Iv k), (3, .ref 2 0), (6, .ref 3 0), (10, Iv (m.mod ^ i)), (12, Iv Z), (13, .ref 4 0), (14, .row 50), (51, Iv k), (52, Nv i)], [(2, oM 24 m), (3, .var 40 [Nv 0, Nv 0, Sv Ev, Sv Ev, Sv Ev, Sv Ev]), (4, oZ 79 .u32 ((iterZ m i Z))), (50, .row 3 1 (is .i64 (wordZ m Z i)))]⟩) ⟨_, _, ⟨0, (by omega), rfl, (show (digs Z.natAbs).length ≤ 1 + 4 * 0 by omega), rfl, rfl⟩, ?wk1⟩ ?rd1
     case wk1 =>
      exact Wk.trans (Wk.newNil (i := 14) (id := 603) (e := 3) (sz := 1) rfl rfl (by decide)) (Wk.trans (Wk.sub (σ' := ⟨[(2, Iv k), (3, .ref 2 0), (6, .ref 3 0), (10, Iv (m.mod ^ 0)), (12, Iv Z), (13, .ref 102 0), (14, .row 603), (51, Iv k), (52, Nv 0)], [(2, oM 24 m), (3, .var 40 [Nv 0, Nv 0, Sv Ev, Sv Ev, Sv Ev, Sv Ev]), (102, oZ 79 .u32 Z), (603, .row 3 1 (is .i64 ([])))]⟩) ⟨rfl, rfl, rfl, rfl, rfl, rfl, rfl, rfl, rfl, trivial⟩ ⟨rfl, rfl, rfl, rfl, trivial⟩) (Wk.trans (Wk.ren (id := 102) (id' := 4) rfl) (Wk.trans (Wk.ren (id := 603) (id' := 50) rfl) (Wk.sub ⟨rfl, rfl, rfl, (by first | rfl | exact int_eq (by omega) | exact int_nm (by omega)), rfl, (by first | rfl | simp), (by first | rfl | simp), rfl, (by first | rfl | exact nm_int (by omega)), trivial⟩ ⟨rfl, rfl, rfl, (by first | rfl | exact row_ns (by simp)), trivial⟩))))
     rintro κ _ ⟨i, hi, h0, hlz, rfl, rfl⟩
     have hpp : 0 < m.mod ^ i := Int.pow_pos (by omega)
     have hb := pow_le_of hM (j := i) (k := k.toNat) (by omega)
     have hmb := Int.mul_le_mul (show m.mod ^ i ≤ 65536 by omega) o2 (show (0 : Int) ≤ m.mod by omega) (by decide)
     have hml := Int.mul_pos hpp (show 0 < m.mod by omega)
     have hln := step_len' hM (iterZ m i Z)
     have hW1 := wordZ_is hM Z (i + 1)
     have hL1 := wordZ_len m Z (i + 1)
     have hL2 : ((wordZ m Z i) ++ ([iterZ m i Z % m.mod])).length = i + 1 := hL1
     obtain ⟨M1, M2, M3⟩ := line_len hM (wordZ m Z (i + 1)) hW1
     have hpq : 0 < m.mod ^ (i + 1) := Int.pow_pos (by omega)
     refine awp_seq fun K21 hK21 => ?_
     refine awp_region rfl ?_
     refine o_lss (a := (((i : Nat) : Int))) (c := k) Gd.none rfl rfl ?_
     refine aops_end ?_
     refine hK21 _ ?_
     refine awp_seq fun K22 hK22 => ?_
     refine awp_condQ (q := (((i : Nat) : Int)) < k) rfl (fun h5 => ?_) (fun h5 => ?_)
     ·refine awp_skip ?_
      refine hK22 _ ?_
      refine awp_seq fun K23 hK23 => ?_
      refine awp_block ?_
      refine awp_seq fun K24 hK24 => ?_
      refine awp_region rfl ?_
      refine o_loadA [Iv m.mod, Lv m.mul, Lv m.add] Gd.none f64_ rfl rfl rfl rfl rfl ?_
      refine o_loadA [bp ((iterZ m i Z) < 0), .sl 1 (ns .u32 (digs ((iterZ m i Z)).natAbs))] Gd.none f20_ rfl rfl rfl rfl rfl ?_
      refine o_ct (c_sNext m ((iterZ m i Z)) (by first | assumption | exact okM_iff.1 (by assumption)) (by first | omega | assumption | (simp only [Int.natAbs_neg]; omega))) Gd.none f139_ rfl ?_
      refine o_mv (.tup [intW ((stepZ m (iterZ m i Z))), Iv ((iterZ m i Z) % m.mod)]) rfl ?_
      refine o_extract (intW ((stepZ m (iterZ m i Z)))) Gd.none rfl rfl ?_
      refine o_extract (Iv ((iterZ m i Z) % m.mod)) Gd.none rfl rfl ?_
      refine o_alloc 201 [Fv, Zv] Gd.none f15_ rfl rfl rfl ?_
      refine o_store [(201, oZ 79 .u32 ((stepZ m (iterZ m i Z)))), (2, oM 24 m), (3, .var 40 [Nv 0, Nv 0, Sv Ev, Sv Ev, Sv Ev, Sv Ev]), (4, oZ 79 .u32 ((iterZ m i Z))), (50, .row 3 1 (is .i64 (wordZ m Z i)))] Gd.none f19_ rfl rfl rfl rfl rfl rfl ?_
      refine o_as (Iv ((iterZ m i Z) % m.mod)) rfl ?_
      refine aops_end ?_
      refine hK24 _ ?_
      refine awp_seq fun K25 hK25 => ?_
      refine awp_region rfl ?_
      refine o_loadA [bp ((stepZ m (iterZ m i Z)) < 0), .sl 1 (ns .u32 (digs ((stepZ m (iterZ m i Z))).natAbs))] Gd.none f20_ rfl rfl rfl rfl rfl ?_
      refine o_store [(201, oZ 79 .u32 ((stepZ m (iterZ m i Z)))), (2, oM 24 m), (3, .var 40 [Nv 0, Nv 0, Sv Ev, Sv Ev, Sv Ev, Sv Ev]), (4, oZ 79 .u32 ((stepZ m (iterZ m i Z)))), (50, .row 3 1 (is .i64 (wordZ m Z i)))] Gd.none f19_ rfl rfl rfl rfl rfl rfl ?_
      refine aops_end ?_
      refine hK25 _ ?_
      refine awp_seq fun K26 hK26 => ?_
      refine awp_region rfl ?_
      refine o_mv (.row 50) rfl ?_
      refine o_mv (Iv ((iterZ m i Z) % m.mod)) rfl ?_
      refine o_buildSlice 202 (is .i64 ([(iterZ m i Z) % m.mod])) [(0, [Iv ((iterZ m i Z) % m.mod)])] Gd.none f10_ rfl f26_ rfl rfl rfl rfl rfl rfl rfl ?_
      refine i_append 203 (wordZ m Z i) ([(iterZ m i Z) % m.mod]) [(202, .row 3 1 (is .i64 ([(iterZ m i Z) % m.mod]))), (201, oZ 79 .u32 ((stepZ m (iterZ m i Z)))), (2, oM 24 m), (3, .var 40 [Nv 0, Nv 0, Sv Ev, Sv Ev, Sv Ev, Sv Ev]), (4, oZ 79 .u32 ((stepZ m (iterZ m i Z))))] Gd.none f10_ f26_ rfl rfl rfl rfl rfl (by simp only [wordZ_len, List.length_cons, List.length_nil]; omega) (by decide) rfl rfl ?_
      refine o_as (.row 203) rfl ?_
      refine aops_end ?_
      refine hK26 _ ?_
      refine awp_seq fun K27 hK27 => ?_
      refine awp_region rfl ?_
      refine o_mv (Iv (m.mod ^ i)) rfl ?_
      refine o_fieldRef 0 Gd.none f60_ rfl rfl ?_
      refine o_loadS (Iv m.mod) Gd.none f11_ rfl rfl rfl ?_
      refine o_mul (a := (m.mod ^ i)) (c := m.mod) Gd.none rfl rfl (by exact wrap64 (by omega) (by omega)) ?_
      refine n_as (v' := (Iv (m.mod ^ (i + 1)))) (by exact congrArg (fun z => AV.lit (.int .i64 z)) (Int.pow_succ _ _).symm) ?_
      refine o_as (Iv (m.mod ^ (i + 1))) rfl ?_
      refine aops_end ?_
      refine hK27 _ ?_
      refine awp_seq fun K28 hK28 => ?_
      refine awp_wk (σ' := ⟨[(2, Iv k), (3, .ref 2 0), (6, .ref 3 0), (10, Iv (m.mod ^ (i + 1))), (12, Iv Z), (13, .ref 4 0), (14, .row 203), (51, Iv k), (52, Nv i), (53, (bp ((((i : Nat) : Int)) < k))), (55, mapV m), (56, intW ((iterZ m i Z))), (57, .tup [intW ((stepZ m (iterZ m i Z))), Iv ((iterZ m i Z) % m.mod)]), (54, .tup [intW ((stepZ m (iterZ m i Z))), Iv ((iterZ m i Z) % m.mod)]), (58, intW ((stepZ m (iterZ m i Z)))), (59, Iv ((iterZ m i Z) % m.mod)), (15, .ref 201 0), (16, Iv ((iterZ m i Z) % m.mod)), (60, intW ((stepZ m (iterZ m i Z)))), (61, .row 50), (62, Iv ((iterZ m i Z) % m.mod)), (63, .row 202), (64, .row 203), (65, Iv (m.mod ^ i)), (66, .ref 2 0), (67, Iv m.mod), (68, Iv (m.mod ^ (i + 1)))], [(203, .row 3 1 (is .i64 ((wordZ m Z i) ++ ([(iterZ m i Z) % m.mod])))), (202, .row 3 1 (is .i64 ([(iterZ m i Z) % m.mod]))), (201, oZ 79 .u32 ((stepZ m (iterZ m i Z)))), (2, oM 24 m), (3, .var 40 [Nv 0, Nv 0, Sv Ev, Sv Ev, Sv Ev, Sv Ev]), (4, oZ 79 .u32 ((stepZ m (iterZ m i Z))))]⟩) (Wk.sub ⟨rfl, rfl, rfl, rfl, rfl, rfl, rfl, rfl, rfl, rfl, rfl, rfl, rfl, rfl, rfl, rfl, rfl, rfl, rfl, rfl, rfl, rfl, rfl, rfl, rfl, rfl, rfl, trivial⟩ ⟨rfl, rfl, rfl, rfl, rfl, rfl, trivial⟩) ?_
      refine awp_regionSK 2 71 _ 47 [] _ _ _ _ _ [mapV m, .row 203] (linW (lineZ m (wordZ m Z (i + 1)))) [(203, .row 3 1 (is .i64 ((wordZ m Z i) ++ ([(iterZ m i Z) % m.mod])))), (202, .row 3 1 (is .i64 ([(iterZ m i Z) % m.mod]))), (201, oZ 79 .u32 ((stepZ m (iterZ m i Z)))), (2, oM 24 m), (3, .var 40 [Nv 0, Nv 0, Sv Ev, Sv Ev, Sv Ev, Sv Ev]), (4, oZ 79 .u32 ((stepZ m (iterZ m i Z))))] rfl rfl f118_ ?_
      refine o_loadA [Iv m.mod, Lv m.mul, Lv m.add] Gd.none f64_ rfl rfl rfl rfl rfl ?_
      refine o_mv (.row 203) rfl ?_
      refine aops_end ⟨rfl, rfl, ?sc2, ?_⟩
      case sc2 =>
       refine scalls_of_awpB 9011 Tryz.func47 (c := _) rfl (Nat.le_of_ble_eq_true rfl) rfl rfl rfl (fun us2 => ?_)
       show awp cx 25 _ (postS cx Tryz.f47 (linW (lineZ m (wordZ m Z (i + 1)))) [(203, .row 3 1 (is .i64 ((wordZ m Z i) ++ ([(iterZ m i Z) % m.mod])))), (202, .row 3 1 (is .i64 ([(iterZ m i Z) % m.mod]))), (201, oZ 79 .u32 ((stepZ m (iterZ m i Z)))), (2, oM 24 m), (3, .var 40 [Nv 0, Nv 0, Sv Ev, Sv Ev, Sv Ev, Sv Ev]), (4, oZ 79 .u32 ((stepZ m (iterZ m i Z))))] 9011 [.row 203, mapV m, Iv k, .ref 2 0, .ref 3 0, Iv (m.mod ^ (i + 1)), Iv Z, .ref 4 0, .row 203, Iv k, Nv i, (bp ((((i : Nat) : Int)) < k)), mapV m, intW ((iterZ m i Z)), .tup [intW ((stepZ m (iterZ m i Z))), Iv ((iterZ m i Z) % m.mod)], .tup [intW ((stepZ m (iterZ m i Z))), Iv ((iterZ m i Z) % m.mod)], intW ((stepZ m (iterZ m i Z))), Iv ((iterZ m i Z) % m.mod), .ref 201 0, Iv ((iterZ m i Z) % m.mod), intW ((stepZ m (iterZ m i Z))), .row 50, Iv ((iterZ m i Z) % m.mod), .row 202, .row 203, Iv (m.mod ^ i), .ref 2 0, Iv m.mod, Iv (m.mod ^ (i + 1))] us2) ⟨[(0, mapV m), (1, .row 203)], [(9011, (.pin [.row 203, mapV m, Iv k, .ref 2 0, .ref 3 0, Iv (m.mod ^ (i + 1)), Iv Z, .ref 4 0, .row 203, Iv k, Nv i, (bp ((((i : Nat) : Int)) < k)), mapV m, intW ((iterZ m i Z)), .tup [intW ((stepZ m (iterZ m i Z))), Iv ((iterZ m i Z) % m.mod)], .tup [intW ((stepZ m (iterZ m i Z))), Iv ((iterZ m i Z) % m.mod)], intW ((stepZ m (iterZ m i Z))), Iv ((iterZ m i Z) % m.mod), .ref 201 0, Iv ((iterZ m i Z) % m.mod), intW ((stepZ m (iterZ m i Z))), .row 50, Iv ((iterZ m i Z) % m.mod), .row 202, .row 203, Iv (m.mod ^ i), .ref 2 0, Iv m.mod, Iv (m.mod ^ (i + 1))] us2)), (203, .row 3 1 (is .i64 ((wordZ m Z i) ++ ([(iterZ m i Z) % m.mod])))), (202, .row 3 1 (is .i64 ([(iterZ m i Z) % m.mod]))), (201, oZ 79 .u32 ((stepZ m (iterZ m i Z)))), (2, oM 24 m), (3, .var 40 [Nv 0, Nv 0, Sv Ev, Sv Ev, Sv Ev, Sv Ev]), (4, oZ 79 .u32 ((stepZ m (iterZ m i Z))))]⟩
       refine awp_seq fun K29 hK29 => ?_
       refine awp_region rfl ?_
       refine o_box 204 [Iv m.mod, Lv m.mul, Lv m.add] Gd.none rfl rfl ?_
       refine o_alloc 205 [Fv, Zv, Fv, Zv, Fv, Zv] Gd.none f78_ rfl rfl rfl ?_
       refine aops_end ?_
       refine hK29 _ ?_
       refine awp_seq fun K30 hK30 => ?_
       refine awp_region rfl ?_
       refine o_ct (c_wOf ((1 : Int)) (by first | decide | omega) (by first | decide | omega)) Gd.none f46_ rfl ?_
       refine o_ct (c_wOf ((0 : Int)) (by first | decide | omega) (by first | decide | omega)) Gd.none f46_ rfl ?_
       refine o_ct (c_wOf ((1 : Int)) (by first | decide | omega) (by first | decide | omega)) Gd.none f46_ rfl ?_
       refine o_build [(bp ((1 : Int) < 0)), (.sl 1 (ns .u32 (digs ((1 : Int)).natAbs))), (bp ((0 : Int) < 0)), (.sl 1 (ns .u32 (digs ((0 : Int)).natAbs))), (bp ((1 : Int) < 0)), (.sl 1 (ns .u32 (digs ((1 : Int)).natAbs)))] [(0, [(bp ((1 : Int) < 0)), (.sl 1 (ns .u32 (digs ((1 : Int)).natAbs)))]), (1, [(bp ((0 : Int) < 0)), (.sl 1 (ns .u32 (digs ((0 : Int)).natAbs)))]), (2, [(bp ((1 : Int) < 0)), (.sl 1 (ns .u32 (digs ((1 : Int)).natAbs)))])] Gd.none f79_ f78_ rfl rfl rfl ?_
       refine o_alloc 206 [Fv, Zv, Fv, Zv, Fv, Zv] Gd.none f78_ rfl rfl rfl ?_
       refine o_store [(206, (.var 81 [(bp ((1 : Int) < 0)), (.sl 1 (ns .u32 (digs ((1 : Int)).natAbs))), (bp ((0 : Int) < 0)), (.sl 1 (ns .u32 (digs ((0 : Int)).natAbs))), (bp ((1 : Int) < 0)), (.sl 1 (ns .u32 (digs ((1 : Int)).natAbs)))])), (205, .var 81 [Fv, Zv, Fv, Zv, Fv, Zv]), (204, oM 24 m), (9011, (.pin [.row 203, mapV m, Iv k, .ref 2 0, .ref 3 0, Iv (m.mod ^ (i + 1)), Iv Z, .ref 4 0, .row 203, Iv k, Nv i, (bp ((((i : Nat) : Int)) < k)), mapV m, intW ((iterZ m i Z)), .tup [intW ((stepZ m (iterZ m i Z))), Iv ((iterZ m i Z) % m.mod)], .tup [intW ((stepZ m (iterZ m i Z))), Iv ((iterZ m i Z) % m.mod)], intW ((stepZ m (iterZ m i Z))), Iv ((iterZ m i Z) % m.mod), .ref 201 0, Iv ((iterZ m i Z) % m.mod), intW ((stepZ m (iterZ m i Z))), .row 50, Iv ((iterZ m i Z) % m.mod), .row 202, .row 203, Iv (m.mod ^ i), .ref 2 0, Iv m.mod, Iv (m.mod ^ (i + 1))] us2)), (203, .row 3 1 (is .i64 ((wordZ m Z i) ++ ([(iterZ m i Z) % m.mod])))), (202, .row 3 1 (is .i64 ([(iterZ m i Z) % m.mod]))), (201, oZ 79 .u32 ((stepZ m (iterZ m i Z)))), (2, oM 24 m), (3, .var 40 [Nv 0, Nv 0, Sv Ev, Sv Ev, Sv Ev, Sv Ev]), (4, oZ 79 .u32 ((stepZ m (iterZ m i Z))))] Gd.none f80_ rfl rfl rfl rfl rfl rfl ?_
       refine aops_end ?_
       refine hK30 _ ?_
       refine awp_seq fun K31 hK31 => ?_
       refine awp_region rfl ?_
       refine o_makeFunc [.ref 204 0, .ref 206 0] Gd.none rfl ?_
       refine o_as (.clo 84 [.ref 204 0, .ref 206 0]) rfl ?_
       refine aops_end ?_
       refine hK31 _ ?_
       refine awp_seq fun K32 hK32 => ?_
       refine awp_seq fun K33 hK33 => ?_
       refine awp_region rfl ?_
       refine o_mv (.row 203) rfl ?_
       refine o_lenRow (((wordZ m Z i) ++ ([(iterZ m i Z) % m.mod])).length) Gd.none f2_ rfl rfl (by simp [is]) ?_
       refine o_mv (Nv 0) rfl ?_
       refine aops_end ?_
       refine hK33 _ ?_
       refine awp_block ?_
       refine awp_loopR (fun κ σ => ∃ (j : Nat), ∃ (l : LinZ), (j ≤ ((wordZ m Z i) ++ ([(iterZ m i Z) % m.mod])).length) ∧ (l = lineZ m (((wordZ m Z i) ++ ([(iterZ m i Z) % m.mod])).take j)) ∧ (((wordZ m Z i) ++ ([(iterZ m i Z) % m.mod])).length - j) = κ ∧ σ = ⟨[(2, .ref 204 0), (4, .ref 205 0), (5, .ref 206 0), (6, .clo 84 [.ref 204 0, .ref 206 0]), (14, .row 203), (15, Nv (((wordZ m Z i) ++ ([(iterZ m i Z) % m.mod])).length)), (16, Nv j)], [(9011, (.pin [.row 203, mapV m, Iv k, .ref 2 0, .ref 3 0, Iv (m.mod ^ (i + 1)), Iv Z, .ref 4 0, .row 203, Iv k, Nv i, (bp ((((i : Nat) : Int)) < k)), mapV m, intW ((iterZ m i Z)), .tup [intW ((stepZ m (iterZ m i Z))), Iv ((iterZ m i Z) % m.mod)], .tup [intW ((stepZ m (iterZ m i Z))), Iv ((iterZ m i Z) % m.mod)], intW ((stepZ m (iterZ m i Z))), Iv ((iterZ m i Z) % m.mod), .ref 201 0, Iv ((iterZ m i Z) % m.mod), intW ((stepZ m (iterZ m i Z))), .row 50, Iv ((iterZ m i Z) % m.mod), .row 202, .row 203, Iv (m.mod ^ i), .ref 2 0, Iv m.mod, Iv (m.mod ^ (i + 1))] us2)), (203, .row 3 1 (is .i64 ((wordZ m Z i) ++ ([(iterZ m i Z) % m.mod])))), (202, .row 3 1 (is .i64 ([(iterZ m i Z) % m.mod]))), (201, oZ 79 .u32 ((stepZ m (iterZ m i Z)))), (2, oM 24 m), (3, .var 40 [Nv 0, Nv 0, Sv Ev, Sv Ev, Sv Ev, Sv Ev]), (4, oZ 79 .u32 ((stepZ m (iterZ m i Z)))), (204, oM 24 m), (205, .var 81 [Fv, Zv, Fv, Zv, Fv, Zv]), (206, .var 81 [Bv (l.mul), Dv (l.mul), Bv (l.add), Dv (l.add), Bv (l.div), Dv (l.div)])]⟩) ⟨_, _, ⟨0, oneZ, (by omega), rfl, rfl, rfl⟩, ?wk3⟩ ?rd3
       case wk3 =>
        exact Wk.sub ⟨rfl, rfl, rfl, rfl, rfl, rfl, (by first | rfl | exact nm_int (by omega)), trivial⟩ ⟨rfl, rfl, rfl, rfl, rfl, rfl, rfl, rfl, rfl, rfl, trivial⟩
       rintro κ _ ⟨j, l, hj, hl2, rfl, rfl⟩
       refine awp_seq fun K34 hK34 => ?_
       refine awp_region rfl ?_
       refine n_lss j (((wordZ m Z i) ++ ([(iterZ m i Z) % m.mod])).length) Gd.none rfl rfl ?_
       refine aops_end ?_
       refine hK34 _ ?_
       refine awp_seq fun K35 hK35 => ?_
       refine awp_condQ (q := j < (((wordZ m Z i) ++ ([(iterZ m i Z) % m.mod])).length)) rfl (fun h6 => ?_) (fun h6 => ?_)
       ·refine awp_skip ?_
        refine hK35 _ ?_
        refine awp_seq fun K36 hK36 => ?_
        refine awp_block ?_
        refine awp_seq fun K37 hK37 => ?_
        refine awp_region rfl ?_
        refine i_indexRow ((wordZ m Z i) ++ ([(iterZ m i Z) % m.mod])) j Gd.none f10_ rfl rfl rfl (by omega) ?_
        refine i_loadRow ((wordZ m Z i) ++ ([(iterZ m i Z) % m.mod])) j Gd.none f11_ rfl rfl (by omega) ?_
        refine n_as (v' := (Nv ((((wordZ m Z i) ++ ([iterZ m i Z % m.mod])).getD j 0).toNat))) (nm_int (by have hwj := isW_get (show IsW m ((wordZ m Z i) ++ ([iterZ m i Z % m.mod])) from hW1) (show j < ((wordZ m Z i) ++ ([iterZ m i Z % m.mod])).length by assumption); omega)) ?_
        refine o_as (Nv ((((wordZ m Z i) ++ ([iterZ m i Z % m.mod])).getD j 0).toNat)) rfl ?_
        refine aops_end ?_
        refine hK37 _ ?_
        refine awp_wk (σ' := ⟨[(2, .ref 204 0), (4, .ref 205 0), (5, .ref 206 0), (6, .clo 84 [.ref 204 0, .ref 206 0]), (14, .row 203), (15, Nv (((wordZ m Z i) ++ ([(iterZ m i Z) % m.mod])).length)), (16, Nv j), (17, bp (j < (((wordZ m Z i) ++ ([(iterZ m i Z) % m.mod])).length))), (18, .ref 203 j), (19, Nv ((((wordZ m Z i) ++ ([iterZ m i Z % m.mod])).getD j 0).toNat)), (8, Nv ((((wordZ m Z i) ++ ([iterZ m i Z % m.mod])).getD j 0).toNat))], [(9011, (.pin [.row 203, mapV m, Iv k, .ref 2 0, .ref 3 0, Iv (m.mod ^ (i + 1)), Iv Z, .ref 4 0, .row 203, Iv k, Nv i, (bp ((((i : Nat) : Int)) < k)), mapV m, intW ((iterZ m i Z)), .tup [intW ((stepZ m (iterZ m i Z))), Iv ((iterZ m i Z) % m.mod)], .tup [intW ((stepZ m (iterZ m i Z))), Iv ((iterZ m i Z) % m.mod)], intW ((stepZ m (iterZ m i Z))), Iv ((iterZ m i Z) % m.mod), .ref 201 0, Iv ((iterZ m i Z) % m.mod), intW ((stepZ m (iterZ m i Z))), .row 50, Iv ((iterZ m i Z) % m.mod), .row 202, .row 203, Iv (m.mod ^ i), .ref 2 0, Iv m.mod, Iv (m.mod ^ (i + 1))] us2)), (203, .row 3 1 (is .i64 ((wordZ m Z i) ++ ([(iterZ m i Z) % m.mod])))), (202, .row 3 1 (is .i64 ([(iterZ m i Z) % m.mod]))), (201, oZ 79 .u32 ((stepZ m (iterZ m i Z)))), (2, oM 24 m), (3, .var 40 [Nv 0, Nv 0, Sv Ev, Sv Ev, Sv Ev, Sv Ev]), (4, oZ 79 .u32 ((stepZ m (iterZ m i Z)))), (204, oM 24 m), (205, .var 81 [Fv, Zv, Fv, Zv, Fv, Zv]), (206, .var 81 [Bv (l.mul), Dv (l.mul), Bv (l.add), Dv (l.add), Bv (l.div), Dv (l.div)])]⟩) (Wk.sub ⟨rfl, rfl, rfl, rfl, rfl, rfl, rfl, rfl, rfl, rfl, rfl, trivial⟩ ⟨rfl, rfl, rfl, rfl, rfl, rfl, rfl, rfl, rfl, rfl, trivial⟩) ?_
        refine awp_regionSK 2 22 _ 84 [.ref 204 0, .ref 206 0] _ _ _ _ _ [Nv ((((wordZ m Z i) ++ ([iterZ m i Z % m.mod])).getD j 0).toNat), .ref 204 0, .ref 206 0] (linW (thenZ m l (((wordZ m Z i) ++ ([iterZ m i Z % m.mod])).getD j 0))) [(9011, (.pin [.row 203, mapV m, Iv k, .ref 2 0, .ref 3 0, Iv (m.mod ^ (i + 1)), Iv Z, .ref 4 0, .row 203, Iv k, Nv i, (bp ((((i : Nat) : Int)) < k)), mapV m, intW ((iterZ m i Z)), .tup [intW ((stepZ m (iterZ m i Z))), Iv ((iterZ m i Z) % m.mod)], .tup [intW ((stepZ m (iterZ m i Z))), Iv ((iterZ m i Z) % m.mod)], intW ((stepZ m (iterZ m i Z))), Iv ((iterZ m i Z) % m.mod), .ref 201 0, Iv ((iterZ m i Z) % m.mod), intW ((stepZ m (iterZ m i Z))), .row 50, Iv ((iterZ m i Z) % m.mod), .row 202, .row 203, Iv (m.mod ^ i), .ref 2 0, Iv m.mod, Iv (m.mod ^ (i + 1))] us2)), (203, .row 3 1 (is .i64 ((wordZ m Z i) ++ ([(iterZ m i Z) % m.mod])))), (202, .row 3 1 (is .i64 ([(iterZ m i Z) % m.mod]))), (201, oZ 79 .u32 ((stepZ m (iterZ m i Z)))), (2, oM 24 m), (3, .var 40 [Nv 0, Nv 0, Sv Ev, Sv Ev, Sv Ev, Sv Ev]), (4, oZ 79 .u32 ((stepZ m (iterZ m i Z)))), (204, oM 24 m), (205, .var 81 [Fv, Zv, Fv, Zv, Fv, Zv]), (206, .var 81 [Bv (l.mul), Dv (l.mul), Bv (l.add), Dv (l.add), Bv (l.div), Dv (l.div)])] rfl rfl f81_ ?_
        refine o_mv (.clo 84 [.ref 204 0, .ref 206 0]) rfl ?_
        refine o_mv (Nv ((((wordZ m Z i) ++ ([iterZ m i Z % m.mod])).getD j 0).toNat)) rfl ?_
        refine aops_end ⟨rfl, rfl, ?sc4, ?_⟩
        case sc4 =>
         refine scalls_of_awpB 9013 Tryz.func84 (c := _) rfl (Nat.le_of_ble_eq_true rfl) rfl rfl rfl (fun us4 => ?_)
         show awp cx 37 _ (postS cx Tryz.f84 (linW (thenZ m l (((wordZ m Z i) ++ ([iterZ m i Z % m.mod])).getD j 0))) [(9011, (.pin [.row 203, mapV m, Iv k, .ref 2 0, .ref 3 0, Iv (m.mod ^ (i + 1)), Iv Z, .ref 4 0, .row 203, Iv k, Nv i, (bp ((((i : Nat) : Int)) < k)), mapV m, intW ((iterZ m i Z)), .tup [intW ((stepZ m (iterZ m i Z))), Iv ((iterZ m i Z) % m.mod)], .tup [intW ((stepZ m (iterZ m i Z))), Iv ((iterZ m i Z) % m.mod)], intW ((stepZ m (iterZ m i Z))), Iv ((iterZ m i Z) % m.mod), .ref 201 0, Iv ((iterZ m i Z) % m.mod), intW ((stepZ m (iterZ m i Z))), .row 50, Iv ((iterZ m i Z) % m.mod), .row 202, .row 203, Iv (m.mod ^ i), .ref 2 0, Iv m.mod, Iv (m.mod ^ (i + 1))] us2)), (203, .row 3 1 (is .i64 ((wordZ m Z i) ++ ([(iterZ m i Z) % m.mod])))), (202, .row 3 1 (is .i64 ([(iterZ m i Z) % m.mod]))), (201, oZ 79 .u32 ((stepZ m (iterZ m i Z)))), (2, oM 24 m), (3, .var 40 [Nv 0, Nv 0, Sv Ev, Sv Ev, Sv Ev, Sv Ev]), (4, oZ 79 .u32 ((stepZ m (iterZ m i Z)))), (204, oM 24 m), (205, .var 81 [Fv, Zv, Fv, Zv, Fv, Zv]), (206, .var 81 [Bv (l.mul), Dv (l.mul), Bv (l.add), Dv (l.add), Bv (l.div), Dv (l.div)])] 9013 [Nv ((((wordZ m Z i) ++ ([iterZ m i Z % m.mod])).getD j 0).toNat), .clo 84 [.ref 204 0, .ref 206 0], .ref 204 0, .ref 205 0, .ref 206 0, .clo 84 [.ref 204 0, .ref 206 0], .row 203, Nv (((wordZ m Z i) ++ ([(iterZ m i Z) % m.mod])).length), Nv j, bp (j < (((wordZ m Z i) ++ ([(iterZ m i Z) % m.mod])).length)), .ref 203 j, Nv ((((wordZ m Z i) ++ ([iterZ m i Z % m.mod])).getD j 0).toNat), Nv ((((wordZ m Z i) ++ ([iterZ m i Z % m.mod])).getD j 0).toNat)] us4) ⟨[(0, Nv ((((wordZ m Z i) ++ ([iterZ m i Z % m.mod])).getD j 0).toNat)), (1, .ref 204 0), (2, .ref 206 0)], [(9013, .pin [Nv ((((wordZ m Z i) ++ ([iterZ m i Z % m.mod])).getD j 0).toNat), .clo 84 [.ref 204 0, .ref 206 0], .ref 204 0, .ref 205 0, .ref 206 0, .clo 84 [.ref 204 0, .ref 206 0], .row 203, Nv (((wordZ m Z i) ++ ([(iterZ m i Z) % m.mod])).length), Nv j, bp (j < (((wordZ m Z i) ++ ([(iterZ m i Z) % m.mod])).length)), .ref 203 j, Nv ((((wordZ m Z i) ++ ([iterZ m i Z % m.mod])).getD j 0).toNat), Nv ((((wordZ m Z i) ++ ([iterZ m i Z % m.mod])).getD j 0).toNat)] us4), (9011, (.pin [.row 203, mapV m, Iv k, .ref 2 0, .ref 3 0, Iv (m.mod ^ (i + 1)), Iv Z, .ref 4 0, .row 203, Iv k, Nv i, (bp ((((i : Nat) : Int)) < k)), mapV m, intW ((iterZ m i Z)), .tup [intW ((stepZ m (iterZ m i Z))), Iv ((iterZ m i Z) % m.mod)], .tup [intW ((stepZ m (iterZ m i Z))), Iv ((iterZ m i Z) % m.mod)], intW ((stepZ m (iterZ m i Z))), Iv ((iterZ m i Z) % m.mod), .ref 201 0, Iv ((iterZ m i Z) % m.mod), intW ((stepZ m (iterZ m i Z))), .row 50, Iv ((iterZ m i Z) % m.mod), .row 202, .row 203, Iv (m.mod ^ i), .ref 2 0, Iv m.mod, Iv (m.mod ^ (i + 1))] us2)), (203, .row 3 1 (is .i64 ((wordZ m Z i) ++ ([(iterZ m i Z) % m.mod])))), (202, .row 3 1 (is .i64 ([(iterZ m i Z) % m.mod]))), (201, oZ 79 .u32 ((stepZ m (iterZ m i Z)))), (2, oM 24 m), (3, .var 40 [Nv 0, Nv 0, Sv Ev, Sv Ev, Sv Ev, Sv Ev]), (4, oZ 79 .u32 ((stepZ m (iterZ m i Z)))), (204, oM 24 m), (205, .var 81 [Fv, Zv, Fv, Zv, Fv, Zv]), (206, .var 81 [Bv (l.mul), Dv (l.mul), Bv (l.add), Dv (l.add), Bv (l.div), Dv (l.div)])]⟩
         have hwj := isW_get (show IsW m ((wordZ m Z i) ++ ([iterZ m i Z % m.mod])) from hW1) (show j < ((wordZ m Z i) ++ ([iterZ m i Z % m.mod])).length by assumption)
         have hor := o5 ((((wordZ m Z i) ++ ([iterZ m i Z % m.mod])).getD j 0).toNat) (by omega)
         obtain ⟨J1, J2, J3⟩ := line_len hM (((wordZ m Z i) ++ ([iterZ m i Z % m.mod])).take j) (isW_take (show IsW m ((wordZ m Z i) ++ ([iterZ m i Z % m.mod])) from hW1) j)
         have J4 : (((wordZ m Z i) ++ ([iterZ m i Z % m.mod])).take j).length ≤ 200 := by rw [List.length_take]; omega
         rw [← hl2] at J1 J2 J3
         have hq1 := small_len (z := ((m.mul).getD ((((wordZ m Z i) ++ ([iterZ m i Z % m.mod])).getD j 0).toNat) 0)) (by omega)
         have ha1 := small_len (z := ((m.add).getD ((((wordZ m Z i) ++ ([iterZ m i Z % m.mod])).getD j 0).toNat) 0)) (by omega)
         have hd1 := small_len (z := m.mod) (by omega)
         have hm1 := len_mulZ l.mul ((m.mul).getD ((((wordZ m Z i) ++ ([iterZ m i Z % m.mod])).getD j 0).toNat) 0)
         have hm2 := len_mulZ l.add ((m.mul).getD ((((wordZ m Z i) ++ ([iterZ m i Z % m.mod])).getD j 0).toNat) 0)
         have hm3 := len_mulZ l.div ((m.add).getD ((((wordZ m Z i) ++ ([iterZ m i Z % m.mod])).getD j 0).toNat) 0)
         refine awp_seq fun K38 hK38 => ?_
         refine awp_region rfl ?_
         refine o_alloc 401 [Fv, Zv, Fv, Zv, Fv, Zv] Gd.none f78_ rfl rfl rfl ?_
         refine aops_end ?_
         refine hK38 _ ?_
         refine awp_seq fun K39 hK39 => ?_
         refine awp_region rfl ?_
         refine o_fieldRef 1 Gd.none f61_ rfl rfl ?_
         refine o_loadS (Lv m.mul) Gd.none f1_ rfl rfl rfl ?_
         refine o_mv (Nv ((((wordZ m Z i) ++ ([iterZ m i Z % m.mod])).getD j 0).toNat)) rfl ?_
         refine i_index m.mul ((((wordZ m Z i) ++ ([iterZ m i Z % m.mod])).getD j 0).toNat) Gd.none f10_ rfl rfl (by omega) ?_
         refine i_loadI m.mul ((((wordZ m Z i) ++ ([iterZ m i Z % m.mod])).getD j 0).toNat) Gd.none f11_ rfl (by omega) ?_
         refine o_ct (c_wOf ((m.mul).getD ((((wordZ m Z i) ++ ([iterZ m i Z % m.mod])).getD j 0).toNat) 0) (by first | decide | omega) (by first | decide | omega)) Gd.none f46_ rfl ?_
         refine o_alloc 402 [Fv, Zv] Gd.none f15_ rfl rfl rfl ?_
         refine o_store [(402, oZ 79 .u32 ((m.mul).getD ((((wordZ m Z i) ++ ([iterZ m i Z % m.mod])).getD j 0).toNat) 0)), (401, .var 81 [Fv, Zv, Fv, Zv, Fv, Zv]), (9013, .pin [Nv ((((wordZ m Z i) ++ ([iterZ m i Z % m.mod])).getD j 0).toNat), .clo 84 [.ref 204 0, .ref 206 0], .ref 204 0, .ref 205 0, .ref 206 0, .clo 84 [.ref 204 0, .ref 206 0], .row 203, Nv (((wordZ m Z i) ++ ([(iterZ m i Z) % m.mod])).length), Nv j, bp (j < (((wordZ m Z i) ++ ([(iterZ m i Z) % m.mod])).length)), .ref 203 j, Nv ((((wordZ m Z i) ++ ([iterZ m i Z % m.mod])).getD j 0).toNat), Nv ((((wordZ m Z i) ++ ([iterZ m i Z % m.mod])).getD j 0).toNat)] us4), (9011, (.pin [.row 203, mapV m, Iv k, .ref 2 0, .ref 3 0, Iv (m.mod ^ (i + 1)), Iv Z, .ref 4 0, .row 203, Iv k, Nv i, (bp ((((i : Nat) : Int)) < k)), mapV m, intW ((iterZ m i Z)), .tup [intW ((stepZ m (iterZ m i Z))), Iv ((iterZ m i Z) % m.mod)], .tup [intW ((stepZ m (iterZ m i Z))), Iv ((iterZ m i Z) % m.mod)], intW ((stepZ m (iterZ m i Z))), Iv ((iterZ m i Z) % m.mod), .ref 201 0, Iv ((iterZ m i Z) % m.mod), intW ((stepZ m (iterZ m i Z))), .row 50, Iv ((iterZ m i Z) % m.mod), .row 202, .row 203, Iv (m.mod ^ i), .ref 2 0, Iv m.mod, Iv (m.mod ^ (i + 1))] us2)), (203, .row 3 1 (is .i64 ((wordZ m Z i) ++ ([(iterZ m i Z) % m.mod])))), (202, .row 3 1 (is .i64 ([(iterZ m i Z) % m.mod]))), (201, oZ 79 .u32 ((stepZ m (iterZ m i Z)))), (2, oM 24 m), (3, .var 40 [Nv 0, Nv 0, Sv Ev, Sv Ev, Sv Ev, Sv Ev]), (4, oZ 79 .u32 ((stepZ m (iterZ m i Z)))), (204, oM 24 m), (205, .var 81 [Fv, Zv, Fv, Zv, Fv, Zv]), (206, .var 81 [Bv (l.mul), Dv (l.mul), Bv (l.add), Dv (l.add), Bv (l.div), Dv (l.div)])] Gd.none f19_ rfl rfl rfl rfl rfl rfl ?_
         refine aops_end ?_
         refine hK39 _ ?_
         refine awp_seq fun K40 hK40 => ?_
         refine awp_regionD rfl ?_
         refine o_fieldRef 0 Gd.none f82_ rfl rfl ?_
         refine o_loadA [Bv (l.mul), Dv (l.mul)] Gd.none f20_ rfl rfl rfl rfl rfl ?_
         refine o_loadA [bp ((m.mul).getD ((((wordZ m Z i) ++ ([iterZ m i Z % m.mod])).getD j 0).toNat) 0 < 0), .sl 1 (ns .u32 (digs ((m.mul).getD ((((wordZ m Z i) ++ ([iterZ m i Z % m.mod])).getD j 0).toNat) 0).natAbs))] Gd.none f20_ rfl rfl rfl rfl rfl ?_
         refine o_ct (c_wMul ((l.mul)) ((m.mul).getD ((((wordZ m Z i) ++ ([iterZ m i Z % m.mod])).getD j 0).toNat) 0) (by first | omega | assumption | (simp only [Int.natAbs_neg]; omega)) (by first | omega | assumption | (simp only [Int.natAbs_neg]; omega))) Gd.none f68_ rfl ?_
         refine o_fieldRef 2 Gd.none f83_ rfl rfl ?_
         refine o_loadA [Bv (l.add), Dv (l.add)] Gd.none f20_ rfl rfl rfl rfl rfl ?_
         refine o_loadA [bp ((m.mul).getD ((((wordZ m Z i) ++ ([iterZ m i Z % m.mod])).getD j 0).toNat) 0 < 0), .sl 1 (ns .u32 (digs ((m.mul).getD ((((wordZ m Z i) ++ ([iterZ m i Z % m.mod])).getD j 0).toNat) 0).natAbs))] Gd.none f20_ rfl rfl rfl rfl rfl ?_
         refine o_ct (c_wMul ((l.add)) ((m.mul).getD ((((wordZ m Z i) ++ ([iterZ m i Z % m.mod])).getD j 0).toNat) 0) (by first | omega | assumption | (simp only [Int.natAbs_neg]; omega)) (by first | omega | assumption | (simp only [Int.natAbs_neg]; omega))) Gd.none f68_ rfl ?_
         refine o_fieldRef 4 Gd.none f84_ rfl rfl ?_
         refine o_loadA [Bv (l.div), Dv (l.div)] Gd.none f20_ rfl rfl rfl rfl rfl ?_
         refine o_fieldRef 2 Gd.none f62_ rfl rfl ?_
         refine o_loadS (Lv m.add) Gd.none f1_ rfl rfl rfl ?_
         refine o_mv (Nv ((((wordZ m Z i) ++ ([iterZ m i Z % m.mod])).getD j 0).toNat)) rfl ?_
         refine i_index m.add ((((wordZ m Z i) ++ ([iterZ m i Z % m.mod])).getD j 0).toNat) Gd.none f10_ rfl rfl (by omega) ?_
         refine i_loadI m.add ((((wordZ m Z i) ++ ([iterZ m i Z % m.mod])).getD j 0).toNat) Gd.none f11_ rfl (by omega) ?_
         refine o_ct (c_wOf ((m.add).getD ((((wordZ m Z i) ++ ([iterZ m i Z % m.mod])).getD j 0).toNat) 0) (by first | decide | omega) (by first | decide | omega)) Gd.none f46_ rfl ?_
         refine o_ct (c_wMul ((l.div)) ((m.add).getD ((((wordZ m Z i) ++ ([iterZ m i Z % m.mod])).getD j 0).toNat) 0) (by first | omega | assumption | (simp only [Int.natAbs_neg]; omega)) (by first | omega | assumption | (simp only [Int.natAbs_neg]; omega))) Gd.none f68_ rfl ?_
         refine o_ct (c_wAdd (((l.add) * (m.mul).getD ((((wordZ m Z i) ++ ([iterZ m i Z % m.mod])).getD j 0).toNat) 0)) (((l.div) * (m.add).getD ((((wordZ m Z i) ++ ([iterZ m i Z % m.mod])).getD j 0).toNat) 0)) (by first | omega | assumption | (simp only [Int.natAbs_neg]; omega)) (by first | omega | assumption | (simp only [Int.natAbs_neg]; omega))) Gd.none f38_ rfl ?_
         refine o_fieldRef 4 Gd.none f84_ rfl rfl ?_
         refine o_loadA [Bv (l.div), Dv (l.div)] Gd.none f20_ rfl rfl rfl rfl rfl ?_
         refine o_fieldRef 0 Gd.none f60_ rfl rfl ?_
         refine o_loadS (Iv m.mod) Gd.none f11_ rfl rfl rfl ?_
         refine o_ct (c_wOf m.mod (by first | decide | omega) (by first | decide | omega)) Gd.none f46_ rfl ?_
         refine o_ct (c_wMul ((l.div)) m.mod (by first | omega | assumption | (simp only [Int.natAbs_neg]; omega)) (by first | omega | assumption | (simp only [Int.natAbs_neg]; omega))) Gd.none f68_ rfl ?_
         refine o_build [bp (((l.mul) * (m.mul).getD ((((wordZ m Z i) ++ ([iterZ m i Z % m.mod])).getD j 0).toNat) 0) < 0), .sl 1 (ns .u32 (digs (((l.mul) * (m.mul).getD ((((wordZ m Z i) ++ ([iterZ m i Z % m.mod])).getD j 0).toNat) 0)).natAbs)), bp ((((l.add) * (m.mul).getD ((((wordZ m Z i) ++ ([iterZ m i Z % m.mod])).getD j 0).toNat) 0) + ((l.div) * (m.add).getD ((((wordZ m Z i) ++ ([iterZ m i Z % m.mod])).getD j 0).toNat) 0)) < 0), .sl 1 (ns .u32 (digs ((((l.add) * (m.mul).getD ((((wordZ m Z i) ++ ([iterZ m i Z % m.mod])).getD j 0).toNat) 0) + ((l.div) * (m.add).getD ((((wordZ m Z i) ++ ([iterZ m i Z % m.mod])).getD j 0).toNat) 0))).natAbs)), bp (((l.div) * m.mod) < 0), .sl 1 (ns .u32 (digs (((l.div) * m.mod)).natAbs))] [(0, [bp (((l.mul) * (m.mul).getD ((((wordZ m Z i) ++ ([iterZ m i Z % m.mod])).getD j 0).toNat) 0) < 0), .sl 1 (ns .u32 (digs (((l.mul) * (m.mul).getD ((((wordZ m Z i) ++ ([iterZ m i Z % m.mod])).getD j 0).toNat) 0)).natAbs))]), (1, [bp ((((l.add) * (m.mul).getD ((((wordZ m Z i) ++ ([iterZ m i Z % m.mod])).getD j 0).toNat) 0) + ((l.div) * (m.add).getD ((((wordZ m Z i) ++ ([iterZ m i Z % m.mod])).getD j 0).toNat) 0)) < 0), .sl 1 (ns .u32 (digs ((((l.add) * (m.mul).getD ((((wordZ m Z i) ++ ([iterZ m i Z % m.mod])).getD j 0).toNat) 0) + ((l.div) * (m.add).getD ((((wordZ m Z i) ++ ([iterZ m i Z % m.mod])).getD j 0).toNat) 0))).natAbs))]), (2, [bp (((l.div) * m.mod) < 0), .sl 1 (ns .u32 (digs (((l.div) * m.mod)).natAbs))])] Gd.none f79_ f78_ rfl rfl rfl ?_
         refine o_store [(402, oZ 79 .u32 ((m.mul).getD ((((wordZ m Z i) ++ ([iterZ m i Z % m.mod])).getD j 0).toNat) 0)), (401, .var 81 [bp (((l.mul) * (m.mul).getD ((((wordZ m Z i) ++ ([iterZ m i Z % m.mod])).getD j 0).toNat) 0) < 0), .sl 1 (ns .u32 (digs (((l.mul) * (m.mul).getD ((((wordZ m Z i) ++ ([iterZ m i Z % m.mod])).getD j 0).toNat) 0)).natAbs)), bp ((((l.add) * (m.mul).getD ((((wordZ m Z i) ++ ([iterZ m i Z % m.mod])).getD j 0).toNat) 0) + ((l.div) * (m.add).getD ((((wordZ m Z i) ++ ([iterZ m i Z % m.mod])).getD j 0).toNat) 0)) < 0), .sl 1 (ns .u32 (digs ((((l.add) * (m.mul).getD ((((wordZ m Z i) ++ ([iterZ m i Z % m.mod])).getD j 0).toNat) 0) + ((l.div) * (m.add).getD ((((wordZ m Z i) ++ ([iterZ m i Z % m.mod])).getD j 0).toNat) 0))).natAbs)), bp (((l.div) * m.mod) < 0), .sl 1 (ns .u32 (digs (((l.div) * m.mod)).natAbs))]), (9013, .pin [Nv ((((wordZ m Z i) ++ ([iterZ m i Z % m.mod])).getD j 0).toNat), .clo 84 [.ref 204 0, .ref 206 0], .ref 204 0, .ref 205 0, .ref 206 0, .clo 84 [.ref 204 0, .ref 206 0], .row 203, Nv (((wordZ m Z i) ++ ([(iterZ m i Z) % m.mod])).length), Nv j, bp (j < (((wordZ m Z i) ++ ([(iterZ m i Z) % m.mod])).length)), .ref 203 j, Nv ((((wordZ m Z i) ++ ([iterZ m i Z % m.mod])).getD j 0).toNat), Nv ((((wordZ m Z i) ++ ([iterZ m i Z % m.mod])).getD j 0).toNat)] us4), (9011, (.pin [.row 203, mapV m, Iv k, .ref 2 0, .ref 3 0, Iv (m.mod ^ (i + 1)), Iv Z, .ref 4 0, .row 203, Iv k, Nv i, (bp ((((i : Nat) : Int)) < k)), mapV m, intW ((iterZ m i Z)), .tup [intW ((stepZ m (iterZ m i Z))), Iv ((iterZ m i Z) % m.mod)], .tup [intW ((stepZ m (iterZ m i Z))), Iv ((iterZ m i Z) % m.mod)], intW ((stepZ m (iterZ m i Z))), Iv ((iterZ m i Z) % m.mod), .ref 201 0, Iv ((iterZ m i Z) % m.mod), intW ((stepZ m (iterZ m i Z))), .row 50, Iv ((iterZ m i Z) % m.mod), .row 202, .row 203, Iv (m.mod ^ i), .ref 2 0, Iv m.mod, Iv (m.mod ^ (i + 1))] us2)), (203, .row 3 1 (is .i64 ((wordZ m Z i) ++ ([(iterZ m i Z) % m.mod])))), (202, .row 3 1 (is .i64 ([(iterZ m i Z) % m.mod]))), (201, oZ 79 .u32 ((stepZ m (iterZ m i Z)))), (2, oM 24 m), (3, .var 40 [Nv 0, Nv 0, Sv Ev, Sv Ev, Sv Ev, Sv Ev]), (4, oZ 79 .u32 ((stepZ m (iterZ m i Z)))), (204, oM 24 m), (205, .var 81 [Fv, Zv, Fv, Zv, Fv, Zv]), (206, .var 81 [Bv (l.mul), Dv (l.mul), Bv (l.add), Dv (l.add), Bv (l.div), Dv (l.div)])] Gd.none f80_ rfl rfl rfl rfl rfl rfl ?_
         refine aops_end ⟨by kernel_rfl, ?_⟩
         refine hK40 _ ?_
         refine awp_wk (σ' := ⟨[(4, .ref 401 0)], [(9013, .pin [Nv ((((wordZ m Z i) ++ ([iterZ m i Z % m.mod])).getD j 0).toNat), .clo 84 [.ref 204 0, .ref 206 0], .ref 204 0, .ref 205 0, .ref 206 0, .clo 84 [.ref 204 0, .ref 206 0], .row 203, Nv (((wordZ m Z i) ++ ([(iterZ m i Z) % m.mod])).length), Nv j, bp (j < (((wordZ m Z i) ++ ([(iterZ m i Z) % m.mod])).length)), .ref 203 j, Nv ((((wordZ m Z i) ++ ([iterZ m i Z % m.mod])).getD j 0).toNat), Nv ((((wordZ m Z i) ++ ([iterZ m i Z % m.mod])).getD j 0).toNat)] us4), (9011, (.pin [.row 203, mapV m, Iv k, .ref 2 0, .ref 3 0, Iv (m.mod ^ (i + 1)), Iv Z, .ref 4 0, .row 203, Iv k, Nv i, (bp ((((i : Nat) : Int)) < k)), mapV m, intW ((iterZ m i Z)), .tup [intW ((stepZ m (iterZ m i Z))), Iv ((iterZ m i Z) % m.mod)], .tup [intW ((stepZ m (iterZ m i Z))), Iv ((iterZ m i Z) % m.mod)], intW ((stepZ m (iterZ m i Z))), Iv ((iterZ m i Z) % m.mod), .ref 201 0, Iv ((iterZ m i Z) % m.mod), intW ((stepZ m (iterZ m i Z))), .row 50, Iv ((iterZ m i Z) % m.mod), .row 202, .row 203, Iv (m.mod ^ i), .ref 2 0, Iv m.mod, Iv (m.mod ^ (i + 1))] us2)), (203, .row 3 1 (is .i64 ((wordZ m Z i) ++ ([(iterZ m i Z) % m.mod])))), (202, .row 3 1 (is .i64 ([(iterZ m i Z) % m.mod]))), (201, oZ 79 .u32 ((stepZ m (iterZ m i Z)))), (2, oM 24 m), (3, .var 40 [Nv 0, Nv 0, Sv Ev, Sv Ev, Sv Ev, Sv Ev]), (4, oZ 79 .u32 ((stepZ m (iterZ m i Z)))), (204, oM 24 m), (205, .var 81 [Fv, Zv, Fv, Zv, Fv, Zv]), (206, .var 81 [Bv (l.mul), Dv (l.mul), Bv (l.add), Dv (l.add), Bv (l.div), Dv (l.div)]), (401, .var 81 [bp (((l.mul) * (m.mul).getD ((((wordZ m Z i) ++ ([iterZ m i Z % m.mod])).getD j 0).toNat) 0) < 0), .sl 1 (ns .u32 (digs (((l.mul) * (m.mul).getD ((((wordZ m Z i) ++ ([iterZ m i Z % m.mod])).getD j 0).toNat) 0)).natAbs)), bp ((((l.add) * (m.mul).getD ((((wordZ m Z i) ++ ([iterZ m i Z % m.mod])).getD j 0).toNat) 0) + ((l.div) * (m.add).getD ((((wordZ m Z i) ++ ([iterZ m i Z % m.mod])).getD j 0).toNat) 0)) < 0), .sl 1 (ns .u32 (digs ((((l.add) * (m.mul).getD ((((wordZ m Z i) ++ ([iterZ m i Z % m.mod])).getD j 0).toNat) 0) + ((l.div) * (m.add).getD ((((wordZ m Z i) ++ ([iterZ m i Z % m.mod])).getD j 0).toNat) 0))).natAbs)), bp (((l.div) * m.mod) < 0), .sl 1 (ns .u32 (digs (((l.div) * m.mod)).natAbs))])]⟩) (Wk.sub ⟨rfl, trivial⟩ ⟨rfl, rfl, rfl, rfl, rfl, rfl, rfl, rfl, rfl, rfl, rfl, rfl, trivial⟩) ?_
         refine awp_ret ?_
         try dsimp only [thenK, inBlk]
         refine postS_ret (extra := [(401, .var 81 [bp (((l.mul) * (m.mul).getD ((((wordZ m Z i) ++ ([iterZ m i Z % m.mod])).getD j 0).toNat) 0) < 0), .sl 1 (ns .u32 (digs (((l.mul) * (m.mul).getD ((((wordZ m Z i) ++ ([iterZ m i Z % m.mod])).getD j 0).toNat) 0)).natAbs)), bp ((((l.add) * (m.mul).getD ((((wordZ m Z i) ++ ([iterZ m i Z % m.mod])).getD j 0).toNat) 0) + ((l.div) * (m.add).getD ((((wordZ m Z i) ++ ([iterZ m i Z % m.mod])).getD j 0).toNat) 0)) < 0), .sl 1 (ns .u32 (digs ((((l.add) * (m.mul).getD ((((wordZ m Z i) ++ ([iterZ m i Z % m.mod])).getD j 0).toNat) 0) + ((l.div) * (m.add).getD ((((wordZ m Z i) ++ ([iterZ m i Z % m.mod])).getD j 0).toNat) 0))).natAbs)), bp (((l.div) * m.mod) < 0), .sl 1 (ns .u32 (digs (((l.div) * m.mod)).natAbs))])]) ?_ rfl
         refine ⟨[.agg [bp (((l.mul) * (m.mul).getD ((((wordZ m Z i) ++ ([iterZ m i Z % m.mod])).getD j 0).toNat) 0) < 0), .sl 1 (ns .u32 (digs (((l.mul) * (m.mul).getD ((((wordZ m Z i) ++ ([iterZ m i Z % m.mod])).getD j 0).toNat) 0)).natAbs)), bp ((((l.add) * (m.mul).getD ((((wordZ m Z i) ++ ([iterZ m i Z % m.mod])).getD j 0).toNat) 0) + ((l.div) * (m.add).getD ((((wordZ m Z i) ++ ([iterZ m i Z % m.mod])).getD j 0).toNat) 0)) < 0), .sl 1 (ns .u32 (digs ((((l.add) * (m.mul).getD ((((wordZ m Z i) ++ ([iterZ m i Z % m.mod])).getD j 0).toNat) 0) + ((l.div) * (m.add).getD ((((wordZ m Z i) ++ ([iterZ m i Z % m.mod])).getD j 0).toNat) 0))).natAbs)), bp (((l.div) * m.mod) < 0), .sl 1 (ns .u32 (digs (((l.div) * m.mod)).natAbs))]], ⟨⟨401, .var 81 [bp (((l.mul) * (m.mul).getD ((((wordZ m Z i) ++ ([iterZ m i Z % m.mod])).getD j 0).toNat) 0) < 0), .sl 1 (ns .u32 (digs (((l.mul) * (m.mul).getD ((((wordZ m Z i) ++ ([iterZ m i Z % m.mod])).getD j 0).toNat) 0)).natAbs)), bp ((((l.add) * (m.mul).getD ((((wordZ m Z i) ++ ([iterZ m i Z % m.mod])).getD j 0).toNat) 0) + ((l.div) * (m.add).getD ((((wordZ m Z i) ++ ([iterZ m i Z % m.mod])).getD j 0).toNat) 0)) < 0), .sl 1 (ns .u32 (digs ((((l.add) * (m.mul).getD ((((wordZ m Z i) ++ ([iterZ m i Z % m.mod])).getD j 0).toNat) 0) + ((l.div) * (m.add).getD ((((wordZ m Z i) ++ ([iterZ m i Z % m.mod])).getD j 0).toNat) 0))).natAbs)), bp (((l.div) * m.mod) < 0), .sl 1 (ns .u32 (digs (((l.div) * m.mod)).natAbs))], rfl, rfl, rfl, Or.inl ⟨f85_, AV.le_refl _⟩⟩, trivial⟩, ?_⟩
         exact linK_eq (Int.mul_comm _ _) (congr (congrArg HAdd.hAdd (Int.mul_comm _ _)) (Int.mul_comm _ _)) rfl
        refine o_store [(9011, (.pin [.row 203, mapV m, Iv k, .ref 2 0, .ref 3 0, Iv (m.mod ^ (i + 1)), Iv Z, .ref 4 0, .row 203, Iv k, Nv i, (bp ((((i : Nat) : Int)) < k)), mapV m, intW ((iterZ m i Z)), .tup [intW ((stepZ m (iterZ m i Z))), Iv ((iterZ m i Z) % m.mod)], .tup [intW ((stepZ m (iterZ m i Z))), Iv ((iterZ m i Z) % m.mod)], intW ((stepZ m (iterZ m i Z))), Iv ((iterZ m i Z) % m.mod), .ref 201 0, Iv ((iterZ m i Z) % m.mod), intW ((stepZ m (iterZ m i Z))), .row 50, Iv ((iterZ m i Z) % m.mod), .row 202, .row 203, Iv (m.mod ^ i), .ref 2 0, Iv m.mod, Iv (m.mod ^ (i + 1))] us2)), (203, .row 3 1 (is .i64 ((wordZ m Z i) ++ ([(iterZ m i Z) % m.mod])))), (202, .row 3 1 (is .i64 ([(iterZ m i Z) % m.mod]))), (201, oZ 79 .u32 ((stepZ m (iterZ m i Z)))), (2, oM 24 m), (3, .var 40 [Nv 0, Nv 0, Sv Ev, Sv Ev, Sv Ev, Sv Ev]), (4, oZ 79 .u32 ((stepZ m (iterZ m i Z)))), (204, oM 24 m), (205, .var 81 [Fv, Zv, Fv, Zv, Fv, Zv]), (206, .var 81 [Bv ((thenZ m l (((wordZ m Z i) ++ ([iterZ m i Z % m.mod])).getD j 0)).mul), Dv ((thenZ m l (((wordZ m Z i) ++ ([iterZ m i Z % m.mod])).getD j 0)).mul), Bv ((thenZ m l (((wordZ m Z i) ++ ([iterZ m i Z % m.mod])).getD j 0)).add), Dv ((thenZ m l (((wordZ m Z i) ++ ([iterZ m i Z % m.mod])).getD j 0)).add), Bv ((thenZ m l (((wordZ m Z i) ++ ([iterZ m i Z % m.mod])).getD j 0)).div), Dv ((thenZ m l (((wordZ m Z i) ++ ([iterZ m i Z % m.mod])).getD j 0)).div)])] Gd.none f80_ rfl rfl rfl rfl rfl rfl ?_
        refine aops_end ?_
        refine hK36 _ ?_
        refine awp_region rfl ?_
        refine n_add j 1 Gd.none rfl rfl (by simp only [topOf]; omega) ?_
        refine o_mv (Nv (j + 1)) rfl ?_
        refine aops_end ?_
        refine ⟨_, _, ?lt, ⟨j + 1, thenZ m l (((wordZ m Z i) ++ ([(iterZ m i Z) % m.mod])).getD j 0), (by omega), (by rw [hl2]; exact lineZ_next (by assumption)), rfl, rfl⟩, ?wk⟩
        case lt => omega
        case wk => exact Wk.sub ⟨rfl, rfl, rfl, rfl, rfl, rfl, (by first | rfl | exact nm_int (by omega)), trivial⟩ ⟨rfl, rfl, rfl, rfl, rfl, rfl, rfl, rfl, rfl, rfl, trivial⟩
       ·refine awp_exit ?_
        refine hK32 _ ?_
        refine awp_seq fun K41 hK41 => ?_
        refine awp_region rfl ?_
        refine o_loadA [Bv (l.mul), Dv (l.mul), Bv (l.add), Dv (l.add), Bv (l.div), Dv (l.div)] Gd.none f85_ rfl rfl rfl rfl rfl ?_
        refine o_store [(9011, (.pin [.row 203, mapV m, Iv k, .ref 2 0, .ref 3 0, Iv (m.mod ^ (i + 1)), Iv Z, .ref 4 0, .row 203, Iv k, Nv i, (bp ((((i : Nat) : Int)) < k)), mapV m, intW ((iterZ m i Z)), .tup [intW ((stepZ m (iterZ m i Z))), Iv ((iterZ m i Z) % m.mod)], .tup [intW ((stepZ m (iterZ m i Z))), Iv ((iterZ m i Z) % m.mod)], intW ((stepZ m (iterZ m i Z))), Iv ((iterZ m i Z) % m.mod), .ref 201 0, Iv ((iterZ m i Z) % m.mod), intW ((stepZ m (iterZ m i Z))), .row 50, Iv ((iterZ m i Z) % m.mod), .row 202, .row 203, Iv (m.mod ^ i), .ref 2 0, Iv m.mod, Iv (m.mod ^ (i + 1))] us2)), (203, .row 3 1 (is .i64 ((wordZ m Z i) ++ ([(iterZ m i Z) % m.mod])))), (202, .row 3 1 (is .i64 ([(iterZ m i Z) % m.mod]))), (201, oZ 79 .u32 ((stepZ m (iterZ m i Z)))), (2, oM 24 m), (3, .var 40 [Nv 0, Nv 0, Sv Ev, Sv Ev, Sv Ev, Sv Ev]), (4, oZ 79 .u32 ((stepZ m (iterZ m i Z)))), (204, oM 24 m), (205, .var 81 [Bv (l.mul), Dv (l.mul), Bv (l.add), Dv (l.add), Bv (l.div), Dv (l.div)]), (206, .var 81 [Bv (l.mul), Dv (l.mul), Bv (l.add), Dv (l.add), Bv (l.div), Dv (l.div)])] Gd.none f80_ rfl rfl rfl rfl rfl rfl ?_
        refine aops_end ?_
        refine hK41 _ ?_
        refine awp_wk (σ' := ⟨[(4, .ref 205 0)], [(9011, (.pin [.row 203, mapV m, Iv k, .ref 2 0, .ref 3 0, Iv (m.mod ^ (i + 1)), Iv Z, .ref 4 0, .row 203, Iv k, Nv i, (bp ((((i : Nat) : Int)) < k)), mapV m, intW ((iterZ m i Z)), .tup [intW ((stepZ m (iterZ m i Z))), Iv ((iterZ m i Z) % m.mod)], .tup [intW ((stepZ m (iterZ m i Z))), Iv ((iterZ m i Z) % m.mod)], intW ((stepZ m (iterZ m i Z))), Iv ((iterZ m i Z) % m.mod), .ref 201 0, Iv ((iterZ m i Z) % m.mod), intW ((stepZ m (iterZ m i Z))), .row 50, Iv ((iterZ m i Z) % m.mod), .row 202, .row 203, Iv (m.mod ^ i), .ref 2 0, Iv m.mod, Iv (m.mod ^ (i + 1))] us2)), (203, .row 3 1 (is .i64 ((wordZ m Z i) ++ ([(iterZ m i Z) % m.mod])))), (202, .row 3 1 (is .i64 ([(iterZ m i Z) % m.mod]))), (201, oZ 79 .u32 ((stepZ m (iterZ m i Z)))), (2, oM 24 m), (3, .var 40 [Nv 0, Nv 0, Sv Ev, Sv Ev, Sv Ev, Sv Ev]), (4, oZ 79 .u32 ((stepZ m (iterZ m i Z)))), (205, .var 81 [Bv (l.mul), Dv (l.mul), Bv (l.add), Dv (l.add), Bv (l.div), Dv (l.div)])]⟩) (Wk.sub ⟨rfl, trivial⟩ ⟨rfl, rfl, rfl, rfl, rfl, rfl, rfl, rfl, trivial⟩) ?_
        refine awp_ret ?_
        try dsimp only [thenK, inBlk]
        refine postS_ret (extra := [(205, .var 81 [Bv (l.mul), Dv (l.mul), Bv (l.add), Dv (l.add), Bv (l.div), Dv (l.div)])]) ?_ rfl
        refine ⟨[.agg [Bv (l.mul), Dv (l.mul), Bv (l.add), Dv (l.add), Bv (l.div), Dv (l.div)]], ⟨⟨205, .var 81 [Bv (l.mul), Dv (l.mul), Bv (l.add), Dv (l.add), Bv (l.div), Dv (l.div)], rfl, rfl, rfl, Or.inl ⟨f85_, AV.le_refl _⟩⟩, trivial⟩, ?_⟩
        have e9 : j = ((wordZ m Z i) ++ ([iterZ m i Z % m.mod])).length := (by omega); exact congrArg linW (by rw [hl2, e9, List.take_length]; rfl)
      refine o_alloc 204 [Fv, Zv, Fv, Zv, Fv, Zv] Gd.none f78_ rfl rfl rfl ?_
      refine o_store [(204, .var 81 [Bv ((lineZ m (wordZ m Z (i + 1))).mul), Dv ((lineZ m (wordZ m Z (i + 1))).mul), Bv ((lineZ m (wordZ m Z (i + 1))).add), Dv ((lineZ m (wordZ m Z (i + 1))).add), Bv ((lineZ m (wordZ m Z (i + 1))).div), Dv ((lineZ m (wordZ m Z (i + 1))).div)]), (203, .row 3 1 (is .i64 ((wordZ m Z i) ++ ([(iterZ m i Z) % m.mod])))), (202, .row 3 1 (is .i64 ([(iterZ m i Z) % m.mod]))), (201, oZ 79 .u32 ((stepZ m (iterZ m i Z)))), (2, oM 24 m), (3, .var 40 [Nv 0, Nv 0, Sv Ev, Sv Ev, Sv Ev, Sv Ev]), (4, oZ 79 .u32 ((stepZ m (iterZ m i Z))))] Gd.none f80_ rfl rfl rfl rfl rfl rfl ?_
      refine aops_end ?_
      refine hK28 _ ?_
      refine awp_seq fun K42 hK42 => ?_
      refine awp_region rfl ?_
      refine o_fieldRef 0 Gd.none f82_ rfl rfl ?_
      refine o_loadA [Bv ((lineZ m (wordZ m Z (i + 1))).mul), Dv ((lineZ m (wordZ m Z (i + 1))).mul)] Gd.none f20_ rfl rfl rfl rfl rfl ?_
      refine o_fieldRef 4 Gd.none f84_ rfl rfl ?_
      refine o_loadA [Bv ((lineZ m (wordZ m Z (i + 1))).div), Dv ((lineZ m (wordZ m Z (i + 1))).div)] Gd.none f20_ rfl rfl rfl rfl rfl ?_
      refine o_ct (c_wCmp (((lineZ m (wordZ m Z (i + 1))).mul)) (((lineZ m (wordZ m Z (i + 1))).div))) Gd.none f119_ rfl ?_
      refine o_lss (a := (cmpZ (((lineZ m (wordZ m Z (i + 1))).mul)) (((lineZ m (wordZ m Z (i + 1))).div)))) (c := (((0 : Nat) : Int))) Gd.none rfl rfl ?_
      refine aops_end ?_
      refine hK42 _ ?_
      refine awp_condQ (q := (cmpZ (((lineZ m (wordZ m Z (i + 1))).mul)) (((lineZ m (wordZ m Z (i + 1))).div))) < (((0 : Nat) : Int))) rfl (fun h7 => ?_) (fun h7 => ?_)
      ·refine awp_seq fun K43 hK43 => ?_
       have hfw : fallsW m (wordZ m Z (i + 1)) := lcmp.1 (by assumption)
       have hdm : 0 < (lineZ m (wordZ m Z (i + 1))).div - (lineZ m (wordZ m Z (i + 1))).mul := by unfold fallsW at hfw; omega
       have hfy := fnd_yes h0 hfw (k := k.toNat) (by omega)
       refine awp_regionD rfl ?_
       refine o_mv (.row 203) rfl ?_
       refine o_lenRow (((wordZ m Z i) ++ ([(iterZ m i Z) % m.mod])).length) Gd.none f2_ rfl rfl (by simp [is]) ?_
       refine n_as (v' := (Nv (i + 1))) (by exact congrArg (nm _) (by rw [List.length_append, wordZ_len]; rfl)) ?_
       refine o_mv (Iv Z) rfl ?_
       refine o_mv (Iv (m.mod ^ (i + 1))) rfl ?_
       refine o_remT (a := Z) (c := (m.mod ^ (i + 1))) Gd.none rfl rfl (by omega) ?_
       refine n_as (v' := (Iv (Z % m.mod ^ (i + 1)))) (by exact congrArg (fun z => AV.lit (.int .i64 z)) (Int.tmod_eq_emod_of_nonneg hZ0)) ?_
       refine o_loadA [Bv ((lineZ m (wordZ m Z (i + 1))).mul), Dv ((lineZ m (wordZ m Z (i + 1))).mul), Bv ((lineZ m (wordZ m Z (i + 1))).add), Dv ((lineZ m (wordZ m Z (i + 1))).add), Bv ((lineZ m (wordZ m Z (i + 1))).div), Dv ((lineZ m (wordZ m Z (i + 1))).div)] Gd.none f85_ rfl rfl rfl rfl rfl ?_
       refine o_ct (c_sfall (((i + 1 : Nat) : Int)) (Z % m.mod ^ (i + 1)) (lineZ m (wordZ m Z (i + 1))) (by first | omega | assumption) (by first | omega | assumption) (by first | omega | assumption) (by omega)) Gd.none f121_ rfl ?_
       refine o_store [(204, .var 81 [Bv ((lineZ m (wordZ m Z (i + 1))).mul), Dv ((lineZ m (wordZ m Z (i + 1))).mul), Bv ((lineZ m (wordZ m Z (i + 1))).add), Dv ((lineZ m (wordZ m Z (i + 1))).add), Bv ((lineZ m (wordZ m Z (i + 1))).div), Dv ((lineZ m (wordZ m Z (i + 1))).div)]), (203, .row 3 1 (is .i64 ((wordZ m Z i) ++ ([(iterZ m i Z) % m.mod])))), (202, .row 3 1 (is .i64 ([(iterZ m i Z) % m.mod]))), (201, oZ 79 .u32 ((stepZ m (iterZ m i Z)))), (2, oM 24 m), (3, (.var 40 [(Iv ((falO (((i + 1 : Nat) : Int)) (Z % m.mod ^ (i + 1)) (lineZ m (wordZ m Z (i + 1)))).steps)), (Iv ((falO (((i + 1 : Nat) : Int)) (Z % m.mod ^ (i + 1)) (lineZ m (wordZ m Z (i + 1)))).rest)), (Sv ((falO (((i + 1 : Nat) : Int)) (Z % m.mod ^ (i + 1)) (lineZ m (wordZ m Z (i + 1)))).lmul)), (Sv ((falO (((i + 1 : Nat) : Int)) (Z % m.mod ^ (i + 1)) (lineZ m (wordZ m Z (i + 1)))).ladd)), (Sv ((falO (((i + 1 : Nat) : Int)) (Z % m.mod ^ (i + 1)) (lineZ m (wordZ m Z (i + 1)))).ldiv)), (Sv ((falO (((i + 1 : Nat) : Int)) (Z % m.mod ^ (i + 1)) (lineZ m (wordZ m Z (i + 1)))).bound))])), (4, oZ 79 .u32 ((stepZ m (iterZ m i Z))))] Gd.none f97_ rfl rfl rfl rfl rfl rfl ?_
       refine o_as Tv rfl ?_
       refine o_as (Nv 0) rfl ?_
       refine aops_end ⟨by kernel_rfl, ?_⟩
       refine hK43 _ ?_
       refine awp_ret ?_
       refine post_ret ⟨[(.agg [(Iv ((falO (((i + 1 : Nat) : Int)) (Z % m.mod ^ (i + 1)) (lineZ m (wordZ m Z (i + 1)))).steps)), (Iv ((falO (((i + 1 : Nat) : Int)) (Z % m.mod ^ (i + 1)) (lineZ m (wordZ m Z (i + 1)))).rest)), (Sv ((falO (((i + 1 : Nat) : Int)) (Z % m.mod ^ (i + 1)) (lineZ m (wordZ m Z (i + 1)))).lmul)), (Sv ((falO (((i + 1 : Nat) : Int)) (Z % m.mod ^ (i + 1)) (lineZ m (wordZ m Z (i + 1)))).ladd)), (Sv ((falO (((i + 1 : Nat) : Int)) (Z % m.mod ^ (i + 1)) (lineZ m (wordZ m Z (i + 1)))).ldiv)), (Sv ((falO (((i + 1 : Nat) : Int)) (Z % m.mod ^ (i + 1)) (lineZ m (wordZ m Z (i + 1)))).bound))]), Tv, Nv 0], ⟨⟨3, (.var 40 [(Iv ((falO (((i + 1 : Nat) : Int)) (Z % m.mod ^ (i + 1)) (lineZ m (wordZ m Z (i + 1)))).steps)), (Iv ((falO (((i + 1 : Nat) : Int)) (Z % m.mod ^ (i + 1)) (lineZ m (wordZ m Z (i + 1)))).rest)), (Sv ((falO (((i + 1 : Nat) : Int)) (Z % m.mod ^ (i + 1)) (lineZ m (wordZ m Z (i + 1)))).lmul)), (Sv ((falO (((i + 1 : Nat) : Int)) (Z % m.mod ^ (i + 1)) (lineZ m (wordZ m Z (i + 1)))).ladd)), (Sv ((falO (((i + 1 : Nat) : Int)) (Z % m.mod ^ (i + 1)) (lineZ m (wordZ m Z (i + 1)))).ldiv)), (Sv ((falO (((i + 1 : Nat) : Int)) (Z % m.mod ^ (i + 1)) (lineZ m (wordZ m Z (i + 1)))).bound))]), rfl, rfl, rfl, Or.inl ⟨f98_, AV.le_refl _⟩⟩, AV.le_refl _, AV.le_refl _, trivial⟩, rfl, ?_⟩
       first | (have e := fd_1 (m := m) (a := a) (k := k) (fun q => hm' q.1); rw [e.1, e.2.1, bpn e.2.2]; rfl) | (have e := fd_1 (m := m) (a := a) (k := k) (fun q => ha' q.2); rw [e.1, e.2.1, bpn e.2.2]; rfl) | (have e := fd_2 (m := m) (a := a) (k := k) ⟨hm', ha'⟩ h3; rw [e.1, e.2.1, bpn e.2.2]; rfl) | (have e := fd_0 (m := m) (a := a) (k := k) ⟨hm', ha'⟩ hy; rw [e.1, e.2.1, ← hfm.1, hfy.1, bpy (e.2.2.2 (hfm.2.1 hfy.2))]; rfl) | (have e := fd_0 (m := m) (a := a) (k := k) ⟨hm', ha'⟩ hy; have e2 := fnd_no (m := m) (z := Z) (k := k.toNat) (by rw [show k.toNat = i by omega]; exact h0); rw [e.1, e.2.1, ← hfm.1, e2.1, bpn (fun q => e2.2 (hfm.2.2 (e.2.2.1 q)))]; rfl)
      ·refine awp_skip ?_
       refine hK23 _ ?_
       refine awp_region rfl ?_
       refine n_add i 1 Gd.none rfl rfl (by simp only [topOf]; omega) ?_
       refine o_mv (Nv (i + 1)) rfl ?_
       refine aops_end ?_
       refine ⟨_, _, ?lt, ⟨i + 1, (by omega), (ffal_next h0 (fun e => absurd (lcmp.2 e) (by assumption))), (show (digs (stepZ m (iterZ m i Z)).natAbs).length ≤ 1 + 4 * (i + 1) by omega), rfl, rfl⟩, ?wk⟩
       case lt => omega
       case wk => exact Wk.trans (Wk.sub (σ' := ⟨[(2, Iv k), (3, .ref 2 0), (6, .ref 3 0), (10, Iv (m.mod ^ (i + 1))), (12, Iv Z), (13, .ref 4 0), (14, .row 203), (51, Iv k), (52, Nv (i + 1))], [(2, oM 24 m), (3, .var 40 [Nv 0, Nv 0, Sv Ev, Sv Ev, Sv Ev, Sv Ev]), (4, oZ 79 .u32 ((stepZ m (iterZ m i Z)))), (203, .row 3 1 (is .i64 ((wordZ m Z i) ++ ([(iterZ m i Z) % m.mod]))))]⟩) ⟨rfl, rfl, rfl, rfl, rfl, rfl, rfl, rfl, rfl, trivial⟩ ⟨rfl, rfl, rfl, rfl, trivial⟩) (Wk.trans (Wk.ren (id := 203) (id' := 50) rfl) (Wk.sub ⟨rfl, rfl, rfl, (by first | rfl | exact int_eq (by omega) | exact int_nm (by omega)), rfl, rfl, (by first | rfl | simp), rfl, (by first | rfl | exact nm_int (by omega)), trivial⟩ ⟨rfl, rfl, rfl, (by first | rfl | exact row_ns (by simp)), trivial⟩))
     ·refine awp_exit ?_
      refine hK19 _ ?_
      refine awp_seq fun K44 hK44 => ?_
      refine awp_region rfl ?_
      refine o_build [Nv 0, Nv 0, Sv Ev, Sv Ev, Sv Ev, Sv Ev] [] Gd.none f96_ f93_ rfl rfl rfl ?_
      refine n_as (v' := (falV zFal)) (by exact rfl) ?_
      refine o_store [(2, oM 24 m), (3, .var 40 [Iv (zFal.steps), Iv (zFal.rest), Sv (zFal.lmul), Sv (zFal.ladd), Sv (zFal.ldiv), Sv (zFal.bound)]), (4, oZ 79 .u32 ((iterZ m i Z))), (50, .row 3 1 (is .i64 (wordZ m Z i)))] Gd.none f97_ rfl rfl rfl rfl rfl rfl ?_
      refine o_as Fv rfl ?_
      refine o_as (Nv 0) rfl ?_
      refine aops_end ?_
      refine hK44 _ ?_
      refine awp_ret ?_
      refine post_ret ⟨[.agg [Iv (zFal.steps), Iv (zFal.rest), Sv (zFal.lmul), Sv (zFal.ladd), Sv (zFal.ldiv), Sv (zFal.bound)], Fv, Nv 0], ⟨⟨3, .var 40 [Iv (zFal.steps), Iv (zFal.rest), Sv (zFal.lmul), Sv (zFal.ladd), Sv (zFal.ldiv), Sv (zFal.bound)], rfl, rfl, rfl, Or.inl ⟨f98_, AV.le_refl _⟩⟩, AV.le_refl _, AV.le_refl _, trivial⟩, rfl, ?_⟩
      first | (have e := fd_1 (m := m) (a := a) (k := k) (fun q => hm' q.1); rw [e.1, e.2.1, bpn e.2.2]; rfl) | (have e := fd_1 (m := m) (a := a) (k := k) (fun q => ha' q.2); rw [e.1, e.2.1, bpn e.2.2]; rfl) | (have e := fd_2 (m := m) (a := a) (k := k) ⟨hm', ha'⟩ h3; rw [e.1, e.2.1, bpn e.2.2]; rfl) | (have e := fd_0 (m := m) (a := a) (k := k) ⟨hm', ha'⟩ hy; rw [e.1, e.2.1, ← hfm.1, hfy.1, bpy (e.2.2.2 (hfm.2.1 hfy.2))]; rfl) | (have e := fd_0 (m := m) (a := a) (k := k) ⟨hm', ha'⟩ hy; have e2 := fnd_no (m := m) (z := Z) (k := k.toNat) (by rw [show k.toNat = i by omega]; exact h0); rw [e.1, e.2.1, ← hfm.1, e2.1, bpn (fun q => e2.2 (hfm.2.2 (e.2.2.1 q)))]; rfl)

end Go.Proofs.YtjbaamfahkjhgaaGreatDoor

set_option linter.unusedVariables false
set_option linter.unusedSimpArgs false
namespace Go.Proofs.YtjbaamfahkjhgaaGreatDoor
open Go Go.Ab Go.Mth
theorem f140_ : callable cx.P 61 = true := by kernel_rfl
theorem f141_ : callable cx.P 10 = true := by kernel_rfl
theorem f142_ : callable cx.P 17 = true := by kernel_rfl
theorem f143_ : tyField cx.P 40 3 = some (5, 9) := by kernel_rfl
theorem f144_ : tySc cx.P 9 = true := by kernel_rfl
theorem f145_ : callable cx.P 16 = true := by kernel_rfl
theorem c_awake4  : ECalls cx 13 [] (.lit (.bool true)) := by
 refine ecalls_of_awp Tryz.func13 (c := _) rfl (Nat.le_of_ble_eq_true rfl) ?_
 show awp cx 68 _ (postF cx Tryz.f13 _) ⟨[], []⟩
 refine awp_seq fun K0 hK0 => ?_
 refine awp_region rfl ?_
 refine o_as Fv rfl ?_
 refine aops_end ?_
 refine hK0 _ ?_
 refine awp_seq fun K1 hK1 => ?_
 refine awp_region rfl ?_
 refine o_ct c_gCollatz Gd.none f140_ rfl ?_
 refine o_alloc 2 [Nv 0, Zv, Zv] Gd.none f70_ rfl rfl rfl ?_
 refine o_store [(2, oM 24 (kinM 3 1))] Gd.none f72_ rfl rfl rfl rfl rfl rfl ?_
 refine aops_end ?_
 refine hK1 _ ?_
 refine awp_seq fun K2 hK2 => ?_
 refine awp_region rfl ?_
 refine o_loadA [Iv ((kinM 3 1).mod), Lv ((kinM 3 1).mul), Lv ((kinM 3 1).add)] Gd.none f64_ rfl rfl rfl rfl rfl ?_
 refine o_call [mapV (kinM 3 1), Nv 3] (.tup [.sl 6 (gcells cL ([ex1, ex2])), Lv ([3, 7]), Nv 0]) Gd.none f141_ rfl (by have h := c_sSieve (kinM 3 1) 3 okM_col may_col3 (by rw [ex_vis]; decide) (by rw [ex_vis]; decide); rw [ex_F, ex_L] at h; exact h) ?_
 refine o_mv (.tup [.sl 6 (gcells cL ([ex1, ex2])), Lv ([3, 7]), Nv 0]) rfl ?_
 refine o_extract (.sl 6 (gcells cL ([ex1, ex2]))) Gd.none rfl rfl ?_
 refine o_extract (Lv ([3, 7])) Gd.none rfl rfl ?_
 refine o_extract (Nv 0) Gd.none rfl rfl ?_
 refine o_as (.sl 6 (gcells cL ([ex1, ex2]))) rfl ?_
 refine o_as (Lv ([3, 7])) rfl ?_
 refine o_as (Nv 0) rfl ?_
 refine aops_end ?_
 refine hK2 _ ?_
 refine awp_seq fun K3 hK3 => ?_
 refine awp_region rfl ?_
 refine o_loadA [Iv ((kinM 3 1).mod), Lv ((kinM 3 1).mul), Lv ((kinM 3 1).add)] Gd.none f64_ rfl rfl rfl rfl rfl ?_
 refine o_call [mapV (kinM 3 1), (Sv (({data := #[49, 48, 48, 48, 48, 48, 48, 48, 48, 48, 48, 48, 48, 48, 48, 48, 48, 48, 48, 48, 48, 48, 48, 48, 51]} : ByteArray))), Nv 4] (.tup [falV ex3, Tv, Nv 0]) Gd.none f142_ rfl (by have h := c_sFind (kinM 3 1) exN 4 (by decide) (by decide); rw [ex_fd.1, ex_fd.2.1, bpy ex_fd.2.2] at h; exact h) ?_
 refine o_mv (.tup [falV ex3, Tv, Nv 0]) rfl ?_
 refine o_extract (falV ex3) Gd.none rfl rfl ?_
 refine o_extract Tv Gd.none rfl rfl ?_
 refine o_extract (Nv 0) Gd.none rfl rfl ?_
 refine o_alloc 3 [Nv 0, Nv 0, Sv Ev, Sv Ev, Sv Ev, Sv Ev] Gd.none f93_ rfl rfl rfl ?_
 refine o_store [(3, .var 40 [Iv (ex3.steps), Iv (ex3.rest), Sv (ex3.lmul), Sv (ex3.ladd), Sv (ex3.ldiv), Sv (ex3.bound)]), (2, oM 24 (kinM 3 1))] Gd.none f97_ rfl rfl rfl rfl rfl rfl ?_
 refine o_as Tv rfl ?_
 refine o_as (Nv 0) rfl ?_
 refine aops_end ?_
 refine hK3 _ ?_
 refine awp_seq fun K4 hK4 => ?_
 refine awp_region rfl ?_
 refine o_mv (Nv 0) rfl ?_
 refine n_eql 0 0 Gd.none rfl rfl ?_
 refine n_as (v' := Tv) (by exact bpy (by first | rfl | decide)) ?_
 refine o_mv Tv rfl ?_
 refine o_move (.sl 6 (gcells cL ([ex1, ex2]))) (Gd.yes rfl rfl rfl) rfl ?_
 refine g_len cL ([ex1, ex2]) cL_len (Gd.yes rfl rfl rfl) f109_ rfl ?_
 refine n_eql (([ex1, ex2]).length) 2 (Gd.yes rfl rfl rfl) rfl rfl ?_
 refine n_as (v' := Tv) (by exact bpy (by first | rfl | decide)) ?_
 refine o_pickT Tv Gd.none rfl rfl rfl ?_
 refine o_mv Tv rfl ?_
 refine o_move (.sl 6 (gcells cL ([ex1, ex2]))) (Gd.yes rfl rfl rfl) rfl ?_
 refine g_index cL ([ex1, ex2]) 0 cL_len rfl (Gd.yes rfl rfl rfl) f102_ rfl rfl (by decide) ?_
 refine g_field cL ([ex1, ex2]) 0 cL_len (Gd.yes rfl rfl rfl) f117_ rfl (by decide) rfl ?_
 refine g_loadS cL ([ex1, ex2]) 0 default (Iv (((([ex1, ex2]).getD 0 default)).steps)) cL_len (Gd.yes rfl rfl rfl) f11_ rfl (by decide) rfl ?_
 refine o_eql (a := (((([ex1, ex2]).getD 0 default)).steps)) (c := (((1 : Nat) : Int))) (Gd.yes rfl rfl rfl) rfl rfl ?_
 refine n_as (v' := Tv) (by exact bpy (by first | rfl | decide)) ?_
 refine o_pickT Tv Gd.none rfl rfl rfl ?_
 refine o_mv Tv rfl ?_
 refine o_move (.sl 6 (gcells cL ([ex1, ex2]))) (Gd.yes rfl rfl rfl) rfl ?_
 refine g_index cL ([ex1, ex2]) 0 cL_len rfl (Gd.yes rfl rfl rfl) f102_ rfl rfl (by decide) ?_
 refine g_field cL ([ex1, ex2]) 0 cL_len (Gd.yes rfl rfl rfl) f143_ rfl (by decide) rfl ?_
 refine g_loadS cL ([ex1, ex2]) 0 default (Sv (((([ex1, ex2]).getD 0 default)).bound)) cL_len (Gd.yes rfl rfl rfl) f144_ rfl (by decide) rfl ?_
 refine o_eqlS (a := (((([ex1, ex2]).getD 0 default)).bound)) (c := (({data := #[48]} : ByteArray))) (Gd.yes rfl rfl rfl) rfl rfl ?_
 refine n_as (v' := Tv) (by exact bpy (by first | rfl | decide)) ?_
 refine o_pickT Tv Gd.none rfl rfl rfl ?_
 refine o_mv Tv rfl ?_
 refine o_move (.sl 6 (gcells cL ([ex1, ex2]))) (Gd.yes rfl rfl rfl) rfl ?_
 refine g_index cL ([ex1, ex2]) 1 cL_len rfl (Gd.yes rfl rfl rfl) f102_ rfl rfl (by decide) ?_
 refine g_loadA cL ([ex1, ex2]) 1 default cL_len (Gd.yes rfl rfl rfl) f98_ rfl (by decide) ?_
 refine o_build [(Sv (({data := #[51]} : ByteArray))), (Sv (({data := #[49]} : ByteArray))), (Sv (({data := #[52]} : ByteArray)))] [(0, [(Sv (({data := #[51]} : ByteArray)))]), (1, [(Sv (({data := #[49]} : ByteArray)))]), (2, [(Sv (({data := #[52]} : ByteArray)))])] (Gd.yes rfl rfl rfl) f88_ f86_ rfl rfl rfl ?_
 refine o_build [Nv 2, Nv 1, (Sv (({data := #[51]} : ByteArray))), (Sv (({data := #[49]} : ByteArray))), (Sv (({data := #[52]} : ByteArray))), (Sv (({data := #[49]} : ByteArray)))] [(0, [Nv 2]), (1, [Nv 1]), (2, [(Sv (({data := #[51]} : ByteArray))), (Sv (({data := #[49]} : ByteArray))), (Sv (({data := #[52]} : ByteArray)))]), (3, [(Sv (({data := #[49]} : ByteArray)))])] (Gd.yes rfl rfl rfl) f96_ f93_ rfl rfl rfl ?_
 refine o_eqlA [.int .i64 (((([ex1, ex2]).getD 1 default)).steps), .int .i64 (((([ex1, ex2]).getD 1 default)).rest), .string (((([ex1, ex2]).getD 1 default)).lmul), .string (((([ex1, ex2]).getD 1 default)).ladd), .string (((([ex1, ex2]).getD 1 default)).ldiv), .string (((([ex1, ex2]).getD 1 default)).bound)] [.int .i64 ((2 : Nat) : Int), .int .i64 ((1 : Nat) : Int), .string (({data := #[51]} : ByteArray)), .string (({data := #[49]} : ByteArray)), .string (({data := #[52]} : ByteArray)), .string (({data := #[49]} : ByteArray))] ((((([ex1, ex2]).getD 1 default)).steps) = ((2 : Nat) : Int) ∧ (((([ex1, ex2]).getD 1 default)).rest) = ((1 : Nat) : Int) ∧ (((([ex1, ex2]).getD 1 default)).lmul) = (({data := #[51]} : ByteArray)) ∧ (((([ex1, ex2]).getD 1 default)).ladd) = (({data := #[49]} : ByteArray)) ∧ (((([ex1, ex2]).getD 1 default)).ldiv) = (({data := #[52]} : ByteArray)) ∧ (((([ex1, ex2]).getD 1 default)).bound) = (({data := #[49]} : ByteArray))) (Gd.yes rfl rfl rfl) rfl rfl (eq_api_Fall _ _ _ _ _ _ _ _ _ _ _ _) ?_
 refine n_as (v' := Tv) (by exact bpy (by first | rfl | decide)) ?_
 refine o_pickT Tv Gd.none rfl rfl rfl ?_
 refine o_mv Tv rfl ?_
 refine o_move (Lv ([3, 7])) (Gd.yes rfl rfl rfl) rfl ?_
 refine o_buildSlice 4 (is .i64 ([((3 : Nat) : Int), ((7 : Nat) : Int)])) [(0, [Nv 3]), (1, [Nv 7])] (Gd.yes rfl rfl rfl) f10_ rfl f26_ rfl rfl rfl rfl rfl rfl rfl ?_
 refine o_callG [(4, 1, (is .i64 ([((3 : Nat) : Int), ((7 : Nat) : Int)])))] [Lv ([3, 7]), (Lv ([((3 : Nat) : Int), ((7 : Nat) : Int)]))] _ (bp ([3, 7] = [((3 : Nat) : Int), ((7 : Nat) : Int)])) [(3, .var 40 [Iv (ex3.steps), Iv (ex3.rest), Sv (ex3.lmul), Sv (ex3.ladd), Sv (ex3.ldiv), Sv (ex3.bound)]), (2, oM 24 (kinM 3 1))] (Gd.yes rfl rfl rfl) f145_ rfl ⟨⟨_, rfl⟩, trivial⟩ rfl rfl (LeL.cons (AV.le_refl _) (LeL.cons (AV.le_refl _) LeL.nil)) (c_gAlike ([3, 7]) ([((3 : Nat) : Int), ((7 : Nat) : Int)])) rfl ?_
 refine n_as (v' := Tv) (by exact bpy (by first | rfl | decide)) ?_
 refine o_pickT Tv Gd.none rfl rfl rfl ?_
 refine o_mv Tv rfl ?_
 refine o_move (Nv 0) (Gd.yes rfl rfl rfl) rfl ?_
 refine n_eql 0 0 (Gd.yes rfl rfl rfl) rfl rfl ?_
 refine n_as (v' := Tv) (by exact bpy (by first | rfl | decide)) ?_
 refine o_pickT Tv Gd.none rfl rfl rfl ?_
 refine o_mv Tv rfl ?_
 refine o_move Tv (Gd.yes rfl rfl rfl) rfl ?_
 refine o_pickT Tv Gd.none rfl rfl rfl ?_
 refine o_mv Tv rfl ?_
 refine o_loadA [Iv (ex3.steps), Iv (ex3.rest), Sv (ex3.lmul), Sv (ex3.ladd), Sv (ex3.ldiv), Sv (ex3.bound)] (Gd.yes rfl rfl rfl) f98_ rfl rfl rfl rfl rfl ?_
 refine o_build [(Sv (({data := #[57]} : ByteArray))), (Sv (({data := #[53]} : ByteArray))), (Sv (({data := #[49, 54]} : ByteArray)))] [(0, [(Sv (({data := #[57]} : ByteArray)))]), (1, [(Sv (({data := #[53]} : ByteArray)))]), (2, [(Sv (({data := #[49, 54]} : ByteArray)))])] (Gd.yes rfl rfl rfl) f88_ f86_ rfl rfl rfl ?_
 refine o_build [Nv 4, Nv 3, (Sv (({data := #[57]} : ByteArray))), (Sv (({data := #[53]} : ByteArray))), (Sv (({data := #[49, 54]} : ByteArray))), (Sv (({data := #[48]} : ByteArray)))] [(0, [Nv 4]), (1, [Nv 3]), (2, [(Sv (({data := #[57]} : ByteArray))), (Sv (({data := #[53]} : ByteArray))), (Sv (({data := #[49, 54]} : ByteArray)))]), (3, [(Sv (({data := #[48]} : ByteArray)))])] (Gd.yes rfl rfl rfl) f96_ f93_ rfl rfl rfl ?_
 refine o_eqlA [.int .i64 (ex3.steps), .int .i64 (ex3.rest), .string (ex3.lmul), .string (ex3.ladd), .string (ex3.ldiv), .string (ex3.bound)] [.int .i64 ((4 : Nat) : Int), .int .i64 ((3 : Nat) : Int), .string (({data := #[57]} : ByteArray)), .string (({data := #[53]} : ByteArray)), .string (({data := #[49, 54]} : ByteArray)), .string (({data := #[48]} : ByteArray))] ((ex3.steps) = ((4 : Nat) : Int) ∧ (ex3.rest) = ((3 : Nat) : Int) ∧ (ex3.lmul) = (({data := #[57]} : ByteArray)) ∧ (ex3.ladd) = (({data := #[53]} : ByteArray)) ∧ (ex3.ldiv) = (({data := #[49, 54]} : ByteArray)) ∧ (ex3.bound) = (({data := #[48]} : ByteArray))) (Gd.yes rfl rfl rfl) rfl rfl (eq_api_Fall _ _ _ _ _ _ _ _ _ _ _ _) ?_
 refine n_as (v' := Tv) (by exact bpy (by first | rfl | decide)) ?_
 refine o_pickT Tv Gd.none rfl rfl rfl ?_
 refine o_as Tv rfl ?_
 refine aops_end ?_
 refine hK4 _ ?_
 refine awp_ret ?_
 refine post_ret ⟨[Tv], ⟨AV.le_refl _, trivial⟩, rfl, ?_⟩
 rfl

end Go.Proofs.YtjbaamfahkjhgaaGreatDoor

set_option linter.unusedVariables false
set_option linter.unusedSimpArgs false
namespace Go.Mth
open Go Go.Ab
theorem cmpz_lt {x y : Int} : cmpZ x y < 0 ↔ x < y := by unfold cmpZ; split <;> (try split) <;> omega
theorem cmpz_gt {x y : Int} : 0 < cmpZ x y ↔ y < x := by unfold cmpZ; split <;> (try split) <;> omega
theorem exact_iff {m : MapM} (hm : OkM m) (x : Int) {s : Nat} (hf : fallsW m (wordZ m x s)) : cmpZ (iterZ m s x) x < 0 ↔ 0 < cmpZ x (bndZ (lineZ m (wordZ m x s))) := by
  rw [cmpz_lt, cmpz_gt]; exact exact1 hm x hf
theorem exact_run {m : MapM} {a : ByteArray} (h : okM m = true ∧ okS a = true) {s : Nat} (hs : s ≤ 20000) : runE m a (s : Int) = 3 ∨ (runE m a (s : Int) = 0 ∧ runS m a (s : Int) = txt (iterZ m s (numS a))) := by
  have h2 : (0 : Int) ≤ (s : Int) ∧ (s : Int) ≤ 20000 := by omega
  rw [runE_e h h2, runS_e h h2, show ((s : Nat) : Int).toNat = s by omega]
  by_cases hf : Fit (runZ m s (numS a))
  · right
    have e := fit_run (m := m) (k := s) (z := numS a) (fun j hj => fit_all s hf j hj)
    rw [toldE_yes hf, toldS_yes hf, e.2]
    exact ⟨rfl, rfl⟩
  · left; exact toldE_no hf
theorem exact_app {m : MapM} (hm : OkM m) {a : ByteArray} (h : okS a = true) {s : Nat} (hs : s ≤ 200) : appE (lineT (lineZ m (wordZ m (numS a) s))) a = 3 ∨ (appE (lineT (lineZ m (wordZ m (numS a) s))) a = 0 ∧ AppB (lineT (lineZ m (wordZ m (numS a) s))) a ∧ appS (lineT (lineZ m (wordZ m (numS a) s))) a = txt (iterZ m s (numS a))) := by
  have hw := wordZ_ok hm (numS a) hs
  have ok := okL_line hm hw
  have hd : (0 : Int) < numS (lineT (lineZ m (wordZ m (numS a) s))).div := by
    show 0 < numS (txt _)
    rw [numS_txt, lineZ_div]; exact Int.pow_pos (by have := hm.1; omega)
  have hv : appV (lineT (lineZ m (wordZ m (numS a) s))) a = iterZ m s (numS a) * (lineZ m (wordZ m (numS a) s)).div := by
    show numS (txt _) * _ + numS (txt _) = _
    rw [numS_txt, numS_txt, line_iter hm (numS a) s]
  have hdv : numS (lineT (lineZ m (wordZ m (numS a) s))).div = (lineZ m (wordZ m (numS a) s)).div := numS_txt _
  by_cases hf : Fit (appV (lineT (lineZ m (wordZ m (numS a) s))) a)
  · right
    have q := app_yes ⟨ok, h⟩ hd hf (by rw [hv, hdv]; exact Int.mul_emod_left _ _)
    refine ⟨q.1, q.2.1, q.2.2.trans ?_⟩
    rw [hv, hdv, Int.mul_ediv_cancel _ (by rw [← hdv]; omega)]
  · left; exact (app_3 ⟨ok, h⟩ hd hf).1
theorem fnd_is {m : MapM} {z : Int} {k : Nat} (h : fndB m z k) : ∃ s : Nat, 1 ≤ s ∧ s ≤ k ∧ fallsW m (wordZ m z s) ∧ fndF m z k = falO (s : Int) (z % m.mod ^ s) (lineZ m (wordZ m z s)) := by
  have h' : ffal m z k ≠ 0 := h
  exact ⟨ffal m z k, by omega, ffal_le m z k, (ffal_yes h').1, if_neg h'⟩
end Go.Mth

set_option linter.unusedVariables false
set_option linter.unusedSimpArgs false
namespace Go.Proofs.YtjbaamfahkjhgaaGreatDoor
open Go Go.Ab Go.Mth
end Go.Proofs.YtjbaamfahkjhgaaGreatDoor

set_option linter.unusedVariables false
set_option linter.unusedSimpArgs false
namespace Go.Proofs.YtjbaamfahkjhgaaGreatDoor
open Go Go.Ab Go.Mth
end Go.Proofs.YtjbaamfahkjhgaaGreatDoor

set_option linter.unusedVariables false
set_option linter.unusedSimpArgs false
namespace Go.Proofs.YtjbaamfahkjhgaaGreatDoor
open Go Go.Ab Go.Mth
theorem c_sWalk (m : MapM) (z : Int) : ECallsW cx 74 [mapV m, intW z] 98 79 [bp (z < 0), .sl 1 (ns .u32 (digs z.natAbs))] 24 [.lit (.int .i64 m.mod), .sl 1 (is .i64 m.mul), .sl 1 (is .i64 m.add)] := by
 refine ecallsW_of_awp Tryz.func74 (c := _) rfl (Nat.le_of_ble_eq_true rfl) rfl rfl ?_
 show awp cx 6 _ (postW cx Tryz.f74 _ _ _ _ _) ⟨[(0, mapV m), (1, intW z)], []⟩
 refine awp_seq fun K0 hK0 => ?_
 refine awp_region rfl ?_
 refine o_box 2 [Iv m.mod, Lv m.mul, Lv m.add] Gd.none rfl rfl ?_
 refine o_box 3 [bp (z < 0), .sl 1 (ns .u32 (digs z.natAbs))] Gd.none rfl rfl ?_
 refine o_as (.lit .nilFunc) rfl ?_
 refine aops_end ?_
 refine hK0 _ ?_
 refine awp_seq fun K1 hK1 => ?_
 refine awp_region rfl ?_
 refine o_makeFunc [.ref 3 0, .ref 2 0] Gd.none rfl ?_
 refine o_as (.clo 98 [.ref 3 0, .ref 2 0]) rfl ?_
 refine aops_end ?_
 refine hK1 _ ?_
 refine awp_ret ?_
 exact ⟨4, 3, 2, rfl, by decide, rfl, rfl, rfl⟩

theorem it_Walk (m : MapM) (z : Int) (hm : OkM m) (l D : Nat) (fn : FuncId) (tmps : Array Value) (ps : Array Tmp) (assign body : Code) (N : Nat) (R : Nat → List (Nat × AO) → Prop) (X : Code → List (Nat × AO) → Prop)
  (hR : ∀ k mm, R k mm → k ≤ N ∧ (digs (iterZ m k z).natAbs).length ≤ 1000000 ∧ YldAt cx 17 l [nm .i64 k, intW (iterZ m k z)] ⟨[(0, .lit (.func (.yield l) #[] #[])), (1, .ref 8001 0), (2, .ref 8002 0), (4, Nv k)], (9001, .blk (.loop (lrec fn tmps ps assign body D (.ready) none))) :: (8001, oZ 79 .u32 ((iterZ m k z))) :: (8002, oM 24 m) :: mm⟩ fun b σ' =>
   (b = true ∧ ∃ m', σ' = ⟨[(0, .lit (.func (.yield l) #[] #[])), (1, .ref 8001 0), (2, .ref 8002 0), (4, Nv k)], (9001, .blk (.loop (lrec fn tmps ps assign body D .ready none))) :: m'⟩ ∧ ∃ mm', m' = (8001, .var 79 [bp (iterZ m k z < 0), .sl 1 (ns .u32 (digs (iterZ m k z).natAbs))]) :: (8002, .var 24 [.lit (.int .i64 m.mod), .sl 1 (is .i64 m.mul), .sl 1 (is .i64 m.add)]) :: mm' ∧ R (k + 1) mm') ∨ (b = false ∧ ∃ c m', σ' = ⟨[(0, .lit (.func (.yield l) #[] #[])), (1, .ref 8001 0), (2, .ref 8002 0), (4, Nv k)], (9001, .blk (.loop (lrec fn tmps ps assign body D .done (some c)))) :: m'⟩ ∧ X c m'))
  {mm0 m0 : List (Nat × AO)} (h0 : R 0 mm0) (hw : Wk cx 17 ⟨ent 0 [.lit (.func (.yield l) #[] #[]), .ref 8001 0, .ref 8002 0], m0⟩ ⟨[(0, .lit (.func (.yield l) #[] #[])), (1, .ref 8001 0), (2, .ref 8002 0)], (9001, .blk (.loop (lrec fn tmps ps assign body D (.ready) none))) :: (8001, oZ 79 .u32 z) :: (8002, oM 24 m) :: mm0⟩) (hN : N ≤ 4611686018427387904) {cI : Code} (hb : Tryz.f98.body = some cI) :
  awp cx 17 cI (fun e σ2 => e = .normal ∧ ∃ c m', X c m' ∧ Wk cx 17 σ2 ⟨[], (9001, .blk (.loop (lrec fn tmps ps assign body D .done (some c)))) :: m'⟩) ⟨ent 0 [.lit (.func (.yield l) #[] #[]), .ref 8001 0, .ref 8002 0], m0⟩ := by
 have hcI := Option.some.inj hb
 subst hcI
 refine awp_wk hw ?_
 show awp cx 17 _ _ _
 refine awp_seq fun K0 hK0 => ?_
 refine awp_region rfl ?_
 refine o_as (Nv 0) rfl ?_
 refine aops_end ?_
 refine hK0 _ ?_
 refine awp_block ?_
 refine awp_loopR (fun κ σ => ∃ (k : Nat), ∃ (mm : List (Nat × AO)), (R k mm) ∧ (N + 1 - k) = κ ∧ σ = ⟨[(0, .lit (.func (.yield l) #[] #[])), (1, .ref 8001 0), (2, .ref 8002 0), (4, Nv k)], (9001, .blk (.loop (lrec fn tmps ps assign body D (.ready) none))) :: (8001, oZ 79 .u32 ((iterZ m k z))) :: (8002, oM 24 m) :: mm⟩) ⟨_, _, ⟨0, mm0, h0, rfl, rfl⟩, ?wk0⟩ ?rd0
 case wk0 =>
  exact Wk.subT ⟨rfl, rfl, rfl, (by first | rfl | exact nm_int (by omega)), trivial⟩ (fun _ _ h => h)
 rintro κ _ ⟨k, mm, hr, rfl, rfl⟩
 obtain ⟨hkN, hlen, hY⟩ := hR k mm hr
 refine awp_seq fun K1 hK1 => ?_
 refine awp_seq fun K2 hK2 => ?_
 refine awp_regionYL 8 _ _ _ _ _ _ l [nm .i64 k, intW (iterZ m k z)] rfl rfl ?_
 refine o_mv (.lit (.func (.yield l) #[] #[])) rfl ?_
 refine o_mv (Nv k) rfl ?_
 refine o_loadA [bp ((iterZ m k z) < 0), .sl 1 (ns .u32 (digs ((iterZ m k z)).natAbs))] Gd.none f20_ rfl rfl rfl rfl rfl ?_
 refine aops_end ⟨rfl, rfl, YldAt.wk (σ1 := ⟨[(0, .lit (.func (.yield l) #[] #[])), (1, .ref 8001 0), (2, .ref 8002 0), (4, Nv k)], (9001, .blk (.loop (lrec fn tmps ps assign body D (.ready) none))) :: (8001, oZ 79 .u32 ((iterZ m k z))) :: (8002, oM 24 m) :: mm⟩) (Wk.subT ⟨rfl, rfl, rfl, rfl, trivial⟩ (fun _ _ h => h)) rfl (YldAt.mono hY ?_)⟩
 rintro b σ2 (⟨rfl, m', rfl, mm', rfl, hr'⟩ | ⟨rfl, c, m', rfl, hx⟩)
 ·refine hK2 _ ?_
  refine awp_condB (b := true) rfl (fun _ => ?_) (fun hh => absurd (hh.symm.trans rfl) (by decide))
  refine awp_skip ?_
  refine hK1 _ ?_
  refine awp_seq fun K3 hK3 => ?_
  refine awp_block ?_
  refine awp_region rfl ?_
  refine o_loadA [Iv m.mod, Lv m.mul, Lv m.add] Gd.none f64_ rfl rfl rfl rfl rfl ?_
  refine o_loadA [bp ((iterZ m k z) < 0), .sl 1 (ns .u32 (digs ((iterZ m k z)).natAbs))] Gd.none f20_ rfl rfl rfl rfl rfl ?_
  refine o_ct (c_sNext m ((iterZ m k z)) (by first | assumption | exact okM_iff.1 (by assumption)) (by first | omega | assumption | (simp only [Int.natAbs_neg]; omega))) Gd.none f139_ rfl ?_
  refine o_mv (.tup [intW ((stepZ m (iterZ m k z))), Iv ((iterZ m k z) % m.mod)]) rfl ?_
  refine o_extract (intW ((stepZ m (iterZ m k z)))) Gd.none rfl rfl ?_
  refine o_extract (Iv ((iterZ m k z) % m.mod)) Gd.none rfl rfl ?_
  refine o_store ((9001, .blk (.loop (lrec fn tmps ps assign body D (.ready) none))) :: (8001, oZ 79 .u32 ((stepZ m (iterZ m k z)))) :: (8002, oM 24 m) :: mm') Gd.none f19_ rfl rfl rfl rfl rfl rfl ?_
  refine aops_end ?_
  refine hK3 _ ?_
  refine awp_region rfl ?_
  refine o_mv (Nv k) rfl ?_
  refine n_add k 1 Gd.none rfl rfl (by simp only [topOf]; omega) ?_
  refine o_as (Nv (k + 1)) rfl ?_
  refine aops_end ?_
  refine ⟨_, _, ?lt, ⟨k + 1, mm', hr', rfl, rfl⟩, ?wk⟩
  case lt => (have := hkN; omega)
  case wk => exact Wk.subT ⟨rfl, rfl, rfl, (by first | rfl | exact nm_int (by omega)), trivial⟩ (fun _ _ h => h)
 ·refine hK2 _ ?_
  refine awp_condB (b := false) rfl (fun hh => absurd (hh.symm.trans rfl) (by decide)) (fun _ => ?_)
  refine awp_exit ?_
  exact ⟨rfl, c, m', hx, Wk.subT trivial (fun _ _ h => h)⟩

end Go.Proofs.YtjbaamfahkjhgaaGreatDoor

set_option linter.unusedVariables false
set_option linter.unusedSimpArgs false
namespace Go.Proofs.YtjbaamfahkjhgaaGreatDoor
open Go Go.Ab Go.Mth
theorem f146_ : tyZero cx.P 9 = some [(Go.Value.string {data := #[]})] := by kernel_rfl
theorem f147_ : tyZero cx.P 27 = some [Go.Value.int IntKind.i64 0] := by kernel_rfl
theorem f148_ : tySize cx.P 9 = some 1 := by kernel_rfl
theorem f149_ : tySize cx.P 27 = some 1 := by kernel_rfl
theorem f150_ : tySc cx.P 27 = true := by kernel_rfl
theorem f151_ : callable cx.P 74 = true := by kernel_rfl
theorem f152_ : callable cx.P 98 = true := by kernel_rfl
theorem f153_ : callable cx.P 75 = true := by kernel_rfl
theorem c_sRun (m : MapM) (a : ByteArray) (K : Int) (hsz : a.size ≤ 9223372036854775807) : ECalls cx 31 [mapV m, Sv a, Iv K] (.tup [.lit (.string (runS m a K)), nm .i64 (runE m a K)]) := by
 refine ecalls_of_awpT Tryz.func31 (c := _) rfl (Nat.le_of_ble_eq_true rfl) ?_
 show awpT cx 41 [] _ (postT cx Tryz.f31 _) ⟨[(0, mapV m), (1, Sv a), (2, Iv K)], []⟩
 refine awpT_seq fun K0 hK0 => ?_
 refine awpT_lift ?_
 refine awp_region rfl ?_
 refine o_box 2 [Iv m.mod, Lv m.mul, Lv m.add] Gd.none rfl rfl ?_
 refine o_box 3 [Iv K] Gd.none rfl rfl ?_
 refine o_alloc 4 [Sv Ev] Gd.none f146_ rfl rfl rfl ?_
 refine o_alloc 5 [Nv 0] Gd.none f147_ rfl rfl rfl ?_
 refine aops_end ?_
 refine hK0 _ _ ?_
 refine awpT_seq fun K1 hK1 => ?_
 refine awpT_lift ?_
 refine awp_block ?_
 refine awp_seq fun K2 hK2 => ?_
 refine awp_region rfl ?_
 refine o_loadA [Iv m.mod, Lv m.mul, Lv m.add] Gd.none f64_ rfl rfl rfl rfl rfl ?_
 refine o_ct (c_sValid m) Gd.none f91_ rfl ?_
 refine o_not (b := okM m) Gd.none rfl ?_
 refine o_mv (.lit (.bool (!(okM m)))) rfl ?_
 refine o_split (b := !(okM m)) 14 rfl (fun h1 => ?_) (fun h1 => ?_)
 ·have hm' : okM m = false := by simpa using h1
  refine o_skip rfl rfl h1 ?_
  refine o_skip rfl rfl h1 ?_
  refine o_skip rfl rfl h1 ?_
  refine o_pickT Tv Gd.none rfl h1 rfl ?_
  refine o_as Tv rfl ?_
  refine aops_end ?_
  refine hK2 _ ?_
  refine awp_condB (b := true) rfl (fun _ => ?_) (fun hh => absurd (hh.symm.trans rfl) (by decide))
  refine awp_seq fun K3 hK3 => ?_
  refine awp_region rfl ?_
  refine o_store [(5, .var 27 [Nv 0]), (4, .var 9 [Sv Ev]), (3, .var 3 [Iv K]), (2, oM 24 m)] Gd.none f148_ rfl rfl rfl rfl rfl rfl ?_
  refine o_store [(5, .var 27 [Nv 1]), (4, .var 9 [Sv Ev]), (3, .var 3 [Iv K]), (2, oM 24 m)] Gd.none f149_ rfl rfl rfl rfl rfl rfl ?_
  refine aops_end ?_
  refine hK3 _ ?_
  refine awp_ret ?_
  refine postT_ret0 ⟨[Sv Ev, Nv 1], ⟨⟨4, .var 9 [Sv Ev], rfl, rfl, rfl, Or.inr ⟨f144_, _, rfl, AV.le_refl _⟩⟩, ⟨5, .var 27 [Nv 1], rfl, rfl, rfl, Or.inr ⟨f150_, _, rfl, AV.le_refl _⟩⟩, trivial⟩, rfl, ?_⟩
  refine tup_eq2 (by unfold runS; rw [if_neg (by simp [hm'])]) (by unfold runE; rw [if_neg (by simp [hm'])])
 ·have hm' : okM m = true := by simpa using h1
  have hM := okM_iff.1 hm'
  refine o_move (Sv a) (Gd.yes rfl rfl h1) rfl ?_
  refine o_ct (c_nValid a (by first | assumption | decide | omega)) (Gd.yes rfl rfl h1) f137_ rfl ?_
  refine o_not (b := okS a) (Gd.yes rfl rfl h1) rfl ?_
  refine o_pickF (.lit (.bool (!(okS a)))) Gd.none rfl h1 rfl ?_
  refine o_as (.lit (.bool (!(okS a)))) rfl ?_
  refine aops_end ?_
  refine hK2 _ ?_
  refine awp_condB (b := !(okS a)) rfl (fun h2 => ?_) (fun h2 => ?_)
  ·have ha' : okS a = false := by simpa using h2
   refine awp_seq fun K4 hK4 => ?_
   refine awp_region rfl ?_
   refine o_store [(5, .var 27 [Nv 0]), (4, .var 9 [Sv Ev]), (3, .var 3 [Iv K]), (2, oM 24 m)] Gd.none f148_ rfl rfl rfl rfl rfl rfl ?_
   refine o_store [(5, .var 27 [Nv 1]), (4, .var 9 [Sv Ev]), (3, .var 3 [Iv K]), (2, oM 24 m)] Gd.none f149_ rfl rfl rfl rfl rfl rfl ?_
   refine aops_end ?_
   refine hK4 _ ?_
   refine awp_ret ?_
   refine postT_ret0 ⟨[Sv Ev, Nv 1], ⟨⟨4, .var 9 [Sv Ev], rfl, rfl, rfl, Or.inr ⟨f144_, _, rfl, AV.le_refl _⟩⟩, ⟨5, .var 27 [Nv 1], rfl, rfl, rfl, Or.inr ⟨f150_, _, rfl, AV.le_refl _⟩⟩, trivial⟩, rfl, ?_⟩
   refine tup_eq2 (by unfold runS; rw [if_neg (by simp [ha'])]) (by unfold runE; rw [if_neg (by simp [ha'])])
  ·have ha' : okS a = true := by simpa using h2
   have hlz := len_numS (okS_iff.1 ha')
   refine awp_seq fun K5 hK5 => ?_
   refine awp_region rfl ?_
   refine o_loadS (Iv K) Gd.none f11_ rfl rfl rfl ?_
   refine o_lss (a := K) (c := (((0 : Nat) : Int))) Gd.none rfl rfl ?_
   refine o_mv (bp (K < (((0 : Nat) : Int)))) rfl ?_
   refine o_splitP (q := K < (((0 : Nat) : Int))) 22 rfl (fun h3 => ?_) (fun h3 => ?_)
   ·refine o_skip rfl rfl (decide_eq_true h3) ?_
    refine o_skip rfl rfl (decide_eq_true h3) ?_
    refine o_pickT Tv Gd.none rfl (decide_eq_true h3) rfl ?_
    refine o_as Tv rfl ?_
    refine aops_end ?_
    refine hK5 _ ?_
    refine awp_condB (b := true) rfl (fun _ => ?_) (fun hh => absurd (hh.symm.trans rfl) (by decide))
    refine awp_seq fun K6 hK6 => ?_
    refine awp_region rfl ?_
    refine o_store [(5, .var 27 [Nv 0]), (4, .var 9 [Sv Ev]), (3, .var 3 [Iv K]), (2, oM 24 m)] Gd.none f148_ rfl rfl rfl rfl rfl rfl ?_
    refine o_store [(5, .var 27 [Nv 2]), (4, .var 9 [Sv Ev]), (3, .var 3 [Iv K]), (2, oM 24 m)] Gd.none f149_ rfl rfl rfl rfl rfl rfl ?_
    refine aops_end ?_
    refine hK6 _ ?_
    refine awp_ret ?_
    refine postT_ret0 ⟨[Sv Ev, Nv 2], ⟨⟨4, .var 9 [Sv Ev], rfl, rfl, rfl, Or.inr ⟨f144_, _, rfl, AV.le_refl _⟩⟩, ⟨5, .var 27 [Nv 2], rfl, rfl, rfl, Or.inr ⟨f150_, _, rfl, AV.le_refl _⟩⟩, trivial⟩, rfl, ?_⟩
    refine tup_eq2 (by unfold runS; rw [if_neg (by omega)]) (by unfold runE; rw [if_pos ⟨hm', ha'⟩, if_neg (by omega)])
   ·refine o_loadS (Iv K) (Gd.yes rfl rfl (decide_eq_false h3)) f11_ rfl rfl rfl ?_
    refine o_gtr (a := K) (c := (((20000 : Nat) : Int))) (Gd.yes rfl rfl (decide_eq_false h3)) rfl rfl ?_
    refine o_pickF (bp ((((20000 : Nat) : Int)) < K)) Gd.none rfl (decide_eq_false h3) rfl ?_
    refine o_as (bp ((((20000 : Nat) : Int)) < K)) rfl ?_
    refine aops_end ?_
    refine hK5 _ ?_
    refine awp_condQ (q := (((20000 : Nat) : Int)) < K) rfl (fun h4 => ?_) (fun h4 => ?_)
    ·refine awp_seq fun K7 hK7 => ?_
     refine awp_region rfl ?_
     refine o_store [(5, .var 27 [Nv 0]), (4, .var 9 [Sv Ev]), (3, .var 3 [Iv K]), (2, oM 24 m)] Gd.none f148_ rfl rfl rfl rfl rfl rfl ?_
     refine o_store [(5, .var 27 [Nv 2]), (4, .var 9 [Sv Ev]), (3, .var 3 [Iv K]), (2, oM 24 m)] Gd.none f149_ rfl rfl rfl rfl rfl rfl ?_
     refine aops_end ?_
     refine hK7 _ ?_
     refine awp_ret ?_
     refine postT_ret0 ⟨[Sv Ev, Nv 2], ⟨⟨4, .var 9 [Sv Ev], rfl, rfl, rfl, Or.inr ⟨f144_, _, rfl, AV.le_refl _⟩⟩, ⟨5, .var 27 [Nv 2], rfl, rfl, rfl, Or.inr ⟨f150_, _, rfl, AV.le_refl _⟩⟩, trivial⟩, rfl, ?_⟩
     refine tup_eq2 (by unfold runS; rw [if_neg (by omega)]) (by unfold runE; rw [if_pos ⟨hm', ha'⟩, if_neg (by omega)])
    ·refine awp_skip ?_
     refine hK1 _ _ ?_
     refine awpT_seq fun K8 hK8 => ?_
     refine awpT_seq fun K9 hK9 => ?_
     refine awpT_lift ?_
     refine awp_regionD rfl ?_
     refine o_loadA [Iv m.mod, Lv m.mul, Lv m.add] Gd.none f64_ rfl rfl rfl rfl rfl ?_
     refine o_mv (Sv a) rfl ?_
     refine o_ct (c_wParse a (by first | assumption | exact okS_iff.1 (by assumption))) Gd.none f138_ rfl ?_
     refine o_callW 8001 8002 [mapV m, intW ((numS a))] Gd.none f151_ rfl rfl rfl rfl (c_sWalk m (numS a)) rfl rfl ?_
     refine aops_end ⟨by kernel_rfl, ?_⟩
     refine hK9 _ _ ?_
     refine awpT_block ?_
     refine awpT_wk (σ' := ⟨[(5, .ref 3 0), (6, .ref 4 0), (7, .ref 5 0), (29, .clo 98 [.ref 8001 0, .ref 8002 0])], [(8001, oZ 79 .u32 ((numS a))), (8002, oM 24 m), (3, .var 3 [Iv K]), (4, .var 9 [Sv Ev]), (5, .var 27 [Nv 0])]⟩) (Wk.sub ⟨rfl, rfl, rfl, rfl, trivial⟩ ⟨rfl, rfl, rfl, rfl, rfl, trivial⟩) ?_
     refine awpT_range (C := cx) rfl (gf := 98) (fnI := Tryz.f98) (caps := [.ref 8001 0, .ref 8002 0]) (so := [(5, .ref 3 0), (6, .ref 4 0), (7, .ref 5 0), (29, .clo 98 [.ref 8001 0, .ref 8002 0])]) ⟨rfl, rfl, rfl, rfl, trivial⟩ Tryz.func98 rfl f152_ (by decide) rfl rfl rfl rfl rfl (fun (fn : FuncId) (tmps : Array Value) (D l : Nat) (pe : Option Code) (m' : List (Nat × AO)) => ((¬ Fit (runZ m K.toNat (numS a))) ∧ pe = some .ret ∧ m' = [(4, (.var 9 [(Sv (({ data := #[] } : ByteArray)))])), (5, .var 27 [Nv 3])]) ∨ ((Fit (runZ m K.toNat (numS a))) ∧ pe = some .ret ∧ m' = [(4, .var 9 [Sv (txt (runZ m K.toNat (numS a)))]), (5, .var 27 [Nv 0])])) ?it0 ?nx0
     case it0 =>
      intro fn tmps D l hsz
      refine awp_mono (it_Walk m (numS a) hM l D fn tmps _ _ _ 20000 (fun (k : Nat) (mm : List (Nat × AO)) => ((k : Int) ≤ K) ∧ (runZ m (K.toNat - k) (iterZ m k (numS a)) = runZ m K.toNat (numS a)) ∧ ((digs (iterZ m k (numS a)).natAbs).length ≤ 1000000) ∧ mm = (((9002, .blk (.deferred (some []))) :: (9003, pinA [(5, .ref 3 0), (6, .ref 4 0), (7, .ref 5 0), (29, .clo 98 [.ref 8001 0, .ref 8002 0])] tmps) :: (9004, pinL l D) :: (3, .var 3 [Iv K]) :: (4, .var 9 [Sv Ev]) :: (5, .var 27 [Nv 0]) :: []))) (fun c mm => ∃ m2, mm = (((9002, .blk (.deferred (some []))) :: (9003, pinA [(5, .ref 3 0), (6, .ref 4 0), (7, .ref 5 0), (29, .clo 98 [.ref 8001 0, .ref 8002 0])] tmps) :: (9004, pinL l D) :: m2)) ∧ (fun (fn : FuncId) (tmps : Array Value) (D l : Nat) (pe : Option Code) (m' : List (Nat × AO)) => ((¬ Fit (runZ m K.toNat (numS a))) ∧ pe = some .ret ∧ m' = [(4, (.var 9 [(Sv (({ data := #[] } : ByteArray)))])), (5, .var 27 [Nv 3])]) ∨ ((Fit (runZ m K.toNat (numS a))) ∧ pe = some .ret ∧ m' = [(4, .var 9 [Sv (txt (runZ m K.toNat (numS a)))]), (5, .var 27 [Nv 0])])) fn tmps D l (some c) m2) ?R0 ⟨(by omega), rfl, (by have := hlz; simp only [iterZ]; omega), rfl⟩ (Wk.sub ⟨rfl, rfl, rfl, trivial⟩ ⟨rfl, rfl, rfl, rfl, rfl, rfl, rfl, rfl, rfl, trivial⟩) (by omega) rfl) ?fin0
      case fin0 =>
       rintro e σ ⟨rfl, c, mm', ⟨m2, rfl, hX⟩, hwk⟩
       exact ⟨.inl rfl, .done, some c, m2, (by decide), hX, (by rcases hX with ⟨_, _, rfl⟩ | ⟨_, _, rfl⟩ <;> rfl), (by rcases hX with ⟨_, _, rfl⟩ | ⟨_, _, rfl⟩ <;> rfl), hwk⟩
      case R0 =>
       rintro k _ ⟨hk, hr, hln, rfl⟩
       refine ⟨(by omega), hln, yldAt_of_round (so := [(5, .ref 3 0), (6, .ref 4 0), (7, .ref 5 0), (29, .clo 98 [.ref 8001 0, .ref 8002 0])]) (n := 41) (D' := D) rfl hsz (by decide) rfl rfl rfl rfl rfl rfl fun us => ?_⟩
       show awp cx 41 _ _ ⟨[(31, intW ((iterZ m k (numS a)))), (30, Nv k), (5, .ref 3 0), (6, .ref 4 0), (7, .ref 5 0), (29, .clo 98 [.ref 8001 0, .ref 8002 0])], [(9005, .pin [.lit (.func (.yield l) #[] #[]), .ref 8001 0, .ref 8002 0, Nv k] us), (9001, .blk (.loop (lrec fn tmps _ _ _ D .ready none))), (8001, oZ 79 .u32 ((iterZ m k (numS a)))), (8002, oM 24 m), (9002, .blk (.deferred (some []))), (9003, pinA [(5, .ref 3 0), (6, .ref 4 0), (7, .ref 5 0), (29, .clo 98 [.ref 8001 0, .ref 8002 0])] tmps), (9004, pinL l D), (3, .var 3 [Iv K]), (4, .var 9 [Sv Ev]), (5, .var 27 [Nv 0])]⟩
       refine awp_seq fun K10 hK10 => ?_
       refine awp_region rfl ?_
       refine o_as (Nv k) rfl ?_
       refine aops_end ?_
       refine hK10 _ ?_
       refine awp_region rfl ?_
       refine o_alloc 101 [Fv, Zv] Gd.none f15_ rfl rfl rfl ?_
       refine o_store [(101, oZ 79 .u32 ((iterZ m k (numS a)))), (9005, .pin [.lit (.func (.yield l) #[] #[]), .ref 8001 0, .ref 8002 0, Nv k] us), (9001, .blk (.loop (lrec fn tmps _ _ _ D .ready none))), (8001, oZ 79 .u32 ((iterZ m k (numS a)))), (8002, oM 24 m), (9002, .blk (.deferred (some []))), (9003, pinA [(5, .ref 3 0), (6, .ref 4 0), (7, .ref 5 0), (29, .clo 98 [.ref 8001 0, .ref 8002 0])] tmps), (9004, pinL l D), (3, .var 3 [Iv K]), (4, .var 9 [Sv Ev]), (5, .var 27 [Nv 0])] Gd.none f19_ rfl rfl rfl rfl rfl rfl ?_
       refine aops_end ?_
       refine ⟨[(31, intW ((iterZ m k (numS a)))), (30, Nv k), (5, .ref 3 0), (6, .ref 4 0), (7, .ref 5 0), (29, .clo 98 [.ref 8001 0, .ref 8002 0]), (8, Nv k), (9, .ref 101 0)], [(101, oZ 79 .u32 ((iterZ m k (numS a)))), (9005, .pin [.lit (.func (.yield l) #[] #[]), .ref 8001 0, .ref 8002 0, Nv k] us), (8001, oZ 79 .u32 ((iterZ m k (numS a)))), (8002, oM 24 m), (9002, .blk (.deferred (some []))), (9003, pinA [(5, .ref 3 0), (6, .ref 4 0), (7, .ref 5 0), (29, .clo 98 [.ref 8001 0, .ref 8002 0])] tmps), (9004, pinL l D), (3, .var 3 [Iv K]), (4, .var 9 [Sv Ev]), (5, .var 27 [Nv 0])], Wk.sub ⟨rfl, rfl, rfl, rfl, rfl, rfl, rfl, rfl, trivial⟩ ⟨rfl, rfl, rfl, rfl, rfl, rfl, rfl, rfl, rfl, rfl, rfl, trivial⟩, rfl, ?_⟩
       refine awp_block ?_
       refine awp_block ?_
       refine awp_seq fun K11 hK11 => ?_
       refine awp_region rfl ?_
       refine o_loadA [bp ((iterZ m k (numS a)) < 0), .sl 1 (ns .u32 (digs ((iterZ m k (numS a))).natAbs))] Gd.none f20_ rfl rfl rfl rfl rfl ?_
       refine o_ct (c_sLong ((iterZ m k (numS a))) (by first | omega | assumption | (simp only [Int.natAbs_neg]; omega))) Gd.none f153_ rfl ?_
       refine o_as (bp (¬ Fit ((iterZ m k (numS a))))) rfl ?_
       refine aops_end ?_
       refine hK11 _ ?_
       refine awp_condQ (q := ¬ Fit ((iterZ m k (numS a)))) rfl (fun h5 => ?_) (fun h5 => ?_)
       ·refine awp_seq fun K12 hK12 => ?_
        refine awp_region rfl ?_
        refine o_store [(9001, .blk (.loop (lrec fn tmps _ _ _ D .busy none))), (101, oZ 79 .u32 ((iterZ m k (numS a)))), (9005, .pin [.lit (.func (.yield l) #[] #[]), .ref 8001 0, .ref 8002 0, Nv k] us), (8001, oZ 79 .u32 ((iterZ m k (numS a)))), (8002, oM 24 m), (9002, .blk (.deferred (some []))), (9003, pinA [(5, .ref 3 0), (6, .ref 4 0), (7, .ref 5 0), (29, .clo 98 [.ref 8001 0, .ref 8002 0])] tmps), (9004, pinL l D), (3, .var 3 [Iv K]), (4, .var 9 [Sv Ev]), (5, .var 27 [Nv 0])] Gd.none f148_ rfl rfl rfl rfl rfl rfl ?_
        refine o_store [(9001, .blk (.loop (lrec fn tmps _ _ _ D .busy none))), (101, oZ 79 .u32 ((iterZ m k (numS a)))), (9005, .pin [.lit (.func (.yield l) #[] #[]), .ref 8001 0, .ref 8002 0, Nv k] us), (8001, oZ 79 .u32 ((iterZ m k (numS a)))), (8002, oM 24 m), (9002, .blk (.deferred (some []))), (9003, pinA [(5, .ref 3 0), (6, .ref 4 0), (7, .ref 5 0), (29, .clo 98 [.ref 8001 0, .ref 8002 0])] tmps), (9004, pinL l D), (3, .var 3 [Iv K]), (4, .var 9 [Sv Ev]), (5, .var 27 [Nv 3])] Gd.none f149_ rfl rfl rfl rfl rfl rfl ?_
        refine aops_end ?_
        refine hK12 _ ?_
        refine awp_ret ?_
        exact ⟨[(9002, .blk (.deferred (some []))), (9003, pinA [(5, .ref 3 0), (6, .ref 4 0), (7, .ref 5 0), (29, .clo 98 [.ref 8001 0, .ref 8002 0])] tmps), (9004, pinL l D), (4, (.var 9 [(Sv (({ data := #[] } : ByteArray)))])), (5, .var 27 [Nv 3])], Wk.sub trivial ⟨rfl, rfl, rfl, rfl, rfl, (by first | rfl | (rw [← hz]; first | done | rfl)), (by first | rfl | (rw [← hz]; first | done | rfl)), trivial⟩, rfl, rfl, _, rfl, .inl ⟨(by rw [← hr, runZ_bad h5]; exact h5), rfl, rfl⟩⟩
       ·have hF : Fit (iterZ m k (numS a)) := Decidable.not_not.1 h5
        refine awp_seq fun K13 hK13 => ?_
        refine awp_region rfl ?_
        refine o_mv (Nv k) rfl ?_
        refine o_loadS (Iv K) Gd.none f11_ rfl rfl rfl ?_
        refine o_eql (a := (((k : Nat) : Int))) (c := K) Gd.none rfl rfl ?_
        refine o_as (bp ((((k : Nat) : Int)) = K)) rfl ?_
        refine aops_end ?_
        refine hK13 _ ?_
        refine awp_condQ (q := (((k : Nat) : Int)) = K) rfl (fun h6 => ?_) (fun h6 => ?_)
        ·have hz : (iterZ m k (numS a)) = runZ m K.toNat (numS a) := by rw [← hr, show K.toNat - k = 0 by omega]; rfl
         have hfz : Fit (runZ m K.toNat (numS a)) := by rw [← hz]; exact hF
         refine awp_seq fun K14 hK14 => ?_
         refine awp_region rfl ?_
         refine o_loadA [bp ((iterZ m k (numS a)) < 0), .sl 1 (ns .u32 (digs ((iterZ m k (numS a))).natAbs))] Gd.none f20_ rfl rfl rfl rfl rfl ?_
         refine o_ct (c_wText ((iterZ m k (numS a))) (by first | omega | assumption | (simp only [Int.natAbs_neg]; omega))) Gd.none f87_ rfl ?_
         refine o_store [(9001, .blk (.loop (lrec fn tmps _ _ _ D .busy none))), (101, oZ 79 .u32 ((iterZ m k (numS a)))), (9005, .pin [.lit (.func (.yield l) #[] #[]), .ref 8001 0, .ref 8002 0, Nv k] us), (8001, oZ 79 .u32 ((iterZ m k (numS a)))), (8002, oM 24 m), (9002, .blk (.deferred (some []))), (9003, pinA [(5, .ref 3 0), (6, .ref 4 0), (7, .ref 5 0), (29, .clo 98 [.ref 8001 0, .ref 8002 0])] tmps), (9004, pinL l D), (3, .var 3 [Iv K]), (4, .var 9 [Sv (txt ((iterZ m k (numS a))))]), (5, .var 27 [Nv 0])] Gd.none f148_ rfl rfl rfl rfl rfl rfl ?_
         refine o_store [(9001, .blk (.loop (lrec fn tmps _ _ _ D .busy none))), (101, oZ 79 .u32 ((iterZ m k (numS a)))), (9005, .pin [.lit (.func (.yield l) #[] #[]), .ref 8001 0, .ref 8002 0, Nv k] us), (8001, oZ 79 .u32 ((iterZ m k (numS a)))), (8002, oM 24 m), (9002, .blk (.deferred (some []))), (9003, pinA [(5, .ref 3 0), (6, .ref 4 0), (7, .ref 5 0), (29, .clo 98 [.ref 8001 0, .ref 8002 0])] tmps), (9004, pinL l D), (3, .var 3 [Iv K]), (4, .var 9 [Sv (txt ((iterZ m k (numS a))))]), (5, .var 27 [Nv 0])] Gd.none f149_ rfl rfl rfl rfl rfl rfl ?_
         refine aops_end ?_
         refine hK14 _ ?_
         refine awp_ret ?_
         exact ⟨[(9002, .blk (.deferred (some []))), (9003, pinA [(5, .ref 3 0), (6, .ref 4 0), (7, .ref 5 0), (29, .clo 98 [.ref 8001 0, .ref 8002 0])] tmps), (9004, pinL l D), (4, .var 9 [Sv (txt (runZ m K.toNat (numS a)))]), (5, .var 27 [Nv 0])], Wk.sub trivial ⟨rfl, rfl, rfl, rfl, rfl, (by first | rfl | (rw [← hz]; first | done | rfl)), (by first | rfl | (rw [← hz]; first | done | rfl)), trivial⟩, rfl, rfl, _, rfl, .inr (⟨hfz, rfl, rfl⟩)⟩
        ·refine awp_skip ?_
         exact ⟨[(8001, oZ 79 .u32 ((iterZ m k (numS a)))), (8002, oM 24 m), (9002, .blk (.deferred (some []))), (9003, pinA [(5, .ref 3 0), (6, .ref 4 0), (7, .ref 5 0), (29, .clo 98 [.ref 8001 0, .ref 8002 0])] tmps), (9004, pinL l D), (3, .var 3 [Iv K]), (4, .var 9 [Sv Ev]), (5, .var 27 [Nv 0])], Wk.sub trivial ⟨rfl, rfl, rfl, rfl, rfl, rfl, rfl, rfl, rfl, rfl, trivial⟩, rfl, rfl, _, rfl, (by omega), (by rw [← hr, show K.toNat - k = (K.toNat - (k + 1)) + 1 by omega, runZ, if_pos hF]; rfl), (by have := step_len hM (fit_len hF) (by decide); simp only [iterZ]; omega), rfl⟩
     case nx0 =>
      rintro fn tmps D l pe m' (⟨hbad, rfl, rfl⟩ | ⟨hfit, rfl, rfl⟩)
      ·refine postT_ret ⟨[(Sv (({ data := #[] } : ByteArray))), Nv 3], ⟨⟨4, (.var 9 [(Sv (({ data := #[] } : ByteArray)))]), rfl, rfl, rfl, Or.inr ⟨f144_, _, rfl, AV.le_refl _⟩⟩, ⟨5, .var 27 [Nv 3], rfl, rfl, rfl, Or.inr ⟨f150_, _, rfl, AV.le_refl _⟩⟩, trivial⟩, rfl, ?_⟩ rfl rfl
       refine tup_eq2 (by unfold runS; rw [if_pos ⟨hm', ha', by omega, by omega⟩, toldS, if_neg hbad]) (by unfold runE; rw [if_pos ⟨hm', ha'⟩, if_pos (by omega), toldE, if_neg hbad])
      ·refine postT_ret ⟨[Sv (txt (runZ m K.toNat (numS a))), Nv 0], ⟨⟨4, .var 9 [Sv (txt (runZ m K.toNat (numS a)))], rfl, rfl, rfl, Or.inr ⟨f144_, _, rfl, AV.le_refl _⟩⟩, ⟨5, .var 27 [Nv 0], rfl, rfl, rfl, Or.inr ⟨f150_, _, rfl, AV.le_refl _⟩⟩, trivial⟩, rfl, ?_⟩ rfl rfl
       refine tup_eq2 (by unfold runS; rw [if_pos ⟨hm', ha', by omega, by omega⟩, toldS, if_pos hfit]) (by unfold runE; rw [if_pos ⟨hm', ha'⟩, if_pos (by omega), toldE, if_pos hfit])

end Go.Proofs.YtjbaamfahkjhgaaGreatDoor

set_option linter.unusedVariables false
set_option linter.unusedSimpArgs false
namespace Go.Proofs.YtjbaamfahkjhgaaGreatDoor
open Go Go.Ab Go.Mth
theorem f154_ : tyField cx.P 38 0 = some (0, 9) := by kernel_rfl
theorem f155_ : tyField cx.P 38 1 = some (1, 9) := by kernel_rfl
theorem f156_ : tyField cx.P 38 2 = some (2, 9) := by kernel_rfl
theorem c_oApply (l : LineS) (a : ByteArray) (h1m : l.mul.size ≤ 9223372036854775807) (h2m : l.add.size ≤ 9223372036854775807) (h3m : l.div.size ≤ 9223372036854775807) (ha : a.size ≤ 9223372036854775807) : ECalls cx 32 [.agg [Sv (l.mul), Sv (l.add), Sv (l.div)], Sv a] (.tup [.lit (.string (appS l a)), bp (AppB l a), nm .i64 (appE l a)]) := by
 refine ecalls_of_awp Tryz.func32 (c := _) rfl (Nat.le_of_ble_eq_true rfl) ?_
 show awp cx 66 _ (postF cx Tryz.f32 _) ⟨[(0, .agg [Sv (l.mul), Sv (l.add), Sv (l.div)]), (1, Sv a)], []⟩
 refine awp_seq fun K0 hK0 => ?_
 refine awp_region rfl ?_
 refine o_box 2 [Sv (l.mul), Sv (l.add), Sv (l.div)] Gd.none rfl rfl ?_
 refine o_as (Sv Ev) rfl ?_
 refine o_as Fv rfl ?_
 refine o_as (Nv 0) rfl ?_
 refine aops_end ?_
 refine hK0 _ ?_
 refine awp_seq fun K1 hK1 => ?_
 refine awp_seq fun K2 hK2 => ?_
 refine awp_region rfl ?_
 refine o_fieldRef 0 Gd.none f154_ rfl rfl ?_
 refine o_loadS (Sv (l.mul)) Gd.none f144_ rfl rfl rfl ?_
 refine o_ct (c_nValid (l.mul) (by first | assumption | decide | omega)) Gd.none f137_ rfl ?_
 refine o_not (b := okS (l.mul)) Gd.none rfl ?_
 refine o_mv (.lit (.bool (!(okS (l.mul))))) rfl ?_
 refine o_split (b := !(okS (l.mul))) 15 rfl (fun h1 => ?_) (fun h1 => ?_)
 ·have k1 : okS l.mul = false := by simpa using h1
  refine o_skip rfl rfl h1 ?_
  refine o_skip rfl rfl h1 ?_
  refine o_skip rfl rfl h1 ?_
  refine o_skip rfl rfl h1 ?_
  refine o_pickT Tv Gd.none rfl h1 rfl ?_
  refine o_mv Tv rfl ?_
  refine o_skip rfl rfl rfl ?_
  refine o_skip rfl rfl rfl ?_
  refine o_skip rfl rfl rfl ?_
  refine o_skip rfl rfl rfl ?_
  refine o_pickT Tv Gd.none rfl rfl rfl ?_
  refine o_mv Tv rfl ?_
  refine o_skip rfl rfl rfl ?_
  refine o_skip rfl rfl rfl ?_
  refine o_skip rfl rfl rfl ?_
  refine o_pickT Tv Gd.none rfl rfl rfl ?_
  refine aops_end ?_
  refine hK2 _ ?_
  refine awp_condB (b := true) rfl (fun _ => ?_) (fun hh => absurd (hh.symm.trans rfl) (by decide))
  refine awp_seq fun K3 hK3 => ?_
  refine awp_region rfl ?_
  refine o_as (Sv Ev) rfl ?_
  refine o_as Fv rfl ?_
  refine o_as (Nv 1) rfl ?_
  refine aops_end ?_
  refine hK3 _ ?_
  refine awp_ret ?_
  refine post_ret ⟨[Sv Ev, Fv, Nv 1], ⟨AV.le_refl _, AV.le_refl _, AV.le_refl _, trivial⟩, rfl, ?_⟩
  have e := app_1 (l := l) (a := a) (fun e => by have := e.1; unfold okL at this; rw [k1] at this; simp at this)
  exact tup_eq3 (str_as e.2.2) (bp_no e.2.1) (congrArg (nm _) e.1)
 ·have k1 : okS l.mul = true := by simpa using h1
  refine o_fieldRef 1 (Gd.yes rfl rfl h1) f155_ rfl rfl ?_
  refine o_loadS (Sv (l.add)) (Gd.yes rfl rfl h1) f144_ rfl rfl rfl ?_
  refine o_ct (c_nValid (l.add) (by first | assumption | decide | omega)) (Gd.yes rfl rfl h1) f137_ rfl ?_
  refine o_not (b := okS (l.add)) (Gd.yes rfl rfl h1) rfl ?_
  refine o_pickF (.lit (.bool (!(okS (l.add))))) Gd.none rfl h1 rfl ?_
  refine o_mv (.lit (.bool (!(okS (l.add))))) rfl ?_
  refine o_split (b := !(okS (l.add))) 21 rfl (fun h2 => ?_) (fun h2 => ?_)
  ·have k2 : okS l.add = false := by simpa using h2
   refine o_skip rfl rfl h2 ?_
   refine o_skip rfl rfl h2 ?_
   refine o_skip rfl rfl h2 ?_
   refine o_skip rfl rfl h2 ?_
   refine o_pickT Tv Gd.none rfl h2 rfl ?_
   refine o_mv Tv rfl ?_
   refine o_skip rfl rfl rfl ?_
   refine o_skip rfl rfl rfl ?_
   refine o_skip rfl rfl rfl ?_
   refine o_pickT Tv Gd.none rfl rfl rfl ?_
   refine aops_end ?_
   refine hK2 _ ?_
   refine awp_condB (b := true) rfl (fun _ => ?_) (fun hh => absurd (hh.symm.trans rfl) (by decide))
   refine awp_seq fun K4 hK4 => ?_
   refine awp_region rfl ?_
   refine o_as (Sv Ev) rfl ?_
   refine o_as Fv rfl ?_
   refine o_as (Nv 1) rfl ?_
   refine aops_end ?_
   refine hK4 _ ?_
   refine awp_ret ?_
   refine post_ret ⟨[Sv Ev, Fv, Nv 1], ⟨AV.le_refl _, AV.le_refl _, AV.le_refl _, trivial⟩, rfl, ?_⟩
   have e := app_1 (l := l) (a := a) (fun e => by have := e.1; unfold okL at this; rw [k2] at this; simp at this)
   exact tup_eq3 (str_as e.2.2) (bp_no e.2.1) (congrArg (nm _) e.1)
  ·have k2 : okS l.add = true := by simpa using h2
   refine o_fieldRef 2 (Gd.yes rfl rfl h2) f156_ rfl rfl ?_
   refine o_loadS (Sv (l.div)) (Gd.yes rfl rfl h2) f144_ rfl rfl rfl ?_
   refine o_ct (c_nValid (l.div) (by first | assumption | decide | omega)) (Gd.yes rfl rfl h2) f137_ rfl ?_
   refine o_not (b := okS (l.div)) (Gd.yes rfl rfl h2) rfl ?_
   refine o_pickF (.lit (.bool (!(okS (l.div))))) Gd.none rfl h2 rfl ?_
   refine o_mv (.lit (.bool (!(okS (l.div))))) rfl ?_
   refine o_split (b := !(okS (l.div))) 27 rfl (fun h3 => ?_) (fun h3 => ?_)
   ·have k3 : okS l.div = false := by simpa using h3
    refine o_skip rfl rfl h3 ?_
    refine o_skip rfl rfl h3 ?_
    refine o_skip rfl rfl h3 ?_
    refine o_pickT Tv Gd.none rfl h3 rfl ?_
    refine aops_end ?_
    refine hK2 _ ?_
    refine awp_condB (b := true) rfl (fun _ => ?_) (fun hh => absurd (hh.symm.trans rfl) (by decide))
    refine awp_seq fun K5 hK5 => ?_
    refine awp_region rfl ?_
    refine o_as (Sv Ev) rfl ?_
    refine o_as Fv rfl ?_
    refine o_as (Nv 1) rfl ?_
    refine aops_end ?_
    refine hK5 _ ?_
    refine awp_ret ?_
    refine post_ret ⟨[Sv Ev, Fv, Nv 1], ⟨AV.le_refl _, AV.le_refl _, AV.le_refl _, trivial⟩, rfl, ?_⟩
    have e := app_1 (l := l) (a := a) (fun e => by have := e.1; unfold okL at this; rw [k3] at this; simp at this)
    exact tup_eq3 (str_as e.2.2) (bp_no e.2.1) (congrArg (nm _) e.1)
   ·have k3 : okS l.div = true := by simpa using h3
    refine o_move (Sv a) (Gd.yes rfl rfl h3) rfl ?_
    refine o_ct (c_nValid a (by first | assumption | decide | omega)) (Gd.yes rfl rfl h3) f137_ rfl ?_
    refine o_not (b := okS a) (Gd.yes rfl rfl h3) rfl ?_
    refine o_pickF (.lit (.bool (!(okS a)))) Gd.none rfl h3 rfl ?_
    refine aops_end ?_
    refine hK2 _ ?_
    refine awp_condB (b := !(okS a)) rfl (fun h4 => ?_) (fun h4 => ?_)
    ·have k4 : okS a = false := by simpa using h4
     refine awp_seq fun K6 hK6 => ?_
     refine awp_region rfl ?_
     refine o_as (Sv Ev) rfl ?_
     refine o_as Fv rfl ?_
     refine o_as (Nv 1) rfl ?_
     refine aops_end ?_
     refine hK6 _ ?_
     refine awp_ret ?_
     refine post_ret ⟨[Sv Ev, Fv, Nv 1], ⟨AV.le_refl _, AV.le_refl _, AV.le_refl _, trivial⟩, rfl, ?_⟩
     have e := app_1 (l := l) (a := a) (fun e => by rw [k4] at e; simp at e)
     exact tup_eq3 (str_as e.2.2) (bp_no e.2.1) (congrArg (nm _) e.1)
    ·have k4 : okS a = true := by simpa using h4
     have ho : okL l = true ∧ okS a = true := ⟨by unfold okL; rw [k1, k2, k3]; rfl, k4⟩
     have s1 := len_numS (okS_iff.1 k1)
     have s2 := len_numS (okS_iff.1 k2)
     have s3 := len_numS (okS_iff.1 k3)
     have s4 := len_numS (okS_iff.1 k4)
     have hA := len_mulZ (numS l.mul) (numS a)
     have hB := len_addZ (numS l.mul * numS a) (numS l.add)
     refine awp_skip ?_
     refine hK1 _ ?_
     refine awp_seq fun K7 hK7 => ?_
     refine awp_seq fun K8 hK8 => ?_
     refine awp_region rfl ?_
     refine o_loadA [Sv (l.mul), Sv (l.add), Sv (l.div)] Gd.none f90_ rfl rfl rfl rfl rfl ?_
     refine o_build [(Sv (({data := #[49]} : ByteArray))), (Sv (({data := #[48]} : ByteArray))), (Sv (({data := #[49]} : ByteArray)))] [(0, [(Sv (({data := #[49]} : ByteArray)))]), (1, [(Sv (({data := #[48]} : ByteArray)))]), (2, [(Sv (({data := #[49]} : ByteArray)))])] Gd.none f88_ f86_ rfl rfl rfl ?_
     refine o_eqlA [.string (l.mul), .string (l.add), .string (l.div)] [.string (({data := #[49]} : ByteArray)), .string (({data := #[48]} : ByteArray)), .string (({data := #[49]} : ByteArray))] ((l.mul) = (({data := #[49]} : ByteArray)) ∧ (l.add) = (({data := #[48]} : ByteArray)) ∧ (l.div) = (({data := #[49]} : ByteArray))) Gd.none rfl rfl (eq_api_Line _ _ _ _ _ _) ?_
     refine aops_end ?_
     refine hK8 _ ?_
     refine awp_condQ (q := (l.mul) = (({data := #[49]} : ByteArray)) ∧ (l.add) = (({data := #[48]} : ByteArray)) ∧ (l.div) = (({data := #[49]} : ByteArray))) rfl (fun h5 => ?_) (fun h5 => ?_)
     ·refine awp_seq fun K9 hK9 => ?_
      refine awp_region rfl ?_
      refine o_mv (Sv a) rfl ?_
      refine o_as (Sv a) rfl ?_
      refine o_as Tv rfl ?_
      refine o_as (Nv 0) rfl ?_
      refine aops_end ?_
      refine hK9 _ ?_
      refine awp_ret ?_
      refine post_ret ⟨[Sv a, Tv, Nv 0], ⟨AV.le_refl _, AV.le_refl _, AV.le_refl _, trivial⟩, rfl, ?_⟩
      have e := app_one ho h5.1 h5.2.1 h5.2.2
      exact tup_eq3 (str_as e.2.2) (bp_yes e.2.1) (congrArg (nm _) e.1)
     ·refine awp_skip ?_
      refine hK7 _ ?_
      refine awp_seq fun K10 hK10 => ?_
      refine awp_region rfl ?_
      refine o_fieldRef 2 Gd.none f156_ rfl rfl ?_
      refine o_loadS (Sv (l.div)) Gd.none f144_ rfl rfl rfl ?_
      refine o_ct (c_wParse (l.div) (by first | assumption | exact okS_iff.1 (by assumption))) Gd.none f138_ rfl ?_
      refine o_alloc 3 [Fv, Zv] Gd.none f15_ rfl rfl rfl ?_
      refine o_store [(3, oZ 79 .u32 ((numS (l.div)))), (2, .var 38 [Sv (l.mul), Sv (l.add), Sv (l.div)])] Gd.none f19_ rfl rfl rfl rfl rfl rfl ?_
      refine aops_end ?_
      refine hK10 _ ?_
      refine awp_seq fun K11 hK11 => ?_
      refine awp_seq fun K12 hK12 => ?_
      refine awp_region rfl ?_
      refine o_loadA [bp ((numS (l.div)) < 0), .sl 1 (ns .u32 (digs ((numS (l.div))).natAbs))] Gd.none f20_ rfl rfl rfl rfl rfl ?_
      refine o_ct (c_wSign ((numS (l.div)))) Gd.none f23_ rfl ?_
      refine o_leq (a := (sgn ((numS (l.div))))) (c := (((0 : Nat) : Int))) Gd.none rfl rfl ?_
      refine aops_end ?_
      refine hK12 _ ?_
      refine awp_condQ (q := (sgn ((numS (l.div)))) ≤ (((0 : Nat) : Int))) rfl (fun h6 => ?_) (fun h6 => ?_)
      ·have hd : ¬ 0 < numS l.div := by have := sgn_le.1 h6; omega
       refine awp_seq fun K13 hK13 => ?_
       refine awp_region rfl ?_
       refine o_as (Sv Ev) rfl ?_
       refine o_as Fv rfl ?_
       refine o_as (Nv 2) rfl ?_
       refine aops_end ?_
       refine hK13 _ ?_
       refine awp_ret ?_
       refine post_ret ⟨[Sv Ev, Fv, Nv 2], ⟨AV.le_refl _, AV.le_refl _, AV.le_refl _, trivial⟩, rfl, ?_⟩
       have e := app_2 ho hd
       exact tup_eq3 (str_as e.2.2) (bp_no e.2.1) (congrArg (nm _) e.1)
      ·have hd : 0 < numS l.div := by rcases Int.lt_or_le 0 (numS l.div) with e | e; exact e; exact absurd (sgn_le.2 e) h6
       have hE := len_ediv (numS l.mul * numS a + numS l.add) hd
       refine awp_skip ?_
       refine hK11 _ ?_
       refine awp_seq fun K14 hK14 => ?_
       refine awp_regionD rfl ?_
       refine o_fieldRef 0 Gd.none f154_ rfl rfl ?_
       refine o_loadS (Sv (l.mul)) Gd.none f144_ rfl rfl rfl ?_
       refine o_ct (c_wParse (l.mul) (by first | assumption | exact okS_iff.1 (by assumption))) Gd.none f138_ rfl ?_
       refine o_mv (Sv a) rfl ?_
       refine o_ct (c_wParse a (by first | assumption | exact okS_iff.1 (by assumption))) Gd.none f138_ rfl ?_
       refine o_ct (c_wMul ((numS (l.mul))) ((numS a)) (by first | omega | assumption | (simp only [Int.natAbs_neg]; omega)) (by first | omega | assumption | (simp only [Int.natAbs_neg]; omega))) Gd.none f68_ rfl ?_
       refine o_fieldRef 1 Gd.none f155_ rfl rfl ?_
       refine o_loadS (Sv (l.add)) Gd.none f144_ rfl rfl rfl ?_
       refine o_ct (c_wParse (l.add) (by first | assumption | exact okS_iff.1 (by assumption))) Gd.none f138_ rfl ?_
       refine o_ct (c_wAdd (((numS (l.mul)) * (numS a))) ((numS (l.add))) (by first | omega | assumption | (simp only [Int.natAbs_neg]; omega)) (by first | omega | assumption | (simp only [Int.natAbs_neg]; omega))) Gd.none f38_ rfl ?_
       refine o_alloc 4 [Fv, Zv] Gd.none f15_ rfl rfl rfl ?_
       refine o_store [(4, oZ 79 .u32 ((((numS (l.mul)) * (numS a)) + (numS (l.add))))), (3, oZ 79 .u32 ((numS (l.div)))), (2, .var 38 [Sv (l.mul), Sv (l.add), Sv (l.div)])] Gd.none f19_ rfl rfl rfl rfl rfl rfl ?_
       refine aops_end ⟨by kernel_rfl, ?_⟩
       refine hK14 _ ?_
       refine awp_seq fun K15 hK15 => ?_
       refine awp_seq fun K16 hK16 => ?_
       refine awp_region rfl ?_
       refine o_loadA [bp ((((numS (l.mul)) * (numS a)) + (numS (l.add))) < 0), .sl 1 (ns .u32 (digs ((((numS (l.mul)) * (numS a)) + (numS (l.add)))).natAbs))] Gd.none f20_ rfl rfl rfl rfl rfl ?_
       refine o_ct (c_wDigits ((((numS (l.mul)) * (numS a)) + (numS (l.add)))) (by first | omega | assumption | (simp only [Int.natAbs_neg]; omega))) Gd.none f69_ rfl ?_
       refine n_gtr (ndig ((((numS (l.mul)) * (numS a)) + (numS (l.add)))).natAbs) 2000 Gd.none rfl rfl ?_
       refine aops_end ?_
       refine hK16 _ ?_
       refine awp_condQ (q := 2000 < (ndig ((((numS (l.mul)) * (numS a)) + (numS (l.add)))).natAbs)) rfl (fun h7 => ?_) (fun h7 => ?_)
       ·have hf : ¬ Fit (appV l a) := by unfold Fit appV; omega
        refine awp_seq fun K17 hK17 => ?_
        refine awp_region rfl ?_
        refine o_as (Sv Ev) rfl ?_
        refine o_as Fv rfl ?_
        refine o_as (Nv 3) rfl ?_
        refine aops_end ?_
        refine hK17 _ ?_
        refine awp_ret ?_
        refine post_ret ⟨[Sv Ev, Fv, Nv 3], ⟨AV.le_refl _, AV.le_refl _, AV.le_refl _, trivial⟩, rfl, ?_⟩
        have e := app_3 ho hd hf
        exact tup_eq3 (str_as e.2.2) (bp_no e.2.1) (congrArg (nm _) e.1)
       ·have hf : Fit (appV l a) := by unfold Fit appV; omega
        refine awp_skip ?_
        refine hK15 _ ?_
        refine awp_seq fun K18 hK18 => ?_
        refine awp_region rfl ?_
        refine o_loadA [bp ((((numS (l.mul)) * (numS a)) + (numS (l.add))) < 0), .sl 1 (ns .u32 (digs ((((numS (l.mul)) * (numS a)) + (numS (l.add)))).natAbs))] Gd.none f20_ rfl rfl rfl rfl rfl ?_
        refine o_loadA [bp ((numS (l.div)) < 0), .sl 1 (ns .u32 (digs ((numS (l.div))).natAbs))] Gd.none f20_ rfl rfl rfl rfl rfl ?_
        refine o_ct (c_wDivide ((((numS (l.mul)) * (numS a)) + (numS (l.add)))) ((numS (l.div))) (by omega) (by omega) (by omega)) Gd.none f94_ rfl ?_
        refine o_mv (.tup [intW (((((numS (l.mul)) * (numS a)) + (numS (l.add))) / (numS (l.div)))), intW (((((numS (l.mul)) * (numS a)) + (numS (l.add))) % (numS (l.div))))]) rfl ?_
        refine o_extract (intW (((((numS (l.mul)) * (numS a)) + (numS (l.add))) / (numS (l.div))))) Gd.none rfl rfl ?_
        refine o_extract (intW (((((numS (l.mul)) * (numS a)) + (numS (l.add))) % (numS (l.div))))) Gd.none rfl rfl ?_
        refine o_alloc 5 [Fv, Zv] Gd.none f15_ rfl rfl rfl ?_
        refine o_alloc 6 [Fv, Zv] Gd.none f15_ rfl rfl rfl ?_
        refine o_store [(6, .var 79 [Fv, Zv]), (5, oZ 79 .u32 (((((numS (l.mul)) * (numS a)) + (numS (l.add))) / (numS (l.div))))), (4, oZ 79 .u32 ((((numS (l.mul)) * (numS a)) + (numS (l.add))))), (3, oZ 79 .u32 ((numS (l.div)))), (2, .var 38 [Sv (l.mul), Sv (l.add), Sv (l.div)])] Gd.none f19_ rfl rfl rfl rfl rfl rfl ?_
        refine o_store [(6, oZ 79 .u32 (((((numS (l.mul)) * (numS a)) + (numS (l.add))) % (numS (l.div))))), (5, oZ 79 .u32 (((((numS (l.mul)) * (numS a)) + (numS (l.add))) / (numS (l.div))))), (4, oZ 79 .u32 ((((numS (l.mul)) * (numS a)) + (numS (l.add))))), (3, oZ 79 .u32 ((numS (l.div)))), (2, .var 38 [Sv (l.mul), Sv (l.add), Sv (l.div)])] Gd.none f19_ rfl rfl rfl rfl rfl rfl ?_
        refine aops_end ?_
        refine hK18 _ ?_
        refine awp_seq fun K19 hK19 => ?_
        refine awp_seq fun K20 hK20 => ?_
        refine awp_region rfl ?_
        refine o_loadA [bp (((((numS (l.mul)) * (numS a)) + (numS (l.add))) % (numS (l.div))) < 0), .sl 1 (ns .u32 (digs (((((numS (l.mul)) * (numS a)) + (numS (l.add))) % (numS (l.div)))).natAbs))] Gd.none f20_ rfl rfl rfl rfl rfl ?_
        refine o_ct (c_wSign (((((numS (l.mul)) * (numS a)) + (numS (l.add))) % (numS (l.div))))) Gd.none f23_ rfl ?_
        refine o_neq (a := (sgn (((((numS (l.mul)) * (numS a)) + (numS (l.add))) % (numS (l.div)))))) (c := (((0 : Nat) : Int))) Gd.none rfl rfl ?_
        refine aops_end ?_
        refine hK20 _ ?_
        refine awp_condQ (q := (sgn (((((numS (l.mul)) * (numS a)) + (numS (l.add))) % (numS (l.div))))) ≠ (((0 : Nat) : Int))) rfl (fun h8 => ?_) (fun h8 => ?_)
        ·have hr : ¬ appV l a % numS l.div = 0 := fun e => h8 (sgn_z0.2 e)
         refine awp_seq fun K21 hK21 => ?_
         refine awp_region rfl ?_
         refine o_as (Sv Ev) rfl ?_
         refine o_as Fv rfl ?_
         refine o_as (Nv 0) rfl ?_
         refine aops_end ?_
         refine hK21 _ ?_
         refine awp_ret ?_
         refine post_ret ⟨[Sv Ev, Fv, Nv 0], ⟨AV.le_refl _, AV.le_refl _, AV.le_refl _, trivial⟩, rfl, ?_⟩
         have e := app_no ho hd hf hr
         exact tup_eq3 (str_as e.2.2) (bp_no e.2.1) (congrArg (nm _) e.1)
        ·have hr : appV l a % numS l.div = 0 := sgn_z0.1 (Decidable.not_not.1 h8)
         refine awp_skip ?_
         refine hK19 _ ?_
         refine awp_seq fun K22 hK22 => ?_
         refine awp_region rfl ?_
         refine o_loadA [bp (((((numS (l.mul)) * (numS a)) + (numS (l.add))) / (numS (l.div))) < 0), .sl 1 (ns .u32 (digs (((((numS (l.mul)) * (numS a)) + (numS (l.add))) / (numS (l.div)))).natAbs))] Gd.none f20_ rfl rfl rfl rfl rfl ?_
         refine o_ct (c_wText (((((numS (l.mul)) * (numS a)) + (numS (l.add))) / (numS (l.div)))) (by first | omega | assumption | (simp only [Int.natAbs_neg]; omega))) Gd.none f87_ rfl ?_
         refine o_as (Sv (txt (((((numS (l.mul)) * (numS a)) + (numS (l.add))) / (numS (l.div)))))) rfl ?_
         refine o_as Tv rfl ?_
         refine o_as (Nv 0) rfl ?_
         refine aops_end ?_
         refine hK22 _ ?_
         refine awp_ret ?_
         refine post_ret ⟨[Sv (txt (((((numS (l.mul)) * (numS a)) + (numS (l.add))) / (numS (l.div))))), Tv, Nv 0], ⟨AV.le_refl _, AV.le_refl _, AV.le_refl _, trivial⟩, rfl, ?_⟩
         have e := app_yes ho hd hf hr
         exact tup_eq3 (str_as e.2.2) (bp_yes e.2.1) (congrArg (nm _) e.1)

end Go.Proofs.YtjbaamfahkjhgaaGreatDoor

set_option linter.unusedVariables false
set_option linter.unusedSimpArgs false
namespace Go.Proofs.YtjbaamfahkjhgaaGreatDoor
open Go Go.Ab Go.Mth
theorem f157_ : callable cx.P 14 = true := by kernel_rfl
theorem f158_ : callable cx.P 13 = true := by kernel_rfl
theorem f159_ : callable cx.P 18 = true := by kernel_rfl
theorem f160_ : callable cx.P 20 = true := by kernel_rfl
theorem f161_ : callable cx.P 27 = true := by kernel_rfl
theorem f162_ : callable cx.P 29 = true := by kernel_rfl
theorem f163_ : callable cx.P 31 = true := by kernel_rfl
theorem f164_ : tyField cx.P 40 2 = some (2, 38) := by kernel_rfl
theorem f165_ : callable cx.P 32 = true := by kernel_rfl
theorem f166_ : callable cx.P 33 = true := by kernel_rfl
theorem c_SieveExact (m : MapM) (n : ByteArray) (k : Int) (hn : n.size ≤ 9223372036854775807) (h1m : m.mul.length ≤ 17592186044416) (h2m : m.add.length ≤ 17592186044416) (hkb : -9223372036854775808 ≤ k ∧ k ≤ 9223372036854775807) : ECalls cx 7 [mapV m, Sv n, Iv k] (.lit (.bool true)) := by
 refine ecalls_of_awp Tryz.func7 (c := _) rfl (Nat.le_of_ble_eq_true rfl) ?_
 show awp cx 133 _ (postF cx Tryz.f7 _) ⟨[(0, mapV m), (1, Sv n), (2, Iv k)], []⟩
 refine awp_seq fun K0 hK0 => ?_
 refine awp_region rfl ?_
 refine o_box 2 [Iv m.mod, Lv m.mul, Lv m.add] Gd.none rfl rfl ?_
 refine o_as Fv rfl ?_
 refine aops_end ?_
 refine hK0 _ ?_
 refine awp_seq fun K1 hK1 => ?_
 refine awp_seq fun K2 hK2 => ?_
 refine awp_region rfl ?_
 refine o_loadA [Iv m.mod, Lv m.mul, Lv m.add] Gd.none f64_ rfl rfl rfl rfl rfl ?_
 refine o_mv (Iv k) rfl ?_
 refine o_ct (c_may m k (by first | assumption | omega)) Gd.none f157_ rfl ?_
 refine o_notP (q := okM m = true ∧ mayS m k) Gd.none rfl ?_
 refine o_mv (bp (¬ (okM m = true ∧ mayS m k))) rfl ?_
 refine o_splitP (q := ¬ (okM m = true ∧ mayS m k)) 22 rfl (fun h1 => ?_) (fun h1 => ?_)
 ·refine o_skip rfl rfl (decide_eq_true h1) ?_
  refine o_skip rfl rfl (decide_eq_true h1) ?_
  refine o_skip rfl rfl (decide_eq_true h1) ?_
  refine o_pickT Tv Gd.none rfl (decide_eq_true h1) rfl ?_
  refine aops_end ?_
  refine hK2 _ ?_
  refine awp_condB (b := true) rfl (fun _ => ?_) (fun hh => absurd (hh.symm.trans rfl) (by decide))
  refine awp_seq fun K3 hK3 => ?_
  refine awp_region rfl ?_
  refine o_ct c_awake4 Gd.none f158_ rfl ?_
  refine o_as Tv rfl ?_
  refine aops_end ?_
  refine hK3 _ ?_
  refine awp_ret ?_
  refine post_ret ⟨[Tv], ⟨AV.le_refl _, trivial⟩, rfl, ?_⟩
  rfl
 ·refine o_move (Sv n) (Gd.yes rfl rfl (decide_eq_false h1)) rfl ?_
  refine o_ct (c_rValid n (by first | assumption | decide | omega)) (Gd.yes rfl rfl (decide_eq_false h1)) f159_ rfl ?_
  refine o_not (b := okS n) (Gd.yes rfl rfl (decide_eq_false h1)) rfl ?_
  refine o_pickF (.lit (.bool (!(okS n)))) Gd.none rfl (decide_eq_false h1) rfl ?_
  refine aops_end ?_
  refine hK2 _ ?_
  refine awp_condB (b := !(okS n)) rfl (fun h2 => ?_) (fun h2 => ?_)
  ·refine awp_seq fun K4 hK4 => ?_
   refine awp_region rfl ?_
   refine o_ct c_awake4 Gd.none f158_ rfl ?_
   refine o_as Tv rfl ?_
   refine aops_end ?_
   refine hK4 _ ?_
   refine awp_ret ?_
   refine post_ret ⟨[Tv], ⟨AV.le_refl _, trivial⟩, rfl, ?_⟩
   rfl
  ·refine awp_skip ?_
   refine hK1 _ ?_
   refine awp_seq fun K5 hK5 => ?_
   have hmm := Decidable.not_not.1 (show ¬ ¬ (okM m = true ∧ mayS m k) by assumption)
   have ho : okS n = true := by have q := h2; simpa using q
   have hM' := hmm.1
   have hmy := hmm.2
   have hd := fd_0 (m := m) (a := n) (k := k) ⟨hM', ho⟩ hmy
   have hM := okM_iff.1 hM'
   have hnl := len_numS (okS_iff.1 ho)
   have hk1 := hmy.2.1
   have hk16 := may_16 hM hmy.2.2
   have hM2 := hM
   obtain ⟨o1, o2, o3, o4, o5⟩ := hM2
   refine awp_region rfl ?_
   refine o_loadA [Iv m.mod, Lv m.mul, Lv m.add] Gd.none f64_ rfl rfl rfl rfl rfl ?_
   refine o_mv (Sv n) rfl ?_
   refine o_mv (Iv k) rfl ?_
   refine o_ct (c_sFind m n k (by first | assumption | decide | omega) (by first | assumption | decide | omega)) Gd.none f142_ rfl ?_
   refine o_mv (.tup [falV (fdF m n k), bp (fdB m n k), Nv (fdE m n k)]) rfl ?_
   refine o_extract (falV (fdF m n k)) Gd.none rfl rfl ?_
   refine o_extract (bp (fdB m n k)) Gd.none rfl rfl ?_
   refine o_extract (Nv (fdE m n k)) Gd.none rfl rfl ?_
   refine o_alloc 3 [Nv 0, Nv 0, Sv Ev, Sv Ev, Sv Ev, Sv Ev] Gd.none f93_ rfl rfl rfl ?_
   refine o_store [(3, .var 40 [Iv ((fdF m n k).steps), Iv ((fdF m n k).rest), Sv ((fdF m n k).lmul), Sv ((fdF m n k).ladd), Sv ((fdF m n k).ldiv), Sv ((fdF m n k).bound)]), (2, oM 24 m)] Gd.none f97_ rfl rfl rfl rfl rfl rfl ?_
   refine o_as (bp (fdB m n k)) rfl ?_
   refine o_as (Nv (fdE m n k)) rfl ?_
   refine aops_end ?_
   refine hK5 _ ?_
   refine awp_seq fun K6 hK6 => ?_
   refine awp_seq fun K7 hK7 => ?_
   refine awp_region rfl ?_
   refine o_mv (Nv (fdE m n k)) rfl ?_
   refine n_as (v' := (Nv 0)) (by exact congrArg (nm _) hd.1) ?_
   refine n_neq 0 0 Gd.none rfl rfl ?_
   refine n_as (v' := Fv) (by exact bpn (fun h => h rfl)) ?_
   refine o_mv Fv rfl ?_
   refine o_move (bp (fdB m n k)) (Gd.yes rfl rfl rfl) rfl ?_
   refine n_as (v' := (bp (fndB m (numS n) k.toNat))) (by exact bpc hd.2.2) ?_
   refine o_notP (q := fndB m (numS n) k.toNat) (Gd.yes rfl rfl rfl) rfl ?_
   refine o_pickF (bp (¬ (fndB m (numS n) k.toNat))) Gd.none rfl rfl rfl ?_
   refine aops_end ?_
   refine hK7 _ ?_
   refine awp_condQ (q := ¬ (fndB m (numS n) k.toNat)) rfl (fun h3 => ?_) (fun h3 => ?_)
   ·refine awp_seq fun K8 hK8 => ?_
    refine awp_region rfl ?_
    refine o_mv (Nv (fdE m n k)) rfl ?_
    refine n_as (v' := (Nv 0)) (by exact congrArg (nm _) hd.1) ?_
    refine n_eql 0 0 Gd.none rfl rfl ?_
    refine n_as (v' := Tv) (by exact bpy rfl) ?_
    refine o_mv Tv rfl ?_
    refine o_ct c_awake4 (Gd.yes rfl rfl rfl) f158_ rfl ?_
    refine o_pickT Tv Gd.none rfl rfl rfl ?_
    refine o_as Tv rfl ?_
    refine aops_end ?_
    refine hK8 _ ?_
    refine awp_ret ?_
    refine post_ret ⟨[Tv], ⟨AV.le_refl _, trivial⟩, rfl, ?_⟩
    rfl
   ·refine awp_skip ?_
    refine hK6 _ ?_
    refine awp_seq fun K9 hK9 => ?_
    refine awp_seq fun K10 hK10 => ?_
    obtain ⟨s, hs1, hs2, hfl, hfd⟩ := fnd_is (m := m) (z := numS n) (k := k.toNat) (show fndB m (numS n) k.toNat by first | assumption | exact Decidable.not_not.1 (by assumption))
    have hF := hd.2.1.trans hfd
    have hBf : Fit (bndZ (lineZ m (wordZ m (numS n) s))) := bnd_fit hM (wordZ_is hM (numS n) s) (by rw [wordZ_len]; omega)
    have hBo : okS (txt (bndZ (lineZ m (wordZ m (numS n) s)))) = true := okS_iff.2 (okS_txt hBf)
    have hBl := fit_len hBf
    have hex := exact_iff hM (numS n) hfl
    have hil := fun i => iter_len hM (numS n) i
    have hrn := exact_run (m := m) (a := n) (s := s) ⟨hM', ho⟩ (by omega)
    have hap := exact_app hM ho (s := s) (by omega)
    obtain ⟨f1, f2, f3⟩ := line_fit hM (wordZ_ok hM (numS n) (k := s) (by omega))
    have s1 := txt_sz f1
    have s2 := txt_sz f2
    have s3 := txt_sz f3
    have s4 := txt_sz hBf
    refine awp_region rfl ?_
    refine o_fieldRef 0 Gd.none f117_ rfl rfl ?_
    refine o_loadS (Iv ((fdF m n k).steps)) Gd.none f11_ rfl rfl rfl ?_
    refine n_as (v' := (Nv s)) (by exact congrArg (fun z => AV.lit (.int .i64 z)) (congrArg Fal.steps hF)) ?_
    refine n_lss s 1 Gd.none rfl rfl ?_
    refine n_as (v' := Fv) (by exact bpn (by omega)) ?_
    refine o_mv Fv rfl ?_
    refine o_fieldRef 0 (Gd.yes rfl rfl rfl) f117_ rfl rfl ?_
    refine o_loadS (Iv ((fdF m n k).steps)) (Gd.yes rfl rfl rfl) f11_ rfl rfl rfl ?_
    refine n_as (v' := (Nv s)) (by exact congrArg (fun z => AV.lit (.int .i64 z)) (congrArg Fal.steps hF)) ?_
    refine o_move (Iv k) (Gd.yes rfl rfl rfl) rfl ?_
    refine o_gtr (a := (((s : Nat) : Int))) (c := k) (Gd.yes rfl rfl rfl) rfl rfl ?_
    refine n_as (v' := Fv) (by exact bpn (by omega)) ?_
    refine o_pickF Fv Gd.none rfl rfl rfl ?_
    refine o_mv Fv rfl ?_
    refine o_fieldRef 5 (Gd.yes rfl rfl rfl) f143_ rfl rfl ?_
    refine o_loadS (Sv ((fdF m n k).bound)) (Gd.yes rfl rfl rfl) f144_ rfl rfl rfl ?_
    refine n_as (v' := (Sv (txt (bndZ (lineZ m (wordZ m (numS n) s)))))) (by exact str_as (congrArg Fal.bound hF)) ?_
    refine o_ct (c_rValid (txt (bndZ (lineZ m (wordZ m (numS n) s)))) (by first | assumption | decide | omega)) (Gd.yes rfl rfl rfl) f159_ rfl ?_
    refine n_as (v' := Tv) (by exact congrArg (fun b => AV.lit (.bool b)) hBo) ?_
    refine o_not (b := true) (Gd.yes rfl rfl rfl) rfl ?_
    refine o_pickF Fv Gd.none rfl rfl rfl ?_
    refine aops_end ?_
    refine hK10 _ ?_
    refine awp_condB (b := false) rfl (fun hh => absurd (hh.symm.trans rfl) (by decide)) (fun _ => ?_)
    refine awp_skip ?_
    refine hK9 _ ?_
    refine awp_seq fun K11 hK11 => ?_
    refine awp_region rfl ?_
    refine o_mv (Sv n) rfl ?_
    refine o_ct (c_rParse n (by first | assumption | exact okS_iff.1 (by assumption))) Gd.none f160_ rfl ?_
    refine o_alloc 4 [Fv, Zv] Gd.none f9_ rfl rfl rfl ?_
    refine o_store [(4, oZ 47 .i64 ((numS n))), (3, .var 40 [Iv ((fdF m n k).steps), Iv ((fdF m n k).rest), Sv ((fdF m n k).lmul), Sv ((fdF m n k).ladd), Sv ((fdF m n k).ldiv), Sv ((fdF m n k).bound)]), (2, oM 24 m)] Gd.none f13_ rfl rfl rfl rfl rfl rfl ?_
    refine aops_end ?_
    refine hK11 _ ?_
    refine awp_seq fun K12 hK12 => ?_
    refine awp_region rfl ?_
    refine o_loadA [bp ((numS n) < 0), .sl 1 (ns .i64 (digs ((numS n)).natAbs))] Gd.none f14_ rfl rfl rfl rfl rfl ?_
    refine o_alloc 5 [Fv, Zv] Gd.none f9_ rfl rfl rfl ?_
    refine o_store [(5, oZ 47 .i64 ((numS n))), (4, oZ 47 .i64 ((numS n))), (3, .var 40 [Iv ((fdF m n k).steps), Iv ((fdF m n k).rest), Sv ((fdF m n k).lmul), Sv ((fdF m n k).ladd), Sv ((fdF m n k).ldiv), Sv ((fdF m n k).bound)]), (2, oM 24 m)] Gd.none f13_ rfl rfl rfl rfl rfl rfl ?_
    refine aops_end ?_
    refine hK12 _ ?_
    refine awp_seq fun K13 hK13 => ?_
    refine awp_seq fun K14 hK14 => ?_
    refine awp_region rfl ?_
    refine o_as (Nv 0) rfl ?_
    refine aops_end ?_
    refine hK14 _ ?_
    refine awp_block ?_
    refine awp_loopR (fun κ σ => ∃ (i : Nat), (i ≤ s) ∧ (s - i) = κ ∧ σ = ⟨[(1, Sv n), (3, .ref 2 0), (7, .ref 3 0), (10, .ref 4 0), (11, .ref 5 0), (12, Nv i)], [(2, oM 24 m), (3, .var 40 [Iv ((fdF m n k).steps), Iv ((fdF m n k).rest), Sv ((fdF m n k).lmul), Sv ((fdF m n k).ladd), Sv ((fdF m n k).ldiv), Sv ((fdF m n k).bound)]), (4, oZ 47 .i64 ((numS n))), (5, oZ 47 .i64 ((iterZ m i (numS n))))]⟩) ⟨_, _, ⟨0, (by omega), rfl, rfl⟩, ?wk0⟩ ?rd0
    case wk0 =>
     exact Wk.sub ⟨rfl, rfl, rfl, rfl, rfl, (by first | rfl | exact nm_int (by omega)), trivial⟩ ⟨rfl, rfl, rfl, rfl, trivial⟩
    rintro κ _ ⟨i, hi, rfl, rfl⟩
    refine awp_seq fun K15 hK15 => ?_
    refine awp_seq fun K16 hK16 => ?_
    refine awp_region rfl ?_
    refine o_mv (Nv i) rfl ?_
    refine o_fieldRef 0 Gd.none f117_ rfl rfl ?_
    refine o_loadS (Iv ((fdF m n k).steps)) Gd.none f11_ rfl rfl rfl ?_
    refine n_as (v' := (Nv s)) (by exact congrArg (fun z => AV.lit (.int .i64 z)) (congrArg Fal.steps hF)) ?_
    refine n_lss i s Gd.none rfl rfl ?_
    refine aops_end ?_
    refine hK16 _ ?_
    refine awp_condQ (q := i < s) rfl (fun h4 => ?_) (fun h4 => ?_)
    ·refine awp_skip ?_
     refine hK15 _ ?_
     refine awp_seq fun K17 hK17 => ?_
     refine awp_block ?_
     have hili := hil i
     refine awp_region rfl ?_
     refine o_loadA [Iv m.mod, Lv m.mul, Lv m.add] Gd.none f64_ rfl rfl rfl rfl rfl ?_
     refine o_loadA [bp ((iterZ m i (numS n)) < 0), .sl 1 (ns .i64 (digs ((iterZ m i (numS n))).natAbs))] Gd.none f14_ rfl rfl rfl rfl rfl ?_
     refine o_ct (c_gStep m ((iterZ m i (numS n))) (by first | assumption | exact okM_iff.1 (by assumption)) (by first | omega | assumption | (simp only [Int.natAbs_neg]; omega))) Gd.none f161_ rfl ?_
     refine n_as (v' := (intR ((iterZ m (i + 1) (numS n))))) (by exact rfl) ?_
     refine o_store [(2, oM 24 m), (3, .var 40 [Iv ((fdF m n k).steps), Iv ((fdF m n k).rest), Sv ((fdF m n k).lmul), Sv ((fdF m n k).ladd), Sv ((fdF m n k).ldiv), Sv ((fdF m n k).bound)]), (4, oZ 47 .i64 ((numS n))), (5, oZ 47 .i64 ((iterZ m (i + 1) (numS n))))] Gd.none f13_ rfl rfl rfl rfl rfl rfl ?_
     refine aops_end ?_
     refine hK17 _ ?_
     refine awp_region rfl ?_
     refine o_mv (Nv i) rfl ?_
     refine n_add i 1 Gd.none rfl rfl (by simp only [topOf]; omega) ?_
     refine o_as (Nv (i + 1)) rfl ?_
     refine aops_end ?_
     refine ⟨_, _, ?lt, ⟨i + 1, (by omega), rfl, rfl⟩, ?wk⟩
     case lt => omega
     case wk => exact Wk.sub ⟨rfl, rfl, rfl, rfl, rfl, (by first | rfl | exact nm_int (by omega)), trivial⟩ ⟨rfl, rfl, rfl, rfl, trivial⟩
    ·refine awp_exit ?_
     refine hK13 _ ?_
     refine awp_seq fun K18 hK18 => ?_
     refine awp_seq fun K19 hK19 => ?_
     have his : i = s := by omega
     have hili := hil i
     refine awp_regionD rfl ?_
     refine o_loadA [bp ((iterZ m i (numS n)) < 0), .sl 1 (ns .i64 (digs ((iterZ m i (numS n))).natAbs))] Gd.none f14_ rfl rfl rfl rfl rfl ?_
     refine o_loadA [bp ((numS n) < 0), .sl 1 (ns .i64 (digs ((numS n)).natAbs))] Gd.none f14_ rfl rfl rfl rfl rfl ?_
     refine o_ct (c_rCmp ((iterZ m i (numS n))) ((numS n))) Gd.none f162_ rfl ?_
     refine o_lss (a := (cmpZ ((iterZ m i (numS n))) ((numS n)))) (c := (((0 : Nat) : Int))) Gd.none rfl rfl ?_
     refine o_loadA [bp ((numS n) < 0), .sl 1 (ns .i64 (digs ((numS n)).natAbs))] Gd.none f14_ rfl rfl rfl rfl rfl ?_
     refine o_fieldRef 5 Gd.none f143_ rfl rfl ?_
     refine o_loadS (Sv ((fdF m n k).bound)) Gd.none f144_ rfl rfl rfl ?_
     refine n_as (v' := (Sv (txt (bndZ (lineZ m (wordZ m (numS n) s)))))) (by exact str_as (congrArg Fal.bound hF)) ?_
     refine o_ct (c_rParse (txt (bndZ (lineZ m (wordZ m (numS n) s)))) (by first | assumption | exact okS_iff.1 (by assumption))) Gd.none f160_ rfl ?_
     refine n_as (v' := (intR ((bndZ (lineZ m (wordZ m (numS n) s)))))) (by exact congrArg intR (numS_txt _)) ?_
     refine o_ct (c_rCmp ((numS n)) ((bndZ (lineZ m (wordZ m (numS n) s))))) Gd.none f162_ rfl ?_
     refine o_gtr (a := (cmpZ ((numS n)) ((bndZ (lineZ m (wordZ m (numS n) s)))))) (c := (((0 : Nat) : Int))) Gd.none rfl rfl ?_
     refine o_neqB (a := (decide ((cmpZ ((iterZ m i (numS n))) ((numS n))) < (((0 : Nat) : Int))))) (c := (decide ((((0 : Nat) : Int)) < (cmpZ ((numS n)) ((bndZ (lineZ m (wordZ m (numS n) s)))))))) Gd.none rfl rfl f30_ ?_
     refine n_as (v' := Fv) (by exact bpn (fun h => h (decide_eq_decide.2 (by rw [his]; exact hex)))) ?_
     refine aops_end ⟨by kernel_rfl, ?_⟩
     refine hK19 _ ?_
     refine awp_condB (b := false) rfl (fun hh => absurd (hh.symm.trans rfl) (by decide)) (fun _ => ?_)
     refine awp_skip ?_
     refine hK18 _ ?_
     refine awp_seq fun K20 hK20 => ?_
     refine awp_region rfl ?_
     refine o_loadA [Iv m.mod, Lv m.mul, Lv m.add] Gd.none f64_ rfl rfl rfl rfl rfl ?_
     refine o_mv (Sv n) rfl ?_
     refine o_fieldRef 0 Gd.none f117_ rfl rfl ?_
     refine o_loadS (Iv ((fdF m n k).steps)) Gd.none f11_ rfl rfl rfl ?_
     refine n_as (v' := (Nv s)) (by exact congrArg (fun z => AV.lit (.int .i64 z)) (congrArg Fal.steps hF)) ?_
     refine o_ct (c_sRun m n (((s : Nat) : Int)) (by first | assumption | decide | omega)) Gd.none f163_ rfl ?_
     refine o_mv (.tup [(Sv (runS m n (((s : Nat) : Int)))), (Nv (runE m n (((s : Nat) : Int))))]) rfl ?_
     refine o_extract (Sv (runS m n (((s : Nat) : Int)))) Gd.none rfl rfl ?_
     refine o_extract (Nv (runE m n (((s : Nat) : Int)))) Gd.none rfl rfl ?_
     refine o_as (Sv (runS m n (((s : Nat) : Int)))) rfl ?_
     refine o_as (Nv (runE m n (((s : Nat) : Int)))) rfl ?_
     refine aops_end ?_
     refine hK20 _ ?_
     refine awp_seq fun K21 hK21 => ?_
     refine awp_region rfl ?_
     refine o_fieldRef 2 Gd.none f164_ rfl rfl ?_
     refine o_loadA [Sv ((fdF m n k).lmul), Sv ((fdF m n k).ladd), Sv ((fdF m n k).ldiv)] Gd.none f90_ rfl rfl rfl rfl rfl ?_
     refine n_as (v' := (.agg [Sv ((lineT (lineZ m (wordZ m (numS n) s))).mul), Sv ((lineT (lineZ m (wordZ m (numS n) s))).add), Sv ((lineT (lineZ m (wordZ m (numS n) s))).div)])) (by exact congrArg (fun f : Fal => AV.agg [.lit (.string f.lmul), .lit (.string f.ladd), .lit (.string f.ldiv)]) hF) ?_
     refine o_mv (Sv n) rfl ?_
     refine o_ct (c_oApply (lineT (lineZ m (wordZ m (numS n) s))) n (by first | assumption | decide | omega) (by first | assumption | decide | omega) (by first | assumption | decide | omega) (by first | assumption | decide | omega)) Gd.none f165_ rfl ?_
     refine o_mv (.tup [Sv (appS (lineT (lineZ m (wordZ m (numS n) s))) n), bp (AppB (lineT (lineZ m (wordZ m (numS n) s))) n), Nv (appE (lineT (lineZ m (wordZ m (numS n) s))) n)]) rfl ?_
     refine o_extract (Sv (appS (lineT (lineZ m (wordZ m (numS n) s))) n)) Gd.none rfl rfl ?_
     refine o_extract (bp (AppB (lineT (lineZ m (wordZ m (numS n) s))) n)) Gd.none rfl rfl ?_
     refine o_extract (Nv (appE (lineT (lineZ m (wordZ m (numS n) s))) n)) Gd.none rfl rfl ?_
     refine o_as (Sv (appS (lineT (lineZ m (wordZ m (numS n) s))) n)) rfl ?_
     refine o_as (bp (AppB (lineT (lineZ m (wordZ m (numS n) s))) n)) rfl ?_
     refine o_as (Nv (appE (lineT (lineZ m (wordZ m (numS n) s))) n)) rfl ?_
     refine aops_end ?_
     refine hK21 _ ?_
     refine awp_seq fun K22 hK22 => ?_
     refine awp_region rfl ?_
     refine o_mv (Nv (runE m n (((s : Nat) : Int)))) rfl ?_
     refine n_eql (runE m n (((s : Nat) : Int))) 3 Gd.none rfl rfl ?_
     refine o_mv (bp ((runE m n (((s : Nat) : Int))) = 3)) rfl ?_
     refine o_splitP (q := (runE m n (((s : Nat) : Int))) = 3) 103 rfl (fun h5 => ?_) (fun h5 => ?_)
     ·refine o_skip rfl rfl (decide_eq_true h5) ?_
      refine o_skip rfl rfl (decide_eq_true h5) ?_
      refine o_skip rfl rfl (decide_eq_true h5) ?_
      refine o_skipU rfl rfl ?_
      refine o_skipU rfl rfl ?_
      refine o_skipU rfl rfl ?_
      refine o_skipU rfl rfl ?_
      refine o_skip rfl rfl (decide_eq_true h5) ?_
      refine o_pickT Tv Gd.none rfl (decide_eq_true h5) rfl ?_
      refine o_mv Tv rfl ?_
      refine o_move (Nv (appE (lineT (lineZ m (wordZ m (numS n) s))) n)) (Gd.yes rfl rfl rfl) rfl ?_
      refine n_eql (appE (lineT (lineZ m (wordZ m (numS n) s))) n) 3 (Gd.yes rfl rfl rfl) rfl rfl ?_
      refine o_move (bp ((appE (lineT (lineZ m (wordZ m (numS n) s))) n) = 3)) (Gd.yes rfl rfl rfl) rfl ?_
      refine o_splitP (q := (appE (lineT (lineZ m (wordZ m (numS n) s))) n) = 3) 116 rfl (fun h6 => ?_) (fun h6 => ?_)
      ·refine o_skip rfl rfl (decide_eq_true h6) ?_
       refine o_skip rfl rfl (decide_eq_true h6) ?_
       refine o_skip rfl rfl (decide_eq_true h6) ?_
       refine o_skipU rfl rfl ?_
       refine o_skip rfl rfl (decide_eq_true h6) ?_
       refine o_skip rfl rfl (decide_eq_true h6) ?_
       refine o_skipU rfl rfl ?_
       refine o_skipU rfl rfl ?_
       refine o_skipU rfl rfl ?_
       refine o_skipU rfl rfl ?_
       refine o_skip rfl rfl (decide_eq_true h6) ?_
       refine o_pickT Tv (Gd.yes rfl rfl rfl) rfl (decide_eq_true h6) rfl ?_
       refine o_pickT Tv Gd.none rfl rfl rfl ?_
       refine o_mv Tv rfl ?_
       refine o_ct c_awake4 (Gd.yes rfl rfl rfl) f158_ rfl ?_
       refine o_pickT Tv Gd.none rfl rfl rfl ?_
       refine o_as Tv rfl ?_
       refine aops_end ?_
       refine hK22 _ ?_
       refine awp_ret ?_
       refine post_ret ⟨[Tv], ⟨AV.le_refl _, trivial⟩, rfl, ?_⟩
       rfl
      ·refine o_move (Nv (appE (lineT (lineZ m (wordZ m (numS n) s))) n)) (Gd.yes rfl rfl (decide_eq_false h6)) rfl ?_
       refine n_eql (appE (lineT (lineZ m (wordZ m (numS n) s))) n) 0 (Gd.yes rfl rfl (decide_eq_false h6)) rfl rfl ?_
       refine n_as (v' := Tv) (by exact bpy (hap.resolve_left (by assumption)).1) ?_
       refine o_move Tv (Gd.yes rfl rfl (decide_eq_false h6)) rfl ?_
       refine o_move (bp (AppB (lineT (lineZ m (wordZ m (numS n) s))) n)) (Gd.yes rfl rfl rfl) rfl ?_
       refine n_as (v' := Tv) (by exact bpy (hap.resolve_left (by assumption)).2.1) ?_
       refine o_pickT Tv (Gd.yes rfl rfl (decide_eq_false h6)) rfl rfl rfl ?_
       refine o_move Tv (Gd.yes rfl rfl (decide_eq_false h6)) rfl ?_
       refine o_move (Sv (appS (lineT (lineZ m (wordZ m (numS n) s))) n)) (Gd.yes rfl rfl rfl) rfl ?_
       refine o_loadA [bp ((iterZ m i (numS n)) < 0), .sl 1 (ns .i64 (digs ((iterZ m i (numS n))).natAbs))] (Gd.yes rfl rfl rfl) f14_ rfl rfl rfl rfl rfl ?_
       refine o_ct (c_rText ((iterZ m i (numS n))) (by first | omega | assumption | (simp only [Int.natAbs_neg]; omega))) (Gd.yes rfl rfl rfl) f166_ rfl ?_
       refine o_eqlS (a := (appS (lineT (lineZ m (wordZ m (numS n) s))) n)) (c := (txt ((iterZ m i (numS n))))) (Gd.yes rfl rfl rfl) rfl rfl ?_
       refine n_as (v' := Tv) (by exact bpy (congrArg ByteArray.toList ((hap.resolve_left (by assumption)).2.2.trans (by rw [his])))) ?_
       refine o_pickT Tv (Gd.yes rfl rfl (decide_eq_false h6)) rfl rfl rfl ?_
       refine o_pickF Tv (Gd.yes rfl rfl rfl) rfl (decide_eq_false h6) rfl ?_
       refine o_pickT Tv Gd.none rfl rfl rfl ?_
       refine o_mv Tv rfl ?_
       refine o_ct c_awake4 (Gd.yes rfl rfl rfl) f158_ rfl ?_
       refine o_pickT Tv Gd.none rfl rfl rfl ?_
       refine o_as Tv rfl ?_
       refine aops_end ?_
       refine hK22 _ ?_
       refine awp_ret ?_
       refine post_ret ⟨[Tv], ⟨AV.le_refl _, trivial⟩, rfl, ?_⟩
       rfl
     ·refine o_move (Nv (runE m n (((s : Nat) : Int)))) (Gd.yes rfl rfl (decide_eq_false h5)) rfl ?_
      refine n_eql (runE m n (((s : Nat) : Int))) 0 (Gd.yes rfl rfl (decide_eq_false h5)) rfl rfl ?_
      refine n_as (v' := Tv) (by exact bpy (hrn.resolve_left (by assumption)).1) ?_
      refine o_move Tv (Gd.yes rfl rfl (decide_eq_false h5)) rfl ?_
      refine o_move (Sv (runS m n (((s : Nat) : Int)))) (Gd.yes rfl rfl rfl) rfl ?_
      refine o_loadA [bp ((iterZ m i (numS n)) < 0), .sl 1 (ns .i64 (digs ((iterZ m i (numS n))).natAbs))] (Gd.yes rfl rfl rfl) f14_ rfl rfl rfl rfl rfl ?_
      refine o_ct (c_rText ((iterZ m i (numS n))) (by first | omega | assumption | (simp only [Int.natAbs_neg]; omega))) (Gd.yes rfl rfl rfl) f166_ rfl ?_
      refine o_eqlS (a := (runS m n (((s : Nat) : Int)))) (c := (txt ((iterZ m i (numS n))))) (Gd.yes rfl rfl rfl) rfl rfl ?_
      refine n_as (v' := Tv) (by exact bpy (congrArg ByteArray.toList ((hrn.resolve_left (by assumption)).2.trans (by rw [his])))) ?_
      refine o_pickT Tv (Gd.yes rfl rfl (decide_eq_false h5)) rfl rfl rfl ?_
      refine o_pickF Tv Gd.none rfl (decide_eq_false h5) rfl ?_
      refine o_mv Tv rfl ?_
      refine o_move (Nv (appE (lineT (lineZ m (wordZ m (numS n) s))) n)) (Gd.yes rfl rfl rfl) rfl ?_
      refine n_eql (appE (lineT (lineZ m (wordZ m (numS n) s))) n) 3 (Gd.yes rfl rfl rfl) rfl rfl ?_
      refine o_move (bp ((appE (lineT (lineZ m (wordZ m (numS n) s))) n) = 3)) (Gd.yes rfl rfl rfl) rfl ?_
      refine o_splitP (q := (appE (lineT (lineZ m (wordZ m (numS n) s))) n) = 3) 116 rfl (fun h7 => ?_) (fun h7 => ?_)
      ·refine o_skip rfl rfl (decide_eq_true h7) ?_
       refine o_skip rfl rfl (decide_eq_true h7) ?_
       refine o_skip rfl rfl (decide_eq_true h7) ?_
       refine o_skipU rfl rfl ?_
       refine o_skip rfl rfl (decide_eq_true h7) ?_
       refine o_skip rfl rfl (decide_eq_true h7) ?_
       refine o_skipU rfl rfl ?_
       refine o_skipU rfl rfl ?_
       refine o_skipU rfl rfl ?_
       refine o_skipU rfl rfl ?_
       refine o_skip rfl rfl (decide_eq_true h7) ?_
       refine o_pickT Tv (Gd.yes rfl rfl rfl) rfl (decide_eq_true h7) rfl ?_
       refine o_pickT Tv Gd.none rfl rfl rfl ?_
       refine o_mv Tv rfl ?_
       refine o_ct c_awake4 (Gd.yes rfl rfl rfl) f158_ rfl ?_
       refine o_pickT Tv Gd.none rfl rfl rfl ?_
       refine o_as Tv rfl ?_
       refine aops_end ?_
       refine hK22 _ ?_
       refine awp_ret ?_
       refine post_ret ⟨[Tv], ⟨AV.le_refl _, trivial⟩, rfl, ?_⟩
       rfl
      ·refine o_move (Nv (appE (lineT (lineZ m (wordZ m (numS n) s))) n)) (Gd.yes rfl rfl (decide_eq_false h7)) rfl ?_
       refine n_eql (appE (lineT (lineZ m (wordZ m (numS n) s))) n) 0 (Gd.yes rfl rfl (decide_eq_false h7)) rfl rfl ?_
       refine n_as (v' := Tv) (by exact bpy (hap.resolve_left (by assumption)).1) ?_
       refine o_move Tv (Gd.yes rfl rfl (decide_eq_false h7)) rfl ?_
       refine o_move (bp (AppB (lineT (lineZ m (wordZ m (numS n) s))) n)) (Gd.yes rfl rfl rfl) rfl ?_
       refine n_as (v' := Tv) (by exact bpy (hap.resolve_left (by assumption)).2.1) ?_
       refine o_pickT Tv (Gd.yes rfl rfl (decide_eq_false h7)) rfl rfl rfl ?_
       refine o_move Tv (Gd.yes rfl rfl (decide_eq_false h7)) rfl ?_
       refine o_move (Sv (appS (lineT (lineZ m (wordZ m (numS n) s))) n)) (Gd.yes rfl rfl rfl) rfl ?_
       refine o_loadA [bp ((iterZ m i (numS n)) < 0), .sl 1 (ns .i64 (digs ((iterZ m i (numS n))).natAbs))] (Gd.yes rfl rfl rfl) f14_ rfl rfl rfl rfl rfl ?_
       refine o_ct (c_rText ((iterZ m i (numS n))) (by first | omega | assumption | (simp only [Int.natAbs_neg]; omega))) (Gd.yes rfl rfl rfl) f166_ rfl ?_
       refine o_eqlS (a := (appS (lineT (lineZ m (wordZ m (numS n) s))) n)) (c := (txt ((iterZ m i (numS n))))) (Gd.yes rfl rfl rfl) rfl rfl ?_
       refine n_as (v' := Tv) (by exact bpy (congrArg ByteArray.toList ((hap.resolve_left (by assumption)).2.2.trans (by rw [his])))) ?_
       refine o_pickT Tv (Gd.yes rfl rfl (decide_eq_false h7)) rfl rfl rfl ?_
       refine o_pickF Tv (Gd.yes rfl rfl rfl) rfl (decide_eq_false h7) rfl ?_
       refine o_pickT Tv Gd.none rfl rfl rfl ?_
       refine o_mv Tv rfl ?_
       refine o_ct c_awake4 (Gd.yes rfl rfl rfl) f158_ rfl ?_
       refine o_pickT Tv Gd.none rfl rfl rfl ?_
       refine o_as Tv rfl ?_
       refine aops_end ?_
       refine hK22 _ ?_
       refine awp_ret ?_
       refine post_ret ⟨[Tv], ⟨AV.le_refl _, trivial⟩, rfl, ?_⟩
       rfl

end Go.Proofs.YtjbaamfahkjhgaaGreatDoor

set_option linter.unusedVariables false
namespace Go.Proofs.YtjbaamfahkjhgaaGreatDoor.sieveExact
open Go Go.Ab Go.Mth Go.ChangeShapes Go.WideShapes Go.ChangeAt Go.RowKit
theorem reads (os : Os) {H : Type} (enc : TypeId × Value → H) : ∃ places, DataW.whole enc Tryz.prog ((World.laidAll Tryz.prog os laid5).forCall (fun _ _ => 0) ⟨#[], #[.agg #[.int .i64 0, .slice none 0 0, .slice none 0 0], .string ByteArray.empty, .int .i64 0], []⟩).memory Tryz.f7.params.toList Rows.sieveExactSpec.vars false (#[.agg #[.int .i64 0, .slice none 0 0, .slice none 0 0], .string ByteArray.empty, .int .i64 0] : Array Value).toList 8 = some ([.agg [.lit (.int .i64 0), .nil, .nil], .lit (.string []), .lit (.int .i64 0)], [], places) := ⟨[], by kernel_rfl⟩
theorem met (os : Os) : laidMetH Tryz.prog laid5 ((World.laidAll Tryz.prog os laid5).forCall (fun _ _ => 0) ⟨#[], #[.agg #[.int .i64 0, .slice none 0 0, .slice none 0 0], .string ByteArray.empty, .int .i64 0], []⟩).memory := (MakeChecks.laidMetH_plain _ _ _ (by kernel_rfl)).mpr (laidMet_laidAll _ (by kernel_rfl) (by kernel_rfl))
theorem specs {H : Type} (ds : List (DataW H)) (h : ds.length = 3) : (Rows.sieveExactSpec.fn H ds).results = [.lit (.bool true)] ∧ (Rows.sieveExactSpec.fn H ds).args = ds ∧ (Rows.sieveExactSpec.fn H ds).vars = [] := by
  rcases ds with _ | ⟨d0, _ | ⟨d1, _ | ⟨d2, _ | ⟨e, t⟩⟩⟩⟩ <;> simp at h <;> exact ⟨rfl, rfl, rfl⟩
set_option maxRecDepth 100000 in
theorem opened {H : Type} (enc : TypeId × Value → H) (W : World) (base : Nat) (args : Array Value) (ds : List (DataW H)) (ps : List MemPlace) (hval : ∀ (j : Nat) t v, (#[24, 9, 3] : Array TypeId)[j]? = some t → args[j]? = some v → Value.okWide Tryz.prog W .any base t v)
    (hA : DataW.TrodAll enc Tryz.prog W 0 (fun _ => true) true [24, 9, 3] args.toList ds ps) (hsz : (DataW.weightsEach Tryz.prog [24, 9, 3] ds).all (· ≤ reachBytes) = true) : ∃ xs, RepL (memOf W) xs noLoc args.toList ∧ ECalls cx 7 xs (.lit (.bool true)) := by
  obtain ⟨v0, vs0, d0, ds0, p0, q0, hargs, rfl, rfl, h0, r0⟩ := trodAll_cons hA
  obtain ⟨v1, vs1, d1, ds1, p1, q1, rfl, rfl, rfl, h1, r1⟩ := trodAll_cons r0
  obtain ⟨v2, vs2, d2, ds2, p2, q2, rfl, rfl, rfl, h2, r2⟩ := trodAll_cons r1
  obtain ⟨rfl, rfl, rfl⟩ := trodAll_nil r2
  obtain rfl : args = #[v0, v1, v2] := by cases args; simp_all
  obtain ⟨m0, e0, b0, c0⟩ := rep_map (hval 0 24 v0 rfl rfl) h0 (fun n hn => by simpa using List.all_eq_true.1 hsz n (DataW.weights_mem_each (j := 0) rfl rfl n hn))
  obtain ⟨a1, e1, b1⟩ := rep_str (hval 1 9 v1 rfl rfl) h1
  obtain ⟨k2, e2, b2⟩ := rep_int (hval 2 3 v2 rfl rfl) h2
  exact ⟨[mapV m0, .lit (.string a1), .lit (.int .i64 k2)], RepL.cons e0 (RepL.cons e1 (RepL.cons e2 (by simp only [RepL]))), c_SieveExact m0 a1 k2 b1 b0 c0 b2⟩
set_option maxRecDepth 100000 in
theorem lifted (os : Os) (started : os.Started) (H : Type) (enc : TypeId × Value → H) (F : Stop.Interp) :
    ReturnsInHanded {} Tryz.checked os 7 .any ((OpenSpec.ofChange Rows.sieveExactSpec).preRow enc Tryz.prog Tryz.f7 Rows.sieveExactRow.domain false Rows.sieveExactRow.laid) (((OpenSpec.ofChange Rows.sieveExactSpec).at F).post enc Tryz.prog Tryz.f7 false true false false) := by
  obtain ⟨places, hx⟩ := reads os enc
  refine lifted_of (C := Tryz.checked) started cx rfl ownT (by kernel_rfl) Tryz.func7 (witness_laid #[.agg #[.int .i64 0, .slice none 0 0, .slice none 0 0], .string ByteArray.empty, .int .i64 0] (by kernel_rfl) (by kernel_rfl) (by kernel_rfl) (OpenSpec.preRow_of_cond 8 hx (by kernel_rfl) (fun k hk => by cases hk) (by kernel_rfl) (met os))) laidOutT (by kernel_rfl) (tb := 4) (by kernel_rfl) u4T rfl (fun ds h => specs ds (h.trans (by kernel_rfl))) (fun W h => tabG_of h) ?_
  intro W base args ds ps hval hA hsz
  exact opened enc W base args ds ps hval hA hsz
theorem said : Rows.SieveExactSaid :=
  OpenClaim.holds_of_cond 7 Tryz.f7 rfl rfl rfl rfl rfl rfl rfl ⟨rfl, rfl, rfl, rfl, rfl⟩ rfl rfl rfl rfl rfl (by kernel_rfl) Tryz.func7 (by kernel_rfl)
    (of_decide_eq_true (by kernel_rfl)) (by unfold Func.isWrapper; first | (rw [if_pos (by decide +kernel)]; kernel_rfl) | (rw [if_neg (by decide +kernel)]; exact ⟨rfl, rfl⟩))
    (fun os started H enc _ F => by rw [OpenClaim.pre_eq_preRow]; exact lifted os started H enc F)
theorem plain (f : FuncId) (fn : Func) (hf : Tryz.pinned.checked.prog.funcNamed "katabasis/katabasislaw04.SieveExact" = some f) (hfn : Tryz.pinned.checked.prog.funcs[f]? = some fn) :
    true = Tryz.pinned.checked.prog.looks [] ∧ ∀ (j : Nat) t, fn.params[j]? = some t → Tryz.pinned.checked.prog.wantsStandIn t = false := by
  obtain rfl : f = 7 := Option.some.inj ((show Tryz.prog.funcNamed "katabasis/katabasislaw04.SieveExact" = some 7 by kernel_rfl).symm.trans hf) |>.symm
  obtain rfl : fn = Tryz.f7 := (Option.some.inj (Tryz.func7.symm.trans hfn)).symm
  refine ⟨by kernel_rfl, fun j t ht => ?_⟩
  rw [Tryz.params7] at ht
  have : t = 24 ∨ t = 9 ∨ t = 3 := by have h := Array.mem_of_getElem? ht; simp at h; first | exact h | (rcases h with h | h | h | h <;> simp [h]) | (rcases h with h | h | h <;> simp [h]) | (rcases h with h | h <;> simp [h])
  rcases this with rfl | rfl | rfl
  · exact (show Tryz.prog.wantsStandIn 24 = false by kernel_rfl)
  · exact (show Tryz.prog.wantsStandIn 9 = false by kernel_rfl)
  · exact (show Tryz.prog.wantsStandIn 3 = false by kernel_rfl)
end Go.Proofs.YtjbaamfahkjhgaaGreatDoor.sieveExact
namespace Go.Proofs.YtjbaamfahkjhgaaGreatDoor
open Go
theorem sieveExact_holds : Rows.SieveExactCardSaid :=
  Claim7.holds_tied_plain_at .later [] _ _ _ _ sieveExact.said (fun _ h => by cases h) (by kernel_rfl) (fun _ h => by cases h) sieveExact_row_tie rfl ⟨rfl, rfl⟩ (by kernel_rfl) rfl sieveExact.plain (by kernel_rfl)
#print axioms sieveExact_holds
end Go.Proofs.YtjbaamfahkjhgaaGreatDoor

