/- The law 'katabasislaw04.SieveLeft' is true for every map, string and number: a number whose rest is left is less than itself after some steps exactly if the linear map of the beginning of its word says so, and Mul is greater than Div. Its condition: none but the row's own (the listed tables of the library). -/
import Derived.Test.YtjbaamfahkjhgaaGreatDoorPkSieveLefte
set_option linter.unusedVariables false
set_option linter.unusedSimpArgs false
namespace Go.Proofs.YtjbaamfahkjhgaaGreatDoor
open Go Go.Ab Go.Mth
theorem f135_ : callable cx.P 65 = true := by kernel_rfl
theorem f136_ : callable cx.P 66 = true := by kernel_rfl
theorem f137_ : callable cx.P 67 = true := by kernel_rfl
set_option maxRecDepth 100000 in
theorem c_sFind (m : MapM) (a : ByteArray) (k : Int) (ha : a.size ≤ 9223372036854775807) (hkb : k ≤ 9223372036854775807) : ECalls cx 17 [(mapV m), (Sv a), (Iv k)] (.tup [falV (fdF m a k), bp (fdB m a k), nm .i64 (fdE m a k)]) := by
 refine ecalls_of_awp Tryz.func17 (c := _) rfl (Nat.le_of_ble_eq_true rfl) ?_
 show awp cx 87 _ (postF cx Tryz.f17 _) ⟨[(0, (mapV m)), (1, (Sv a)), (2, (Iv k))], []⟩
 refine awp_seq fun K0 hK0 => ?_
 refine awp_region rfl ?_
 refine o_box 2 [(Iv m.mod), (Lv m.mul), (Lv m.add)] Gd.none rfl rfl ?_
 refine o_alloc 3 [(Nv 0), (Nv 0), (Sv Ev), (Sv Ev), (Sv Ev), (Sv Ev)] Gd.none f91_ rfl rfl rfl ?_
 refine o_as Fv rfl ?_
 refine o_as (Nv 0) rfl ?_
 refine aops_end ?_
 refine hK0 _ ?_
 refine awp_seq fun K1 hK1 => ?_
 refine awp_seq fun K2 hK2 => ?_
 refine awp_region rfl ?_
 refine o_loadA [(Iv m.mod), (Lv m.mul), (Lv m.add)] Gd.none f63_ rfl rfl rfl rfl rfl ?_
 refine o_ct (c_sValid m) Gd.none f89_ rfl ?_
 refine o_not (b := okM m) Gd.none rfl ?_
 refine o_mv (.lit (.bool (!(okM m)))) rfl ?_
 refine o_split (b := !(okM m)) 21 rfl (fun h1 => ?_) (fun h1 => ?_)
 ·have hm' : ¬ okM m = true := by simpa using h1
  refine o_skip rfl rfl h1 ?_
  refine o_skip rfl rfl h1 ?_
  refine o_skip rfl rfl h1 ?_
  refine o_pickT Tv Gd.none rfl h1 rfl ?_
  refine aops_end ?_
  refine hK2 _ ?_
  refine awp_condB (b := true) rfl (fun _ => ?_) (fun hh => absurd (hh.symm.trans rfl) (by decide))
  refine awp_seq fun K3 hK3 => ?_
  refine awp_region rfl ?_
  refine o_build [(Nv 0), (Nv 0), (Sv Ev), (Sv Ev), (Sv Ev), (Sv Ev)] [] Gd.none f94_ f91_ rfl rfl rfl ?_
  refine n_as (v' := (falV zFal)) (by exact rfl) ?_
  refine o_store [(3, (.var 40 [(Iv (zFal.steps)), (Iv (zFal.rest)), (Sv (zFal.lmul)), (Sv (zFal.ladd)), (Sv (zFal.ldiv)), (Sv (zFal.bound))])), (2, (oM 24 m))] Gd.none f95_ rfl rfl rfl rfl rfl rfl ?_
  refine o_as Fv rfl ?_
  refine o_as (Nv 1) rfl ?_
  refine aops_end ?_
  refine hK3 _ ?_
  refine awp_ret ?_
  refine post_ret ⟨[(.agg [(Iv (zFal.steps)), (Iv (zFal.rest)), (Sv (zFal.lmul)), (Sv (zFal.ladd)), (Sv (zFal.ldiv)), (Sv (zFal.bound))]), Fv, (Nv 1)], ⟨⟨3, (.var 40 [(Iv (zFal.steps)), (Iv (zFal.rest)), (Sv (zFal.lmul)), (Sv (zFal.ladd)), (Sv (zFal.ldiv)), (Sv (zFal.bound))]), rfl, rfl, rfl, Or.inl ⟨f96_, AV.le_refl _⟩⟩, (AV.le_refl _), (AV.le_refl _), trivial⟩, rfl, ?_⟩
  first | (have e := fd_1 (m := m) (a := a) (k := k) (fun q => hm' q.1); rw [e.1, e.2.1, bpn e.2.2]; rfl) | (have e := fd_1 (m := m) (a := a) (k := k) (fun q => ha' q.2); rw [e.1, e.2.1, bpn e.2.2]; rfl) | (have e := fd_2 (m := m) (a := a) (k := k) ⟨hm', ha'⟩ h3; rw [e.1, e.2.1, bpn e.2.2]; rfl) | (have e := fd_0 (m := m) (a := a) (k := k) ⟨hm', ha'⟩ hy; rw [e.1, e.2.1, ← hfm.1, hfy.1, bpy (e.2.2.2 (hfm.2.1 hfy.2))]; rfl) | (have e := fd_0 (m := m) (a := a) (k := k) ⟨hm', ha'⟩ hy; have e2 := fnd_no (m := m) (z := Z) (k := k.toNat) (by rw [show k.toNat = i by omega]; exact h0); rw [e.1, e.2.1, ← hfm.1, e2.1, bpn (fun q => e2.2 (hfm.2.2 (e.2.2.1 q)))]; rfl)
 ·have hm' : okM m = true := by simpa using h1
  have hM := okM_iff.1 hm'
  have hM2 := hM
  obtain ⟨o1, o2, o3, o4, o5⟩ := hM2
  refine o_move (Sv a) (Gd.yes rfl rfl h1) rfl ?_
  refine o_ct (c_nValid a (by first | assumption | decide | omega)) (Gd.yes rfl rfl h1) f135_ rfl ?_
  refine o_not (b := okS a) (Gd.yes rfl rfl h1) rfl ?_
  refine o_pickF (.lit (.bool (!(okS a)))) Gd.none rfl h1 rfl ?_
  refine aops_end ?_
  refine hK2 _ ?_
  refine awp_condB (b := !(okS a)) rfl (fun h2 => ?_) (fun h2 => ?_)
  ·have ha' : ¬ okS a = true := by simpa using h2
   refine awp_seq fun K4 hK4 => ?_
   refine awp_region rfl ?_
   refine o_build [(Nv 0), (Nv 0), (Sv Ev), (Sv Ev), (Sv Ev), (Sv Ev)] [] Gd.none f94_ f91_ rfl rfl rfl ?_
   refine n_as (v' := (falV zFal)) (by exact rfl) ?_
   refine o_store [(3, (.var 40 [(Iv (zFal.steps)), (Iv (zFal.rest)), (Sv (zFal.lmul)), (Sv (zFal.ladd)), (Sv (zFal.ldiv)), (Sv (zFal.bound))])), (2, (oM 24 m))] Gd.none f95_ rfl rfl rfl rfl rfl rfl ?_
   refine o_as Fv rfl ?_
   refine o_as (Nv 1) rfl ?_
   refine aops_end ?_
   refine hK4 _ ?_
   refine awp_ret ?_
   refine post_ret ⟨[(.agg [(Iv (zFal.steps)), (Iv (zFal.rest)), (Sv (zFal.lmul)), (Sv (zFal.ladd)), (Sv (zFal.ldiv)), (Sv (zFal.bound))]), Fv, (Nv 1)], ⟨⟨3, (.var 40 [(Iv (zFal.steps)), (Iv (zFal.rest)), (Sv (zFal.lmul)), (Sv (zFal.ladd)), (Sv (zFal.ldiv)), (Sv (zFal.bound))]), rfl, rfl, rfl, Or.inl ⟨f96_, AV.le_refl _⟩⟩, (AV.le_refl _), (AV.le_refl _), trivial⟩, rfl, ?_⟩
   first | (have e := fd_1 (m := m) (a := a) (k := k) (fun q => hm' q.1); rw [e.1, e.2.1, bpn e.2.2]; rfl) | (have e := fd_1 (m := m) (a := a) (k := k) (fun q => ha' q.2); rw [e.1, e.2.1, bpn e.2.2]; rfl) | (have e := fd_2 (m := m) (a := a) (k := k) ⟨hm', ha'⟩ h3; rw [e.1, e.2.1, bpn e.2.2]; rfl) | (have e := fd_0 (m := m) (a := a) (k := k) ⟨hm', ha'⟩ hy; rw [e.1, e.2.1, ← hfm.1, hfy.1, bpy (e.2.2.2 (hfm.2.1 hfy.2))]; rfl) | (have e := fd_0 (m := m) (a := a) (k := k) ⟨hm', ha'⟩ hy; have e2 := fnd_no (m := m) (z := Z) (k := k.toNat) (by rw [show k.toNat = i by omega]; exact h0); rw [e.1, e.2.1, ← hfm.1, e2.1, bpn (fun q => e2.2 (hfm.2.2 (e.2.2.1 q)))]; rfl)
  ·have ha' : okS a = true := by simpa using h2
   have la := len_numS (okS_iff.1 ha')
   refine awp_skip ?_
   refine hK1 _ ?_
   refine awp_seq fun K5 hK5 => ?_
   refine awp_seq fun K6 hK6 => ?_
   refine awp_region rfl ?_
   refine o_loadA [(Iv m.mod), (Lv m.mul), (Lv m.add)] Gd.none f63_ rfl rfl rfl rfl rfl ?_
   refine o_mv (Iv k) rfl ?_
   refine o_ct (c_scheck m k (by first | assumption | omega)) Gd.none f125_ rfl ?_
   refine o_as (Nv (chkE m k)) rfl ?_
   refine aops_end ?_
   refine hK6 _ ?_
   refine awp_seq fun K7 hK7 => ?_
   refine awp_region rfl ?_
   refine o_mv (Nv (chkE m k)) rfl ?_
   refine n_neq (chkE m k) 0 Gd.none rfl rfl ?_
   refine aops_end ?_
   refine hK7 _ ?_
   refine awp_condQ (q := (chkE m k) ≠ 0) rfl (fun h3 => ?_) (fun h3 => ?_)
   ·refine awp_seq fun K8 hK8 => ?_
    refine awp_region rfl ?_
    refine o_build [(Nv 0), (Nv 0), (Sv Ev), (Sv Ev), (Sv Ev), (Sv Ev)] [] Gd.none f94_ f91_ rfl rfl rfl ?_
    refine n_as (v' := (falV zFal)) (by exact rfl) ?_
    refine o_mv (Nv (chkE m k)) rfl ?_
    refine o_store [(3, (.var 40 [(Iv (zFal.steps)), (Iv (zFal.rest)), (Sv (zFal.lmul)), (Sv (zFal.ladd)), (Sv (zFal.ldiv)), (Sv (zFal.bound))])), (2, (oM 24 m))] Gd.none f95_ rfl rfl rfl rfl rfl rfl ?_
    refine o_as Fv rfl ?_
    refine o_as (Nv (chkE m k)) rfl ?_
    refine aops_end ?_
    refine hK8 _ ?_
    refine awp_ret ?_
    refine post_ret ⟨[(.agg [(Iv (zFal.steps)), (Iv (zFal.rest)), (Sv (zFal.lmul)), (Sv (zFal.ladd)), (Sv (zFal.ldiv)), (Sv (zFal.bound))]), Fv, (Nv (chkE m k))], ⟨⟨3, (.var 40 [(Iv (zFal.steps)), (Iv (zFal.rest)), (Sv (zFal.lmul)), (Sv (zFal.ladd)), (Sv (zFal.ldiv)), (Sv (zFal.bound))]), rfl, rfl, rfl, Or.inl ⟨f96_, AV.le_refl _⟩⟩, (AV.le_refl _), (AV.le_refl _), trivial⟩, rfl, ?_⟩
    first | (have e := fd_1 (m := m) (a := a) (k := k) (fun q => hm' q.1); rw [e.1, e.2.1, bpn e.2.2]; rfl) | (have e := fd_1 (m := m) (a := a) (k := k) (fun q => ha' q.2); rw [e.1, e.2.1, bpn e.2.2]; rfl) | (have e := fd_2 (m := m) (a := a) (k := k) ⟨hm', ha'⟩ h3; rw [e.1, e.2.1, bpn e.2.2]; rfl) | (have e := fd_0 (m := m) (a := a) (k := k) ⟨hm', ha'⟩ hy; rw [e.1, e.2.1, ← hfm.1, hfy.1, bpy (e.2.2.2 (hfm.2.1 hfy.2))]; rfl) | (have e := fd_0 (m := m) (a := a) (k := k) ⟨hm', ha'⟩ hy; have e2 := fnd_no (m := m) (z := Z) (k := k.toNat) (by rw [show k.toNat = i by omega]; exact h0); rw [e.1, e.2.1, ← hfm.1, e2.1, bpn (fun q => e2.2 (hfm.2.2 (e.2.2.1 q)))]; rfl)
   ·have hy : mayS m k := Decidable.byContradiction fun e => absurd (chk_2 hm' e) (by rw [Decidable.not_not.1 h3]; decide)
    have hk2 := hy.2.2
    have hk1 := hy.2.1
    have hk16 := may_16 hM hk2
    have hkp : 0 < m.mod ^ k.toNat := Int.pow_pos (by omega)
    obtain ⟨P, hP⟩ : ∃ P : Nat, ((P : Nat) : Int) = m.mod ^ k.toNat := ⟨_, Int.toNat_of_nonneg (Int.le_of_lt hkp)⟩
    obtain ⟨Z, hZ⟩ : ∃ Z : Int, Z = numS a % m.mod ^ k.toNat := ⟨_, rfl⟩
    have hZ0 : 0 ≤ Z := by rw [hZ]; exact Int.emod_nonneg _ (by omega)
    have hZ1 : Z < m.mod ^ k.toNat := by rw [hZ]; exact Int.emod_lt_of_pos _ hkp
    have hfm := fndF_mod hM (numS a) k.toNat
    rw [← hZ] at hfm
    have hzl := small_len (z := Z) (by omega)
    refine awp_skip ?_
    refine hK5 _ ?_
    refine awp_seq fun K9 hK9 => ?_
    refine awp_region rfl ?_
    refine o_as (Nv 1) rfl ?_
    refine n_as (v' := (Iv (m.mod ^ 0))) (by exact congrArg (fun z => AV.lit (.int .i64 z)) (Int.pow_zero _).symm) ?_
    refine aops_end ?_
    refine hK9 _ ?_
    refine awp_seq fun K10 hK10 => ?_
    refine awp_seq fun K11 hK11 => ?_
    refine awp_region rfl ?_
    refine o_mv (Iv k) rfl ?_
    refine o_mv (Nv 0) rfl ?_
    refine aops_end ?_
    refine hK11 _ ?_
    refine awp_block ?_
    refine awp_loopR (fun κ σ => ∃ (u : Nat), (u ≤ k.toNat) ∧ (k.toNat - u) = κ ∧ σ = ⟨[(1, (Sv a)), (2, (Iv k)), (3, (.ref 2 0)), (6, (.ref 3 0)), (10, (Iv (m.mod ^ u))), (34, (Iv k)), (35, (Nv u))], [(2, (oM 24 m)), (3, (.var 40 [(Nv 0), (Nv 0), (Sv Ev), (Sv Ev), (Sv Ev), (Sv Ev)]))]⟩) ⟨_, _, ⟨0, (by omega), rfl, rfl⟩, ?wk0⟩ ?rd0
    case wk0 =>
     exact Wk.sub ⟨rfl, rfl, rfl, rfl, (by first | rfl | exact int_eq (by omega) | exact int_nm (by omega)), rfl, (by first | rfl | exact nm_int (by omega)), trivial⟩ ⟨rfl, rfl, trivial⟩
    rintro κ _ ⟨u, hu, rfl, rfl⟩
    have hpp : 0 < m.mod ^ u := Int.pow_pos (by omega)
    have hb := pow_le_of hM (j := u) (k := k.toNat) (by omega)
    have hmb := Int.mul_le_mul (show m.mod ^ u ≤ 65536 by omega) o2 (show (0 : Int) ≤ m.mod by omega) (by decide)
    have hml := Int.mul_pos hpp (show 0 < m.mod by omega)
    refine awp_seq fun K12 hK12 => ?_
    refine awp_region rfl ?_
    refine o_lss (a := (((u : Nat) : Int))) (c := k) Gd.none rfl rfl ?_
    refine aops_end ?_
    refine hK12 _ ?_
    refine awp_seq fun K13 hK13 => ?_
    refine awp_condQ (q := (((u : Nat) : Int)) < k) rfl (fun h4 => ?_) (fun h4 => ?_)
    ·refine awp_skip ?_
     refine hK13 _ ?_
     refine awp_seq fun K14 hK14 => ?_
     refine awp_block ?_
     refine awp_region rfl ?_
     refine o_mv (Iv (m.mod ^ u)) rfl ?_
     refine o_fieldRef 0 Gd.none f59_ rfl rfl ?_
     refine o_loadS (Iv m.mod) Gd.none f11_ rfl rfl rfl ?_
     refine o_mul (a := (m.mod ^ u)) (c := m.mod) Gd.none rfl rfl (by exact wrap64 (by omega) (by omega)) ?_
     refine n_as (v' := (Iv (m.mod ^ (u + 1)))) (by exact congrArg (fun z => AV.lit (.int .i64 z)) (Int.pow_succ _ _).symm) ?_
     refine o_as (Iv (m.mod ^ (u + 1))) rfl ?_
     refine aops_end ?_
     refine hK14 _ ?_
     refine awp_region rfl ?_
     refine n_add u 1 Gd.none rfl rfl (by simp only [topOf]; omega) ?_
     refine o_mv (Nv (u + 1)) rfl ?_
     refine aops_end ?_
     refine ⟨_, _, ?lt, ⟨u + 1, (by omega), rfl, rfl⟩, ?wk⟩
     case lt => omega
     case wk => exact Wk.sub ⟨rfl, rfl, rfl, rfl, (by first | rfl | exact int_eq (by omega) | exact int_nm (by omega)), rfl, (by first | rfl | exact nm_int (by omega)), trivial⟩ ⟨rfl, rfl, trivial⟩
    ·refine awp_exit ?_
     refine hK10 _ ?_
     refine awp_seq fun K15 hK15 => ?_
     refine awp_region rfl ?_
     refine o_mv (Sv a) rfl ?_
     refine o_ct (c_wParse a (by first | assumption | exact okS_iff.1 (by assumption))) Gd.none f136_ rfl ?_
     refine o_mv (Iv (m.mod ^ u)) rfl ?_
     refine n_as (v' := (Nv P)) (nm_int (by rw [hP, show k.toNat = u by omega])) ?_
     refine o_ct (c_wQR ((numS a)) P (by omega) (by omega) (by first | omega | assumption | (simp only [Int.natAbs_neg]; omega))) Gd.none f66_ rfl ?_
     refine o_mv (.tup [(intW (((numS a) / ((P : Nat) : Int)))), (Iv ((numS a) % ((P : Nat) : Int)))]) rfl ?_
     refine o_extract (intW (((numS a) / ((P : Nat) : Int)))) Gd.none rfl rfl ?_
     refine o_extract (Iv ((numS a) % ((P : Nat) : Int))) Gd.none rfl rfl ?_
     refine n_as (v' := (Iv Z)) (by exact congrArg (fun z => AV.lit (.int .i64 z)) (by rw [hZ, hP])) ?_
     refine o_alloc 101 [Fv, Zv] Gd.none f15_ rfl rfl rfl ?_
     refine o_store [(101, (oZ 79 .u32 (((numS a) / ((P : Nat) : Int))))), (2, (oM 24 m)), (3, (.var 40 [(Nv 0), (Nv 0), (Sv Ev), (Sv Ev), (Sv Ev), (Sv Ev)]))] Gd.none f19_ rfl rfl rfl rfl rfl rfl ?_
     refine o_as (Iv Z) rfl ?_
     refine aops_end ?_
     refine hK15 _ ?_
     refine awp_seq fun K16 hK16 => ?_
     refine awp_region rfl ?_
     refine o_mv (Iv Z) rfl ?_
     refine o_ct (c_wOf Z (by first | decide | omega) (by first | decide | omega)) Gd.none f46_ rfl ?_
     refine o_alloc 102 [Fv, Zv] Gd.none f15_ rfl rfl rfl ?_
     refine o_store [(102, (oZ 79 .u32 Z)), (101, (oZ 79 .u32 (((numS a) / ((P : Nat) : Int))))), (2, (oM 24 m)), (3, (.var 40 [(Nv 0), (Nv 0), (Sv Ev), (Sv Ev), (Sv Ev), (Sv Ev)]))] Gd.none f19_ rfl rfl rfl rfl rfl rfl ?_
     refine aops_end ?_
     refine hK16 _ ?_
     refine awp_seq fun K17 hK17 => ?_
     refine awp_region rfl ?_
     refine o_as Zv rfl ?_
     refine aops_end ?_
     refine hK17 _ ?_
     refine awp_seq fun K18 hK18 => ?_
     refine awp_region rfl ?_
     refine o_as (Nv 1) rfl ?_
     refine n_as (v' := (Iv (m.mod ^ 0))) (by exact congrArg (fun z => AV.lit (.int .i64 z)) (Int.pow_zero _).symm) ?_
     refine aops_end ?_
     refine hK18 _ ?_
     refine awp_seq fun K19 hK19 => ?_
     refine awp_seq fun K20 hK20 => ?_
     refine awp_region rfl ?_
     refine o_mv (Iv k) rfl ?_
     refine o_mv (Nv 0) rfl ?_
     refine aops_end ?_
     refine hK20 _ ?_
     refine awp_block ?_
     refine awp_loopR (fun κ σ => ∃ (i : Nat), (i ≤ k.toNat) ∧ (ffal m Z i = 0) ∧ ((digs (iterZ m i Z).natAbs).length ≤ 1 + 4 * i) ∧ (k.toNat - i) = κ ∧ σ = ⟨[(2, (Iv k)), (3, (.ref 2 0)), (6, (.ref 3 0)), (10, (Iv (m.mod ^ i))), (12, (Iv Z)), (13, (.ref 4 0)), (14, (.row 50)), (51, (Iv k)), (52, (Nv i))], [(2, (oM 24 m)), (3, (.var 40 [(Nv 0), (Nv 0), (Sv Ev), (Sv Ev), (Sv Ev), (Sv Ev)])), (4, (oZ 79 .u32 ((iterZ m i Z)))), (50, (.row 3 1 (is .i64 (wordZ m Z i))))]⟩) ⟨_, _, ⟨0, (by omega), rfl, (show (digs Z.natAbs).length ≤ 1 + 4 * 0 by omega), rfl, rfl⟩, ?wk1⟩ ?rd1
     case wk1 =>
      exact Wk.trans (Wk.newNil (i := 14) (id := 603) (e := 3) (sz := 1) rfl rfl (by decide)) (Wk.trans (Wk.sub (σ' := ⟨[(2, (Iv k)), (3, (.ref 2 0)), (6, (.ref 3 0)), (10, (Iv (m.mod ^ 0))), (12, (Iv Z)), (13, (.ref 102 0)), (14, (.row 603)), (51, (Iv k)), (52, (Nv 0))], [(2, (oM 24 m)), (3, (.var 40 [(Nv 0), (Nv 0), (Sv Ev), (Sv Ev), (Sv Ev), (Sv Ev)])), (102, (oZ 79 .u32 Z)), (603, (.row 3 1 (is .i64 ([]))))]⟩) ⟨rfl, rfl, rfl, rfl, rfl, rfl, rfl, rfl, rfl, trivial⟩ ⟨rfl, rfl, rfl, rfl, trivial⟩) (Wk.trans (Wk.ren (id := 102) (id' := 4) rfl) (Wk.trans (Wk.ren (id := 603) (id' := 50) rfl) (Wk.sub ⟨rfl, rfl, rfl, (by first | rfl | exact int_eq (by omega) | exact int_nm (by omega)), rfl, (by first | rfl | simp), (by first | rfl | simp), rfl, (by first | rfl | exact nm_int (by omega)), trivial⟩ ⟨rfl, rfl, rfl, (by first | rfl | exact row_ns (by simp)), trivial⟩))))
     rintro κ _ ⟨i, hi, h0, hlz, rfl, rfl⟩
     have hpp : 0 < m.mod ^ i := Int.pow_pos (by omega)
     have hb := pow_le_of hM (j := i) (k := k.toNat) (by omega)
     have hmb := Int.mul_le_mul (show m.mod ^ i ≤ 65536 by omega) o2 (show (0 : Int) ≤ m.mod by omega) (by decide)
     have hml := Int.mul_pos hpp (show 0 < m.mod by omega)
     have hln := step_len' hM (iterZ m i Z)
     have hW1 := wordZ_is hM Z (i + 1)
     have hL1 := wordZ_len m Z (i + 1)
     have hL2 : ((wordZ m Z i) ++ ([(iterZ m i Z % m.mod)])).length = i + 1 := hL1
     obtain ⟨M1, M2, M3⟩ := line_len hM (wordZ m Z (i + 1)) hW1
     have hpq : 0 < m.mod ^ (i + 1) := Int.pow_pos (by omega)
     refine awp_seq fun K21 hK21 => ?_
     refine awp_region rfl ?_
     refine o_lss (a := (((i : Nat) : Int))) (c := k) Gd.none rfl rfl ?_
     refine aops_end ?_
     refine hK21 _ ?_
     refine awp_seq fun K22 hK22 => ?_
     refine awp_condQ (q := (((i : Nat) : Int)) < k) rfl (fun h5 => ?_) (fun h5 => ?_)
     ·refine awp_skip ?_
      refine hK22 _ ?_
      refine awp_seq fun K23 hK23 => ?_
      refine awp_block ?_
      refine awp_seq fun K24 hK24 => ?_
      refine awp_region rfl ?_
      refine o_loadA [(Iv m.mod), (Lv m.mul), (Lv m.add)] Gd.none f63_ rfl rfl rfl rfl rfl ?_
      refine o_loadA [(bp ((iterZ m i Z) < 0)), (.sl 1 (ns .u32 (digs ((iterZ m i Z)).natAbs)))] Gd.none f20_ rfl rfl rfl rfl rfl ?_
      refine o_ct (c_sNext m ((iterZ m i Z)) (by first | assumption | exact okM_iff.1 (by assumption)) (by first | omega | assumption | (simp only [Int.natAbs_neg]; omega))) Gd.none f137_ rfl ?_
      refine o_mv (.tup [(intW ((stepZ m (iterZ m i Z)))), (Iv ((iterZ m i Z) % m.mod))]) rfl ?_
      refine o_extract (intW ((stepZ m (iterZ m i Z)))) Gd.none rfl rfl ?_
      refine o_extract (Iv ((iterZ m i Z) % m.mod)) Gd.none rfl rfl ?_
      refine o_alloc 201 [Fv, Zv] Gd.none f15_ rfl rfl rfl ?_
      refine o_store [(201, (oZ 79 .u32 ((stepZ m (iterZ m i Z))))), (2, (oM 24 m)), (3, (.var 40 [(Nv 0), (Nv 0), (Sv Ev), (Sv Ev), (Sv Ev), (Sv Ev)])), (4, (oZ 79 .u32 ((iterZ m i Z)))), (50, (.row 3 1 (is .i64 (wordZ m Z i))))] Gd.none f19_ rfl rfl rfl rfl rfl rfl ?_
      refine o_as (Iv ((iterZ m i Z) % m.mod)) rfl ?_
      refine aops_end ?_
      refine hK24 _ ?_
      refine awp_seq fun K25 hK25 => ?_
      refine awp_region rfl ?_
      refine o_loadA [(bp ((stepZ m (iterZ m i Z)) < 0)), (.sl 1 (ns .u32 (digs ((stepZ m (iterZ m i Z))).natAbs)))] Gd.none f20_ rfl rfl rfl rfl rfl ?_
      refine o_store [(201, (oZ 79 .u32 ((stepZ m (iterZ m i Z))))), (2, (oM 24 m)), (3, (.var 40 [(Nv 0), (Nv 0), (Sv Ev), (Sv Ev), (Sv Ev), (Sv Ev)])), (4, (oZ 79 .u32 ((stepZ m (iterZ m i Z))))), (50, (.row 3 1 (is .i64 (wordZ m Z i))))] Gd.none f19_ rfl rfl rfl rfl rfl rfl ?_
      refine aops_end ?_
      refine hK25 _ ?_
      refine awp_seq fun K26 hK26 => ?_
      refine awp_region rfl ?_
      refine o_mv (.row 50) rfl ?_
      refine o_mv (Iv ((iterZ m i Z) % m.mod)) rfl ?_
      refine o_buildSlice 202 (is .i64 ([(iterZ m i Z) % m.mod])) [(0, [(Iv ((iterZ m i Z) % m.mod))])] Gd.none f10_ rfl f26_ rfl rfl rfl rfl rfl rfl rfl ?_
      refine i_append 203 (wordZ m Z i) ([(iterZ m i Z) % m.mod]) [(202, (.row 3 1 (is .i64 ([(iterZ m i Z) % m.mod])))), (201, (oZ 79 .u32 ((stepZ m (iterZ m i Z))))), (2, (oM 24 m)), (3, (.var 40 [(Nv 0), (Nv 0), (Sv Ev), (Sv Ev), (Sv Ev), (Sv Ev)])), (4, (oZ 79 .u32 ((stepZ m (iterZ m i Z)))))] Gd.none f10_ f26_ rfl rfl rfl rfl rfl (by simp only [wordZ_len, List.length_cons, List.length_nil]; omega) (by decide) rfl rfl ?_
      refine o_as (.row 203) rfl ?_
      refine aops_end ?_
      refine hK26 _ ?_
      refine awp_seq fun K27 hK27 => ?_
      refine awp_region rfl ?_
      refine o_mv (Iv (m.mod ^ i)) rfl ?_
      refine o_fieldRef 0 Gd.none f59_ rfl rfl ?_
      refine o_loadS (Iv m.mod) Gd.none f11_ rfl rfl rfl ?_
      refine o_mul (a := (m.mod ^ i)) (c := m.mod) Gd.none rfl rfl (by exact wrap64 (by omega) (by omega)) ?_
      refine n_as (v' := (Iv (m.mod ^ (i + 1)))) (by exact congrArg (fun z => AV.lit (.int .i64 z)) (Int.pow_succ _ _).symm) ?_
      refine o_as (Iv (m.mod ^ (i + 1))) rfl ?_
      refine aops_end ?_
      refine hK27 _ ?_
      refine awp_seq fun K28 hK28 => ?_
      refine awp_wk (σ' := ⟨[(2, (Iv k)), (3, (.ref 2 0)), (6, (.ref 3 0)), (10, (Iv (m.mod ^ (i + 1)))), (12, (Iv Z)), (13, (.ref 4 0)), (14, (.row 203)), (51, (Iv k)), (52, (Nv i)), (53, (bp ((((i : Nat) : Int)) < k))), (55, (mapV m)), (56, (intW ((iterZ m i Z)))), (57, (.tup [(intW ((stepZ m (iterZ m i Z)))), (Iv ((iterZ m i Z) % m.mod))])), (54, (.tup [(intW ((stepZ m (iterZ m i Z)))), (Iv ((iterZ m i Z) % m.mod))])), (58, (intW ((stepZ m (iterZ m i Z))))), (59, (Iv ((iterZ m i Z) % m.mod))), (15, (.ref 201 0)), (16, (Iv ((iterZ m i Z) % m.mod))), (60, (intW ((stepZ m (iterZ m i Z))))), (61, (.row 50)), (62, (Iv ((iterZ m i Z) % m.mod))), (63, (.row 202)), (64, (.row 203)), (65, (Iv (m.mod ^ i))), (66, (.ref 2 0)), (67, (Iv m.mod)), (68, (Iv (m.mod ^ (i + 1))))], [(203, (.row 3 1 (is .i64 ((wordZ m Z i) ++ ([(iterZ m i Z) % m.mod]))))), (202, (.row 3 1 (is .i64 ([(iterZ m i Z) % m.mod])))), (201, (oZ 79 .u32 ((stepZ m (iterZ m i Z))))), (2, (oM 24 m)), (3, (.var 40 [(Nv 0), (Nv 0), (Sv Ev), (Sv Ev), (Sv Ev), (Sv Ev)])), (4, (oZ 79 .u32 ((stepZ m (iterZ m i Z)))))]⟩) (Wk.sub ⟨rfl, rfl, rfl, rfl, rfl, rfl, rfl, rfl, rfl, rfl, rfl, rfl, rfl, rfl, rfl, rfl, rfl, rfl, rfl, rfl, rfl, rfl, rfl, rfl, rfl, rfl, rfl, trivial⟩ ⟨rfl, rfl, rfl, rfl, rfl, rfl, trivial⟩) ?_
      refine awp_regionSK 2 71 _ 47 [] _ _ _ _ _ [(mapV m), (.row 203)] (linW (lineZ m (wordZ m Z (i + 1)))) [(203, (.row 3 1 (is .i64 ((wordZ m Z i) ++ ([(iterZ m i Z) % m.mod]))))), (202, (.row 3 1 (is .i64 ([(iterZ m i Z) % m.mod])))), (201, (oZ 79 .u32 ((stepZ m (iterZ m i Z))))), (2, (oM 24 m)), (3, (.var 40 [(Nv 0), (Nv 0), (Sv Ev), (Sv Ev), (Sv Ev), (Sv Ev)])), (4, (oZ 79 .u32 ((stepZ m (iterZ m i Z)))))] rfl rfl f116_ ?_
      refine o_loadA [(Iv m.mod), (Lv m.mul), (Lv m.add)] Gd.none f63_ rfl rfl rfl rfl rfl ?_
      refine o_mv (.row 203) rfl ?_
      refine aops_end ⟨rfl, rfl, ?sc2, ?_⟩
      case sc2 =>
       refine scalls_of_awpB 9011 Tryz.func47 (c := _) rfl (Nat.le_of_ble_eq_true rfl) rfl rfl rfl (fun us2 => ?_)
       show awp cx 25 _ (postS cx Tryz.f47 (linW (lineZ m (wordZ m Z (i + 1)))) [(203, (.row 3 1 (is .i64 ((wordZ m Z i) ++ ([(iterZ m i Z) % m.mod]))))), (202, (.row 3 1 (is .i64 ([(iterZ m i Z) % m.mod])))), (201, (oZ 79 .u32 ((stepZ m (iterZ m i Z))))), (2, (oM 24 m)), (3, (.var 40 [(Nv 0), (Nv 0), (Sv Ev), (Sv Ev), (Sv Ev), (Sv Ev)])), (4, (oZ 79 .u32 ((stepZ m (iterZ m i Z)))))] 9011 [(.row 203), (mapV m), (Iv k), (.ref 2 0), (.ref 3 0), (Iv (m.mod ^ (i + 1))), (Iv Z), (.ref 4 0), (.row 203), (Iv k), (Nv i), (bp ((((i : Nat) : Int)) < k)), (mapV m), (intW ((iterZ m i Z))), (.tup [(intW ((stepZ m (iterZ m i Z)))), (Iv ((iterZ m i Z) % m.mod))]), (.tup [(intW ((stepZ m (iterZ m i Z)))), (Iv ((iterZ m i Z) % m.mod))]), (intW ((stepZ m (iterZ m i Z)))), (Iv ((iterZ m i Z) % m.mod)), (.ref 201 0), (Iv ((iterZ m i Z) % m.mod)), (intW ((stepZ m (iterZ m i Z)))), (.row 50), (Iv ((iterZ m i Z) % m.mod)), (.row 202), (.row 203), (Iv (m.mod ^ i)), (.ref 2 0), (Iv m.mod), (Iv (m.mod ^ (i + 1)))] us2) ⟨[(0, (mapV m)), (1, (.row 203))], [(9011, (.pin [(.row 203), (mapV m), (Iv k), (.ref 2 0), (.ref 3 0), (Iv (m.mod ^ (i + 1))), (Iv Z), (.ref 4 0), (.row 203), (Iv k), (Nv i), (bp ((((i : Nat) : Int)) < k)), (mapV m), (intW ((iterZ m i Z))), (.tup [(intW ((stepZ m (iterZ m i Z)))), (Iv ((iterZ m i Z) % m.mod))]), (.tup [(intW ((stepZ m (iterZ m i Z)))), (Iv ((iterZ m i Z) % m.mod))]), (intW ((stepZ m (iterZ m i Z)))), (Iv ((iterZ m i Z) % m.mod)), (.ref 201 0), (Iv ((iterZ m i Z) % m.mod)), (intW ((stepZ m (iterZ m i Z)))), (.row 50), (Iv ((iterZ m i Z) % m.mod)), (.row 202), (.row 203), (Iv (m.mod ^ i)), (.ref 2 0), (Iv m.mod), (Iv (m.mod ^ (i + 1)))] us2)), (203, (.row 3 1 (is .i64 ((wordZ m Z i) ++ ([(iterZ m i Z) % m.mod]))))), (202, (.row 3 1 (is .i64 ([(iterZ m i Z) % m.mod])))), (201, (oZ 79 .u32 ((stepZ m (iterZ m i Z))))), (2, (oM 24 m)), (3, (.var 40 [(Nv 0), (Nv 0), (Sv Ev), (Sv Ev), (Sv Ev), (Sv Ev)])), (4, (oZ 79 .u32 ((stepZ m (iterZ m i Z)))))]⟩
       refine awp_seq fun K29 hK29 => ?_
       refine awp_region rfl ?_
       refine o_box 204 [(Iv m.mod), (Lv m.mul), (Lv m.add)] Gd.none rfl rfl ?_
       refine o_alloc 205 [Fv, Zv, Fv, Zv, Fv, Zv] Gd.none f76_ rfl rfl rfl ?_
       refine aops_end ?_
       refine hK29 _ ?_
       refine awp_seq fun K30 hK30 => ?_
       refine awp_region rfl ?_
       refine o_ct (c_wOf ((1 : Int)) (by first | decide | omega) (by first | decide | omega)) Gd.none f46_ rfl ?_
       refine o_ct (c_wOf ((0 : Int)) (by first | decide | omega) (by first | decide | omega)) Gd.none f46_ rfl ?_
       refine o_ct (c_wOf ((1 : Int)) (by first | decide | omega) (by first | decide | omega)) Gd.none f46_ rfl ?_
       refine o_build [(bp ((1 : Int) < 0)), (.sl 1 (ns .u32 (digs ((1 : Int)).natAbs))), (bp ((0 : Int) < 0)), (.sl 1 (ns .u32 (digs ((0 : Int)).natAbs))), (bp ((1 : Int) < 0)), (.sl 1 (ns .u32 (digs ((1 : Int)).natAbs)))] [(0, [(bp ((1 : Int) < 0)), (.sl 1 (ns .u32 (digs ((1 : Int)).natAbs)))]), (1, [(bp ((0 : Int) < 0)), (.sl 1 (ns .u32 (digs ((0 : Int)).natAbs)))]), (2, [(bp ((1 : Int) < 0)), (.sl 1 (ns .u32 (digs ((1 : Int)).natAbs)))])] Gd.none f77_ f76_ rfl rfl rfl ?_
       refine o_alloc 206 [Fv, Zv, Fv, Zv, Fv, Zv] Gd.none f76_ rfl rfl rfl ?_
       refine o_store [(206, (.var 81 [(bp ((1 : Int) < 0)), (.sl 1 (ns .u32 (digs ((1 : Int)).natAbs))), (bp ((0 : Int) < 0)), (.sl 1 (ns .u32 (digs ((0 : Int)).natAbs))), (bp ((1 : Int) < 0)), (.sl 1 (ns .u32 (digs ((1 : Int)).natAbs)))])), (205, (.var 81 [Fv, Zv, Fv, Zv, Fv, Zv])), (204, (oM 24 m)), (9011, (.pin [(.row 203), (mapV m), (Iv k), (.ref 2 0), (.ref 3 0), (Iv (m.mod ^ (i + 1))), (Iv Z), (.ref 4 0), (.row 203), (Iv k), (Nv i), (bp ((((i : Nat) : Int)) < k)), (mapV m), (intW ((iterZ m i Z))), (.tup [(intW ((stepZ m (iterZ m i Z)))), (Iv ((iterZ m i Z) % m.mod))]), (.tup [(intW ((stepZ m (iterZ m i Z)))), (Iv ((iterZ m i Z) % m.mod))]), (intW ((stepZ m (iterZ m i Z)))), (Iv ((iterZ m i Z) % m.mod)), (.ref 201 0), (Iv ((iterZ m i Z) % m.mod)), (intW ((stepZ m (iterZ m i Z)))), (.row 50), (Iv ((iterZ m i Z) % m.mod)), (.row 202), (.row 203), (Iv (m.mod ^ i)), (.ref 2 0), (Iv m.mod), (Iv (m.mod ^ (i + 1)))] us2)), (203, (.row 3 1 (is .i64 ((wordZ m Z i) ++ ([(iterZ m i Z) % m.mod]))))), (202, (.row 3 1 (is .i64 ([(iterZ m i Z) % m.mod])))), (201, (oZ 79 .u32 ((stepZ m (iterZ m i Z))))), (2, (oM 24 m)), (3, (.var 40 [(Nv 0), (Nv 0), (Sv Ev), (Sv Ev), (Sv Ev), (Sv Ev)])), (4, (oZ 79 .u32 ((stepZ m (iterZ m i Z)))))] Gd.none f78_ rfl rfl rfl rfl rfl rfl ?_
       refine aops_end ?_
       refine hK30 _ ?_
       refine awp_seq fun K31 hK31 => ?_
       refine awp_region rfl ?_
       refine o_makeFunc [(.ref 204 0), (.ref 206 0)] Gd.none rfl ?_
       refine o_as (.clo 84 [(.ref 204 0), (.ref 206 0)]) rfl ?_
       refine aops_end ?_
       refine hK31 _ ?_
       refine awp_seq fun K32 hK32 => ?_
       refine awp_seq fun K33 hK33 => ?_
       refine awp_region rfl ?_
       refine o_mv (.row 203) rfl ?_
       refine o_lenRow (((wordZ m Z i) ++ ([(iterZ m i Z) % m.mod])).length) Gd.none f2_ rfl rfl (by simp [is]) ?_
       refine o_mv (Nv 0) rfl ?_
       refine aops_end ?_
       refine hK33 _ ?_
       refine awp_block ?_
       refine awp_loopR (fun κ σ => ∃ (j : Nat), ∃ (l : LinZ), (j ≤ ((wordZ m Z i) ++ ([(iterZ m i Z) % m.mod])).length) ∧ (l = lineZ m (((wordZ m Z i) ++ ([(iterZ m i Z) % m.mod])).take j)) ∧ (((wordZ m Z i) ++ ([(iterZ m i Z) % m.mod])).length - j) = κ ∧ σ = ⟨[(2, (.ref 204 0)), (4, (.ref 205 0)), (5, (.ref 206 0)), (6, (.clo 84 [(.ref 204 0), (.ref 206 0)])), (14, (.row 203)), (15, (Nv (((wordZ m Z i) ++ ([(iterZ m i Z) % m.mod])).length))), (16, (Nv j))], [(9011, (.pin [(.row 203), (mapV m), (Iv k), (.ref 2 0), (.ref 3 0), (Iv (m.mod ^ (i + 1))), (Iv Z), (.ref 4 0), (.row 203), (Iv k), (Nv i), (bp ((((i : Nat) : Int)) < k)), (mapV m), (intW ((iterZ m i Z))), (.tup [(intW ((stepZ m (iterZ m i Z)))), (Iv ((iterZ m i Z) % m.mod))]), (.tup [(intW ((stepZ m (iterZ m i Z)))), (Iv ((iterZ m i Z) % m.mod))]), (intW ((stepZ m (iterZ m i Z)))), (Iv ((iterZ m i Z) % m.mod)), (.ref 201 0), (Iv ((iterZ m i Z) % m.mod)), (intW ((stepZ m (iterZ m i Z)))), (.row 50), (Iv ((iterZ m i Z) % m.mod)), (.row 202), (.row 203), (Iv (m.mod ^ i)), (.ref 2 0), (Iv m.mod), (Iv (m.mod ^ (i + 1)))] us2)), (203, (.row 3 1 (is .i64 ((wordZ m Z i) ++ ([(iterZ m i Z) % m.mod]))))), (202, (.row 3 1 (is .i64 ([(iterZ m i Z) % m.mod])))), (201, (oZ 79 .u32 ((stepZ m (iterZ m i Z))))), (2, (oM 24 m)), (3, (.var 40 [(Nv 0), (Nv 0), (Sv Ev), (Sv Ev), (Sv Ev), (Sv Ev)])), (4, (oZ 79 .u32 ((stepZ m (iterZ m i Z))))), (204, (oM 24 m)), (205, (.var 81 [Fv, Zv, Fv, Zv, Fv, Zv])), (206, (.var 81 [(Bv (l.mul)), (Dv (l.mul)), (Bv (l.add)), (Dv (l.add)), (Bv (l.div)), (Dv (l.div))]))]⟩) ⟨_, _, ⟨0, oneZ, (by omega), rfl, rfl, rfl⟩, ?wk3⟩ ?rd3
       case wk3 =>
        exact Wk.sub ⟨rfl, rfl, rfl, rfl, rfl, rfl, (by first | rfl | exact nm_int (by omega)), trivial⟩ ⟨rfl, rfl, rfl, rfl, rfl, rfl, rfl, rfl, rfl, rfl, trivial⟩
       rintro κ _ ⟨j, l, hj, hl2, rfl, rfl⟩
       refine awp_seq fun K34 hK34 => ?_
       refine awp_region rfl ?_
       refine n_lss j (((wordZ m Z i) ++ ([(iterZ m i Z) % m.mod])).length) Gd.none rfl rfl ?_
       refine aops_end ?_
       refine hK34 _ ?_
       refine awp_seq fun K35 hK35 => ?_
       refine awp_condQ (q := j < (((wordZ m Z i) ++ ([(iterZ m i Z) % m.mod])).length)) rfl (fun h6 => ?_) (fun h6 => ?_)
       ·refine awp_skip ?_
        refine hK35 _ ?_
        refine awp_seq fun K36 hK36 => ?_
        refine awp_block ?_
        refine awp_seq fun K37 hK37 => ?_
        refine awp_region rfl ?_
        refine i_indexRow ((wordZ m Z i) ++ ([(iterZ m i Z) % m.mod])) j Gd.none f10_ rfl rfl rfl (by omega) ?_
        refine i_loadRow ((wordZ m Z i) ++ ([(iterZ m i Z) % m.mod])) j Gd.none f11_ rfl rfl (by omega) ?_
        refine n_as (v' := (Nv ((((wordZ m Z i) ++ ([(iterZ m i Z % m.mod)])).getD j 0).toNat))) (nm_int (by have hwj := isW_get (show IsW m ((wordZ m Z i) ++ ([(iterZ m i Z % m.mod)])) from hW1) (show j < ((wordZ m Z i) ++ ([(iterZ m i Z % m.mod)])).length by assumption); omega)) ?_
        refine o_as (Nv ((((wordZ m Z i) ++ ([(iterZ m i Z % m.mod)])).getD j 0).toNat)) rfl ?_
        refine aops_end ?_
        refine hK37 _ ?_
        refine awp_wk (σ' := ⟨[(2, (.ref 204 0)), (4, (.ref 205 0)), (5, (.ref 206 0)), (6, (.clo 84 [(.ref 204 0), (.ref 206 0)])), (14, (.row 203)), (15, (Nv (((wordZ m Z i) ++ ([(iterZ m i Z) % m.mod])).length))), (16, (Nv j)), (17, (bp (j < (((wordZ m Z i) ++ ([(iterZ m i Z) % m.mod])).length)))), (18, (.ref 203 j)), (19, (Nv ((((wordZ m Z i) ++ ([(iterZ m i Z % m.mod)])).getD j 0).toNat))), (8, (Nv ((((wordZ m Z i) ++ ([(iterZ m i Z % m.mod)])).getD j 0).toNat)))], [(9011, (.pin [(.row 203), (mapV m), (Iv k), (.ref 2 0), (.ref 3 0), (Iv (m.mod ^ (i + 1))), (Iv Z), (.ref 4 0), (.row 203), (Iv k), (Nv i), (bp ((((i : Nat) : Int)) < k)), (mapV m), (intW ((iterZ m i Z))), (.tup [(intW ((stepZ m (iterZ m i Z)))), (Iv ((iterZ m i Z) % m.mod))]), (.tup [(intW ((stepZ m (iterZ m i Z)))), (Iv ((iterZ m i Z) % m.mod))]), (intW ((stepZ m (iterZ m i Z)))), (Iv ((iterZ m i Z) % m.mod)), (.ref 201 0), (Iv ((iterZ m i Z) % m.mod)), (intW ((stepZ m (iterZ m i Z)))), (.row 50), (Iv ((iterZ m i Z) % m.mod)), (.row 202), (.row 203), (Iv (m.mod ^ i)), (.ref 2 0), (Iv m.mod), (Iv (m.mod ^ (i + 1)))] us2)), (203, (.row 3 1 (is .i64 ((wordZ m Z i) ++ ([(iterZ m i Z) % m.mod]))))), (202, (.row 3 1 (is .i64 ([(iterZ m i Z) % m.mod])))), (201, (oZ 79 .u32 ((stepZ m (iterZ m i Z))))), (2, (oM 24 m)), (3, (.var 40 [(Nv 0), (Nv 0), (Sv Ev), (Sv Ev), (Sv Ev), (Sv Ev)])), (4, (oZ 79 .u32 ((stepZ m (iterZ m i Z))))), (204, (oM 24 m)), (205, (.var 81 [Fv, Zv, Fv, Zv, Fv, Zv])), (206, (.var 81 [(Bv (l.mul)), (Dv (l.mul)), (Bv (l.add)), (Dv (l.add)), (Bv (l.div)), (Dv (l.div))]))]⟩) (Wk.sub ⟨rfl, rfl, rfl, rfl, rfl, rfl, rfl, rfl, rfl, rfl, rfl, trivial⟩ ⟨rfl, rfl, rfl, rfl, rfl, rfl, rfl, rfl, rfl, rfl, trivial⟩) ?_
        refine awp_regionSK 2 22 _ 84 [(.ref 204 0), (.ref 206 0)] _ _ _ _ _ [(Nv ((((wordZ m Z i) ++ ([(iterZ m i Z % m.mod)])).getD j 0).toNat)), (.ref 204 0), (.ref 206 0)] (linW (thenZ m l (((wordZ m Z i) ++ ([(iterZ m i Z % m.mod)])).getD j 0))) [(9011, (.pin [(.row 203), (mapV m), (Iv k), (.ref 2 0), (.ref 3 0), (Iv (m.mod ^ (i + 1))), (Iv Z), (.ref 4 0), (.row 203), (Iv k), (Nv i), (bp ((((i : Nat) : Int)) < k)), (mapV m), (intW ((iterZ m i Z))), (.tup [(intW ((stepZ m (iterZ m i Z)))), (Iv ((iterZ m i Z) % m.mod))]), (.tup [(intW ((stepZ m (iterZ m i Z)))), (Iv ((iterZ m i Z) % m.mod))]), (intW ((stepZ m (iterZ m i Z)))), (Iv ((iterZ m i Z) % m.mod)), (.ref 201 0), (Iv ((iterZ m i Z) % m.mod)), (intW ((stepZ m (iterZ m i Z)))), (.row 50), (Iv ((iterZ m i Z) % m.mod)), (.row 202), (.row 203), (Iv (m.mod ^ i)), (.ref 2 0), (Iv m.mod), (Iv (m.mod ^ (i + 1)))] us2)), (203, (.row 3 1 (is .i64 ((wordZ m Z i) ++ ([(iterZ m i Z) % m.mod]))))), (202, (.row 3 1 (is .i64 ([(iterZ m i Z) % m.mod])))), (201, (oZ 79 .u32 ((stepZ m (iterZ m i Z))))), (2, (oM 24 m)), (3, (.var 40 [(Nv 0), (Nv 0), (Sv Ev), (Sv Ev), (Sv Ev), (Sv Ev)])), (4, (oZ 79 .u32 ((stepZ m (iterZ m i Z))))), (204, (oM 24 m)), (205, (.var 81 [Fv, Zv, Fv, Zv, Fv, Zv])), (206, (.var 81 [(Bv (l.mul)), (Dv (l.mul)), (Bv (l.add)), (Dv (l.add)), (Bv (l.div)), (Dv (l.div))]))] rfl rfl f79_ ?_
        refine o_mv (.clo 84 [(.ref 204 0), (.ref 206 0)]) rfl ?_
        refine o_mv (Nv ((((wordZ m Z i) ++ ([(iterZ m i Z % m.mod)])).getD j 0).toNat)) rfl ?_
        refine aops_end ⟨rfl, rfl, ?sc4, ?_⟩
        case sc4 =>
         refine scalls_of_awpB 9013 Tryz.func84 (c := _) rfl (Nat.le_of_ble_eq_true rfl) rfl rfl rfl (fun us4 => ?_)
         show awp cx 37 _ (postS cx Tryz.f84 (linW (thenZ m l (((wordZ m Z i) ++ ([(iterZ m i Z % m.mod)])).getD j 0))) [(9011, (.pin [(.row 203), (mapV m), (Iv k), (.ref 2 0), (.ref 3 0), (Iv (m.mod ^ (i + 1))), (Iv Z), (.ref 4 0), (.row 203), (Iv k), (Nv i), (bp ((((i : Nat) : Int)) < k)), (mapV m), (intW ((iterZ m i Z))), (.tup [(intW ((stepZ m (iterZ m i Z)))), (Iv ((iterZ m i Z) % m.mod))]), (.tup [(intW ((stepZ m (iterZ m i Z)))), (Iv ((iterZ m i Z) % m.mod))]), (intW ((stepZ m (iterZ m i Z)))), (Iv ((iterZ m i Z) % m.mod)), (.ref 201 0), (Iv ((iterZ m i Z) % m.mod)), (intW ((stepZ m (iterZ m i Z)))), (.row 50), (Iv ((iterZ m i Z) % m.mod)), (.row 202), (.row 203), (Iv (m.mod ^ i)), (.ref 2 0), (Iv m.mod), (Iv (m.mod ^ (i + 1)))] us2)), (203, (.row 3 1 (is .i64 ((wordZ m Z i) ++ ([(iterZ m i Z) % m.mod]))))), (202, (.row 3 1 (is .i64 ([(iterZ m i Z) % m.mod])))), (201, (oZ 79 .u32 ((stepZ m (iterZ m i Z))))), (2, (oM 24 m)), (3, (.var 40 [(Nv 0), (Nv 0), (Sv Ev), (Sv Ev), (Sv Ev), (Sv Ev)])), (4, (oZ 79 .u32 ((stepZ m (iterZ m i Z))))), (204, (oM 24 m)), (205, (.var 81 [Fv, Zv, Fv, Zv, Fv, Zv])), (206, (.var 81 [(Bv (l.mul)), (Dv (l.mul)), (Bv (l.add)), (Dv (l.add)), (Bv (l.div)), (Dv (l.div))]))] 9013 [(Nv ((((wordZ m Z i) ++ ([(iterZ m i Z % m.mod)])).getD j 0).toNat)), (.clo 84 [(.ref 204 0), (.ref 206 0)]), (.ref 204 0), (.ref 205 0), (.ref 206 0), (.clo 84 [(.ref 204 0), (.ref 206 0)]), (.row 203), (Nv (((wordZ m Z i) ++ ([(iterZ m i Z) % m.mod])).length)), (Nv j), (bp (j < (((wordZ m Z i) ++ ([(iterZ m i Z) % m.mod])).length))), (.ref 203 j), (Nv ((((wordZ m Z i) ++ ([(iterZ m i Z % m.mod)])).getD j 0).toNat)), (Nv ((((wordZ m Z i) ++ ([(iterZ m i Z % m.mod)])).getD j 0).toNat))] us4) ⟨[(0, (Nv ((((wordZ m Z i) ++ ([(iterZ m i Z % m.mod)])).getD j 0).toNat))), (1, (.ref 204 0)), (2, (.ref 206 0))], [(9013, (.pin [(Nv ((((wordZ m Z i) ++ ([(iterZ m i Z % m.mod)])).getD j 0).toNat)), (.clo 84 [(.ref 204 0), (.ref 206 0)]), (.ref 204 0), (.ref 205 0), (.ref 206 0), (.clo 84 [(.ref 204 0), (.ref 206 0)]), (.row 203), (Nv (((wordZ m Z i) ++ ([(iterZ m i Z) % m.mod])).length)), (Nv j), (bp (j < (((wordZ m Z i) ++ ([(iterZ m i Z) % m.mod])).length))), (.ref 203 j), (Nv ((((wordZ m Z i) ++ ([(iterZ m i Z % m.mod)])).getD j 0).toNat)), (Nv ((((wordZ m Z i) ++ ([(iterZ m i Z % m.mod)])).getD j 0).toNat))] us4)), (9011, (.pin [(.row 203), (mapV m), (Iv k), (.ref 2 0), (.ref 3 0), (Iv (m.mod ^ (i + 1))), (Iv Z), (.ref 4 0), (.row 203), (Iv k), (Nv i), (bp ((((i : Nat) : Int)) < k)), (mapV m), (intW ((iterZ m i Z))), (.tup [(intW ((stepZ m (iterZ m i Z)))), (Iv ((iterZ m i Z) % m.mod))]), (.tup [(intW ((stepZ m (iterZ m i Z)))), (Iv ((iterZ m i Z) % m.mod))]), (intW ((stepZ m (iterZ m i Z)))), (Iv ((iterZ m i Z) % m.mod)), (.ref 201 0), (Iv ((iterZ m i Z) % m.mod)), (intW ((stepZ m (iterZ m i Z)))), (.row 50), (Iv ((iterZ m i Z) % m.mod)), (.row 202), (.row 203), (Iv (m.mod ^ i)), (.ref 2 0), (Iv m.mod), (Iv (m.mod ^ (i + 1)))] us2)), (203, (.row 3 1 (is .i64 ((wordZ m Z i) ++ ([(iterZ m i Z) % m.mod]))))), (202, (.row 3 1 (is .i64 ([(iterZ m i Z) % m.mod])))), (201, (oZ 79 .u32 ((stepZ m (iterZ m i Z))))), (2, (oM 24 m)), (3, (.var 40 [(Nv 0), (Nv 0), (Sv Ev), (Sv Ev), (Sv Ev), (Sv Ev)])), (4, (oZ 79 .u32 ((stepZ m (iterZ m i Z))))), (204, (oM 24 m)), (205, (.var 81 [Fv, Zv, Fv, Zv, Fv, Zv])), (206, (.var 81 [(Bv (l.mul)), (Dv (l.mul)), (Bv (l.add)), (Dv (l.add)), (Bv (l.div)), (Dv (l.div))]))]⟩
         have hwj := isW_get (show IsW m ((wordZ m Z i) ++ ([(iterZ m i Z % m.mod)])) from hW1) (show j < ((wordZ m Z i) ++ ([(iterZ m i Z % m.mod)])).length by assumption)
         have hor := o5 ((((wordZ m Z i) ++ ([(iterZ m i Z % m.mod)])).getD j 0).toNat) (by omega)
         obtain ⟨J1, J2, J3⟩ := line_len hM (((wordZ m Z i) ++ ([(iterZ m i Z % m.mod)])).take j) (isW_take (show IsW m ((wordZ m Z i) ++ ([(iterZ m i Z % m.mod)])) from hW1) j)
         have J4 : (((wordZ m Z i) ++ ([(iterZ m i Z % m.mod)])).take j).length ≤ 200 := by rw [List.length_take]; omega
         rw [← hl2] at J1 J2 J3
         have hq1 := small_len (z := ((m.mul).getD ((((wordZ m Z i) ++ ([(iterZ m i Z % m.mod)])).getD j 0).toNat) 0)) (by omega)
         have ha1 := small_len (z := ((m.add).getD ((((wordZ m Z i) ++ ([(iterZ m i Z % m.mod)])).getD j 0).toNat) 0)) (by omega)
         have hd1 := small_len (z := m.mod) (by omega)
         have hm1 := len_mulZ l.mul ((m.mul).getD ((((wordZ m Z i) ++ ([(iterZ m i Z % m.mod)])).getD j 0).toNat) 0)
         have hm2 := len_mulZ l.add ((m.mul).getD ((((wordZ m Z i) ++ ([(iterZ m i Z % m.mod)])).getD j 0).toNat) 0)
         have hm3 := len_mulZ l.div ((m.add).getD ((((wordZ m Z i) ++ ([(iterZ m i Z % m.mod)])).getD j 0).toNat) 0)
         refine awp_seq fun K38 hK38 => ?_
         refine awp_region rfl ?_
         refine o_alloc 401 [Fv, Zv, Fv, Zv, Fv, Zv] Gd.none f76_ rfl rfl rfl ?_
         refine aops_end ?_
         refine hK38 _ ?_
         refine awp_seq fun K39 hK39 => ?_
         refine awp_region rfl ?_
         refine o_fieldRef 1 Gd.none f60_ rfl rfl ?_
         refine o_loadS (Lv m.mul) Gd.none f1_ rfl rfl rfl ?_
         refine o_mv (Nv ((((wordZ m Z i) ++ ([(iterZ m i Z % m.mod)])).getD j 0).toNat)) rfl ?_
         refine i_index m.mul ((((wordZ m Z i) ++ ([(iterZ m i Z % m.mod)])).getD j 0).toNat) Gd.none f10_ rfl rfl (by omega) ?_
         refine i_loadI m.mul ((((wordZ m Z i) ++ ([(iterZ m i Z % m.mod)])).getD j 0).toNat) Gd.none f11_ rfl (by omega) ?_
         refine o_ct (c_wOf ((m.mul).getD ((((wordZ m Z i) ++ ([(iterZ m i Z % m.mod)])).getD j 0).toNat) 0) (by first | decide | omega) (by first | decide | omega)) Gd.none f46_ rfl ?_
         refine o_alloc 402 [Fv, Zv] Gd.none f15_ rfl rfl rfl ?_
         refine o_store [(402, (oZ 79 .u32 ((m.mul).getD ((((wordZ m Z i) ++ ([(iterZ m i Z % m.mod)])).getD j 0).toNat) 0))), (401, (.var 81 [Fv, Zv, Fv, Zv, Fv, Zv])), (9013, (.pin [(Nv ((((wordZ m Z i) ++ ([(iterZ m i Z % m.mod)])).getD j 0).toNat)), (.clo 84 [(.ref 204 0), (.ref 206 0)]), (.ref 204 0), (.ref 205 0), (.ref 206 0), (.clo 84 [(.ref 204 0), (.ref 206 0)]), (.row 203), (Nv (((wordZ m Z i) ++ ([(iterZ m i Z) % m.mod])).length)), (Nv j), (bp (j < (((wordZ m Z i) ++ ([(iterZ m i Z) % m.mod])).length))), (.ref 203 j), (Nv ((((wordZ m Z i) ++ ([(iterZ m i Z % m.mod)])).getD j 0).toNat)), (Nv ((((wordZ m Z i) ++ ([(iterZ m i Z % m.mod)])).getD j 0).toNat))] us4)), (9011, (.pin [(.row 203), (mapV m), (Iv k), (.ref 2 0), (.ref 3 0), (Iv (m.mod ^ (i + 1))), (Iv Z), (.ref 4 0), (.row 203), (Iv k), (Nv i), (bp ((((i : Nat) : Int)) < k)), (mapV m), (intW ((iterZ m i Z))), (.tup [(intW ((stepZ m (iterZ m i Z)))), (Iv ((iterZ m i Z) % m.mod))]), (.tup [(intW ((stepZ m (iterZ m i Z)))), (Iv ((iterZ m i Z) % m.mod))]), (intW ((stepZ m (iterZ m i Z)))), (Iv ((iterZ m i Z) % m.mod)), (.ref 201 0), (Iv ((iterZ m i Z) % m.mod)), (intW ((stepZ m (iterZ m i Z)))), (.row 50), (Iv ((iterZ m i Z) % m.mod)), (.row 202), (.row 203), (Iv (m.mod ^ i)), (.ref 2 0), (Iv m.mod), (Iv (m.mod ^ (i + 1)))] us2)), (203, (.row 3 1 (is .i64 ((wordZ m Z i) ++ ([(iterZ m i Z) % m.mod]))))), (202, (.row 3 1 (is .i64 ([(iterZ m i Z) % m.mod])))), (201, (oZ 79 .u32 ((stepZ m (iterZ m i Z))))), (2, (oM 24 m)), (3, (.var 40 [(Nv 0), (Nv 0), (Sv Ev), (Sv Ev), (Sv Ev), (Sv Ev)])), (4, (oZ 79 .u32 ((stepZ m (iterZ m i Z))))), (204, (oM 24 m)), (205, (.var 81 [Fv, Zv, Fv, Zv, Fv, Zv])), (206, (.var 81 [(Bv (l.mul)), (Dv (l.mul)), (Bv (l.add)), (Dv (l.add)), (Bv (l.div)), (Dv (l.div))]))] Gd.none f19_ rfl rfl rfl rfl rfl rfl ?_
         refine aops_end ?_
         refine hK39 _ ?_
         refine awp_seq fun K40 hK40 => ?_
         refine awp_regionD rfl ?_
         refine o_fieldRef 0 Gd.none f80_ rfl rfl ?_
         refine o_loadA [(Bv (l.mul)), (Dv (l.mul))] Gd.none f20_ rfl rfl rfl rfl rfl ?_
         refine o_loadA [(bp ((m.mul).getD ((((wordZ m Z i) ++ ([(iterZ m i Z % m.mod)])).getD j 0).toNat) 0 < 0)), (.sl 1 (ns .u32 (digs ((m.mul).getD ((((wordZ m Z i) ++ ([(iterZ m i Z % m.mod)])).getD j 0).toNat) 0).natAbs)))] Gd.none f20_ rfl rfl rfl rfl rfl ?_
         refine o_ct (c_wMul ((l.mul)) ((m.mul).getD ((((wordZ m Z i) ++ ([(iterZ m i Z % m.mod)])).getD j 0).toNat) 0) (by first | omega | assumption | (simp only [Int.natAbs_neg]; omega)) (by first | omega | assumption | (simp only [Int.natAbs_neg]; omega))) Gd.none f67_ rfl ?_
         refine o_fieldRef 2 Gd.none f81_ rfl rfl ?_
         refine o_loadA [(Bv (l.add)), (Dv (l.add))] Gd.none f20_ rfl rfl rfl rfl rfl ?_
         refine o_loadA [(bp ((m.mul).getD ((((wordZ m Z i) ++ ([(iterZ m i Z % m.mod)])).getD j 0).toNat) 0 < 0)), (.sl 1 (ns .u32 (digs ((m.mul).getD ((((wordZ m Z i) ++ ([(iterZ m i Z % m.mod)])).getD j 0).toNat) 0).natAbs)))] Gd.none f20_ rfl rfl rfl rfl rfl ?_
         refine o_ct (c_wMul ((l.add)) ((m.mul).getD ((((wordZ m Z i) ++ ([(iterZ m i Z % m.mod)])).getD j 0).toNat) 0) (by first | omega | assumption | (simp only [Int.natAbs_neg]; omega)) (by first | omega | assumption | (simp only [Int.natAbs_neg]; omega))) Gd.none f67_ rfl ?_
         refine o_fieldRef 4 Gd.none f82_ rfl rfl ?_
         refine o_loadA [(Bv (l.div)), (Dv (l.div))] Gd.none f20_ rfl rfl rfl rfl rfl ?_
         refine o_fieldRef 2 Gd.none f61_ rfl rfl ?_
         refine o_loadS (Lv m.add) Gd.none f1_ rfl rfl rfl ?_
         refine o_mv (Nv ((((wordZ m Z i) ++ ([(iterZ m i Z % m.mod)])).getD j 0).toNat)) rfl ?_
         refine i_index m.add ((((wordZ m Z i) ++ ([(iterZ m i Z % m.mod)])).getD j 0).toNat) Gd.none f10_ rfl rfl (by omega) ?_
         refine i_loadI m.add ((((wordZ m Z i) ++ ([(iterZ m i Z % m.mod)])).getD j 0).toNat) Gd.none f11_ rfl (by omega) ?_
         refine o_ct (c_wOf ((m.add).getD ((((wordZ m Z i) ++ ([(iterZ m i Z % m.mod)])).getD j 0).toNat) 0) (by first | decide | omega) (by first | decide | omega)) Gd.none f46_ rfl ?_
         refine o_ct (c_wMul ((l.div)) ((m.add).getD ((((wordZ m Z i) ++ ([(iterZ m i Z % m.mod)])).getD j 0).toNat) 0) (by first | omega | assumption | (simp only [Int.natAbs_neg]; omega)) (by first | omega | assumption | (simp only [Int.natAbs_neg]; omega))) Gd.none f67_ rfl ?_
         refine o_ct (c_wAdd (((l.add) * (m.mul).getD ((((wordZ m Z i) ++ ([(iterZ m i Z % m.mod)])).getD j 0).toNat) 0)) (((l.div) * (m.add).getD ((((wordZ m Z i) ++ ([(iterZ m i Z % m.mod)])).getD j 0).toNat) 0)) (by first | omega | assumption | (simp only [Int.natAbs_neg]; omega)) (by first | omega | assumption | (simp only [Int.natAbs_neg]; omega))) Gd.none f40_ rfl ?_
         refine o_fieldRef 4 Gd.none f82_ rfl rfl ?_
         refine o_loadA [(Bv (l.div)), (Dv (l.div))] Gd.none f20_ rfl rfl rfl rfl rfl ?_
         refine o_fieldRef 0 Gd.none f59_ rfl rfl ?_
         refine o_loadS (Iv m.mod) Gd.none f11_ rfl rfl rfl ?_
         refine o_ct (c_wOf m.mod (by first | decide | omega) (by first | decide | omega)) Gd.none f46_ rfl ?_
         refine o_ct (c_wMul ((l.div)) m.mod (by first | omega | assumption | (simp only [Int.natAbs_neg]; omega)) (by first | omega | assumption | (simp only [Int.natAbs_neg]; omega))) Gd.none f67_ rfl ?_
         refine o_build [(bp (((l.mul) * (m.mul).getD ((((wordZ m Z i) ++ ([(iterZ m i Z % m.mod)])).getD j 0).toNat) 0) < 0)), (.sl 1 (ns .u32 (digs (((l.mul) * (m.mul).getD ((((wordZ m Z i) ++ ([(iterZ m i Z % m.mod)])).getD j 0).toNat) 0)).natAbs))), (bp ((((l.add) * (m.mul).getD ((((wordZ m Z i) ++ ([(iterZ m i Z % m.mod)])).getD j 0).toNat) 0) + ((l.div) * (m.add).getD ((((wordZ m Z i) ++ ([(iterZ m i Z % m.mod)])).getD j 0).toNat) 0)) < 0)), (.sl 1 (ns .u32 (digs ((((l.add) * (m.mul).getD ((((wordZ m Z i) ++ ([(iterZ m i Z % m.mod)])).getD j 0).toNat) 0) + ((l.div) * (m.add).getD ((((wordZ m Z i) ++ ([(iterZ m i Z % m.mod)])).getD j 0).toNat) 0))).natAbs))), (bp (((l.div) * m.mod) < 0)), (.sl 1 (ns .u32 (digs (((l.div) * m.mod)).natAbs)))] [(0, [(bp (((l.mul) * (m.mul).getD ((((wordZ m Z i) ++ ([(iterZ m i Z % m.mod)])).getD j 0).toNat) 0) < 0)), (.sl 1 (ns .u32 (digs (((l.mul) * (m.mul).getD ((((wordZ m Z i) ++ ([(iterZ m i Z % m.mod)])).getD j 0).toNat) 0)).natAbs)))]), (1, [(bp ((((l.add) * (m.mul).getD ((((wordZ m Z i) ++ ([(iterZ m i Z % m.mod)])).getD j 0).toNat) 0) + ((l.div) * (m.add).getD ((((wordZ m Z i) ++ ([(iterZ m i Z % m.mod)])).getD j 0).toNat) 0)) < 0)), (.sl 1 (ns .u32 (digs ((((l.add) * (m.mul).getD ((((wordZ m Z i) ++ ([(iterZ m i Z % m.mod)])).getD j 0).toNat) 0) + ((l.div) * (m.add).getD ((((wordZ m Z i) ++ ([(iterZ m i Z % m.mod)])).getD j 0).toNat) 0))).natAbs)))]), (2, [(bp (((l.div) * m.mod) < 0)), (.sl 1 (ns .u32 (digs (((l.div) * m.mod)).natAbs)))])] Gd.none f77_ f76_ rfl rfl rfl ?_
         refine o_store [(402, (oZ 79 .u32 ((m.mul).getD ((((wordZ m Z i) ++ ([(iterZ m i Z % m.mod)])).getD j 0).toNat) 0))), (401, (.var 81 [(bp (((l.mul) * (m.mul).getD ((((wordZ m Z i) ++ ([(iterZ m i Z % m.mod)])).getD j 0).toNat) 0) < 0)), (.sl 1 (ns .u32 (digs (((l.mul) * (m.mul).getD ((((wordZ m Z i) ++ ([(iterZ m i Z % m.mod)])).getD j 0).toNat) 0)).natAbs))), (bp ((((l.add) * (m.mul).getD ((((wordZ m Z i) ++ ([(iterZ m i Z % m.mod)])).getD j 0).toNat) 0) + ((l.div) * (m.add).getD ((((wordZ m Z i) ++ ([(iterZ m i Z % m.mod)])).getD j 0).toNat) 0)) < 0)), (.sl 1 (ns .u32 (digs ((((l.add) * (m.mul).getD ((((wordZ m Z i) ++ ([(iterZ m i Z % m.mod)])).getD j 0).toNat) 0) + ((l.div) * (m.add).getD ((((wordZ m Z i) ++ ([(iterZ m i Z % m.mod)])).getD j 0).toNat) 0))).natAbs))), (bp (((l.div) * m.mod) < 0)), (.sl 1 (ns .u32 (digs (((l.div) * m.mod)).natAbs)))])), (9013, (.pin [(Nv ((((wordZ m Z i) ++ ([(iterZ m i Z % m.mod)])).getD j 0).toNat)), (.clo 84 [(.ref 204 0), (.ref 206 0)]), (.ref 204 0), (.ref 205 0), (.ref 206 0), (.clo 84 [(.ref 204 0), (.ref 206 0)]), (.row 203), (Nv (((wordZ m Z i) ++ ([(iterZ m i Z) % m.mod])).length)), (Nv j), (bp (j < (((wordZ m Z i) ++ ([(iterZ m i Z) % m.mod])).length))), (.ref 203 j), (Nv ((((wordZ m Z i) ++ ([(iterZ m i Z % m.mod)])).getD j 0).toNat)), (Nv ((((wordZ m Z i) ++ ([(iterZ m i Z % m.mod)])).getD j 0).toNat))] us4)), (9011, (.pin [(.row 203), (mapV m), (Iv k), (.ref 2 0), (.ref 3 0), (Iv (m.mod ^ (i + 1))), (Iv Z), (.ref 4 0), (.row 203), (Iv k), (Nv i), (bp ((((i : Nat) : Int)) < k)), (mapV m), (intW ((iterZ m i Z))), (.tup [(intW ((stepZ m (iterZ m i Z)))), (Iv ((iterZ m i Z) % m.mod))]), (.tup [(intW ((stepZ m (iterZ m i Z)))), (Iv ((iterZ m i Z) % m.mod))]), (intW ((stepZ m (iterZ m i Z)))), (Iv ((iterZ m i Z) % m.mod)), (.ref 201 0), (Iv ((iterZ m i Z) % m.mod)), (intW ((stepZ m (iterZ m i Z)))), (.row 50), (Iv ((iterZ m i Z) % m.mod)), (.row 202), (.row 203), (Iv (m.mod ^ i)), (.ref 2 0), (Iv m.mod), (Iv (m.mod ^ (i + 1)))] us2)), (203, (.row 3 1 (is .i64 ((wordZ m Z i) ++ ([(iterZ m i Z) % m.mod]))))), (202, (.row 3 1 (is .i64 ([(iterZ m i Z) % m.mod])))), (201, (oZ 79 .u32 ((stepZ m (iterZ m i Z))))), (2, (oM 24 m)), (3, (.var 40 [(Nv 0), (Nv 0), (Sv Ev), (Sv Ev), (Sv Ev), (Sv Ev)])), (4, (oZ 79 .u32 ((stepZ m (iterZ m i Z))))), (204, (oM 24 m)), (205, (.var 81 [Fv, Zv, Fv, Zv, Fv, Zv])), (206, (.var 81 [(Bv (l.mul)), (Dv (l.mul)), (Bv (l.add)), (Dv (l.add)), (Bv (l.div)), (Dv (l.div))]))] Gd.none f78_ rfl rfl rfl rfl rfl rfl ?_
         refine aops_end ⟨by kernel_rfl, ?_⟩
         refine hK40 _ ?_
         refine awp_wk (σ' := ⟨[(4, (.ref 401 0))], [(9013, (.pin [(Nv ((((wordZ m Z i) ++ ([(iterZ m i Z % m.mod)])).getD j 0).toNat)), (.clo 84 [(.ref 204 0), (.ref 206 0)]), (.ref 204 0), (.ref 205 0), (.ref 206 0), (.clo 84 [(.ref 204 0), (.ref 206 0)]), (.row 203), (Nv (((wordZ m Z i) ++ ([(iterZ m i Z) % m.mod])).length)), (Nv j), (bp (j < (((wordZ m Z i) ++ ([(iterZ m i Z) % m.mod])).length))), (.ref 203 j), (Nv ((((wordZ m Z i) ++ ([(iterZ m i Z % m.mod)])).getD j 0).toNat)), (Nv ((((wordZ m Z i) ++ ([(iterZ m i Z % m.mod)])).getD j 0).toNat))] us4)), (9011, (.pin [(.row 203), (mapV m), (Iv k), (.ref 2 0), (.ref 3 0), (Iv (m.mod ^ (i + 1))), (Iv Z), (.ref 4 0), (.row 203), (Iv k), (Nv i), (bp ((((i : Nat) : Int)) < k)), (mapV m), (intW ((iterZ m i Z))), (.tup [(intW ((stepZ m (iterZ m i Z)))), (Iv ((iterZ m i Z) % m.mod))]), (.tup [(intW ((stepZ m (iterZ m i Z)))), (Iv ((iterZ m i Z) % m.mod))]), (intW ((stepZ m (iterZ m i Z)))), (Iv ((iterZ m i Z) % m.mod)), (.ref 201 0), (Iv ((iterZ m i Z) % m.mod)), (intW ((stepZ m (iterZ m i Z)))), (.row 50), (Iv ((iterZ m i Z) % m.mod)), (.row 202), (.row 203), (Iv (m.mod ^ i)), (.ref 2 0), (Iv m.mod), (Iv (m.mod ^ (i + 1)))] us2)), (203, (.row 3 1 (is .i64 ((wordZ m Z i) ++ ([(iterZ m i Z) % m.mod]))))), (202, (.row 3 1 (is .i64 ([(iterZ m i Z) % m.mod])))), (201, (oZ 79 .u32 ((stepZ m (iterZ m i Z))))), (2, (oM 24 m)), (3, (.var 40 [(Nv 0), (Nv 0), (Sv Ev), (Sv Ev), (Sv Ev), (Sv Ev)])), (4, (oZ 79 .u32 ((stepZ m (iterZ m i Z))))), (204, (oM 24 m)), (205, (.var 81 [Fv, Zv, Fv, Zv, Fv, Zv])), (206, (.var 81 [(Bv (l.mul)), (Dv (l.mul)), (Bv (l.add)), (Dv (l.add)), (Bv (l.div)), (Dv (l.div))])), (401, (.var 81 [(bp (((l.mul) * (m.mul).getD ((((wordZ m Z i) ++ ([(iterZ m i Z % m.mod)])).getD j 0).toNat) 0) < 0)), (.sl 1 (ns .u32 (digs (((l.mul) * (m.mul).getD ((((wordZ m Z i) ++ ([(iterZ m i Z % m.mod)])).getD j 0).toNat) 0)).natAbs))), (bp ((((l.add) * (m.mul).getD ((((wordZ m Z i) ++ ([(iterZ m i Z % m.mod)])).getD j 0).toNat) 0) + ((l.div) * (m.add).getD ((((wordZ m Z i) ++ ([(iterZ m i Z % m.mod)])).getD j 0).toNat) 0)) < 0)), (.sl 1 (ns .u32 (digs ((((l.add) * (m.mul).getD ((((wordZ m Z i) ++ ([(iterZ m i Z % m.mod)])).getD j 0).toNat) 0) + ((l.div) * (m.add).getD ((((wordZ m Z i) ++ ([(iterZ m i Z % m.mod)])).getD j 0).toNat) 0))).natAbs))), (bp (((l.div) * m.mod) < 0)), (.sl 1 (ns .u32 (digs (((l.div) * m.mod)).natAbs)))]))]⟩) (Wk.sub ⟨rfl, trivial⟩ ⟨rfl, rfl, rfl, rfl, rfl, rfl, rfl, rfl, rfl, rfl, rfl, rfl, trivial⟩) ?_
         refine awp_ret ?_
         try dsimp only [thenK, inBlk]
         refine postS_ret (extra := [(401, (.var 81 [(bp (((l.mul) * (m.mul).getD ((((wordZ m Z i) ++ ([(iterZ m i Z % m.mod)])).getD j 0).toNat) 0) < 0)), (.sl 1 (ns .u32 (digs (((l.mul) * (m.mul).getD ((((wordZ m Z i) ++ ([(iterZ m i Z % m.mod)])).getD j 0).toNat) 0)).natAbs))), (bp ((((l.add) * (m.mul).getD ((((wordZ m Z i) ++ ([(iterZ m i Z % m.mod)])).getD j 0).toNat) 0) + ((l.div) * (m.add).getD ((((wordZ m Z i) ++ ([(iterZ m i Z % m.mod)])).getD j 0).toNat) 0)) < 0)), (.sl 1 (ns .u32 (digs ((((l.add) * (m.mul).getD ((((wordZ m Z i) ++ ([(iterZ m i Z % m.mod)])).getD j 0).toNat) 0) + ((l.div) * (m.add).getD ((((wordZ m Z i) ++ ([(iterZ m i Z % m.mod)])).getD j 0).toNat) 0))).natAbs))), (bp (((l.div) * m.mod) < 0)), (.sl 1 (ns .u32 (digs (((l.div) * m.mod)).natAbs)))]))]) ?_ rfl
         refine ⟨[(.agg [(bp (((l.mul) * (m.mul).getD ((((wordZ m Z i) ++ ([(iterZ m i Z % m.mod)])).getD j 0).toNat) 0) < 0)), (.sl 1 (ns .u32 (digs (((l.mul) * (m.mul).getD ((((wordZ m Z i) ++ ([(iterZ m i Z % m.mod)])).getD j 0).toNat) 0)).natAbs))), (bp ((((l.add) * (m.mul).getD ((((wordZ m Z i) ++ ([(iterZ m i Z % m.mod)])).getD j 0).toNat) 0) + ((l.div) * (m.add).getD ((((wordZ m Z i) ++ ([(iterZ m i Z % m.mod)])).getD j 0).toNat) 0)) < 0)), (.sl 1 (ns .u32 (digs ((((l.add) * (m.mul).getD ((((wordZ m Z i) ++ ([(iterZ m i Z % m.mod)])).getD j 0).toNat) 0) + ((l.div) * (m.add).getD ((((wordZ m Z i) ++ ([(iterZ m i Z % m.mod)])).getD j 0).toNat) 0))).natAbs))), (bp (((l.div) * m.mod) < 0)), (.sl 1 (ns .u32 (digs (((l.div) * m.mod)).natAbs)))])], ⟨⟨401, (.var 81 [(bp (((l.mul) * (m.mul).getD ((((wordZ m Z i) ++ ([(iterZ m i Z % m.mod)])).getD j 0).toNat) 0) < 0)), (.sl 1 (ns .u32 (digs (((l.mul) * (m.mul).getD ((((wordZ m Z i) ++ ([(iterZ m i Z % m.mod)])).getD j 0).toNat) 0)).natAbs))), (bp ((((l.add) * (m.mul).getD ((((wordZ m Z i) ++ ([(iterZ m i Z % m.mod)])).getD j 0).toNat) 0) + ((l.div) * (m.add).getD ((((wordZ m Z i) ++ ([(iterZ m i Z % m.mod)])).getD j 0).toNat) 0)) < 0)), (.sl 1 (ns .u32 (digs ((((l.add) * (m.mul).getD ((((wordZ m Z i) ++ ([(iterZ m i Z % m.mod)])).getD j 0).toNat) 0) + ((l.div) * (m.add).getD ((((wordZ m Z i) ++ ([(iterZ m i Z % m.mod)])).getD j 0).toNat) 0))).natAbs))), (bp (((l.div) * m.mod) < 0)), (.sl 1 (ns .u32 (digs (((l.div) * m.mod)).natAbs)))]), rfl, rfl, rfl, Or.inl ⟨f83_, AV.le_refl _⟩⟩, trivial⟩, ?_⟩
         exact linK_eq (Int.mul_comm _ _) (congr (congrArg HAdd.hAdd (Int.mul_comm _ _)) (Int.mul_comm _ _)) rfl
        refine o_store [(9011, (.pin [(.row 203), (mapV m), (Iv k), (.ref 2 0), (.ref 3 0), (Iv (m.mod ^ (i + 1))), (Iv Z), (.ref 4 0), (.row 203), (Iv k), (Nv i), (bp ((((i : Nat) : Int)) < k)), (mapV m), (intW ((iterZ m i Z))), (.tup [(intW ((stepZ m (iterZ m i Z)))), (Iv ((iterZ m i Z) % m.mod))]), (.tup [(intW ((stepZ m (iterZ m i Z)))), (Iv ((iterZ m i Z) % m.mod))]), (intW ((stepZ m (iterZ m i Z)))), (Iv ((iterZ m i Z) % m.mod)), (.ref 201 0), (Iv ((iterZ m i Z) % m.mod)), (intW ((stepZ m (iterZ m i Z)))), (.row 50), (Iv ((iterZ m i Z) % m.mod)), (.row 202), (.row 203), (Iv (m.mod ^ i)), (.ref 2 0), (Iv m.mod), (Iv (m.mod ^ (i + 1)))] us2)), (203, (.row 3 1 (is .i64 ((wordZ m Z i) ++ ([(iterZ m i Z) % m.mod]))))), (202, (.row 3 1 (is .i64 ([(iterZ m i Z) % m.mod])))), (201, (oZ 79 .u32 ((stepZ m (iterZ m i Z))))), (2, (oM 24 m)), (3, (.var 40 [(Nv 0), (Nv 0), (Sv Ev), (Sv Ev), (Sv Ev), (Sv Ev)])), (4, (oZ 79 .u32 ((stepZ m (iterZ m i Z))))), (204, (oM 24 m)), (205, (.var 81 [Fv, Zv, Fv, Zv, Fv, Zv])), (206, (.var 81 [(Bv ((thenZ m l (((wordZ m Z i) ++ ([(iterZ m i Z % m.mod)])).getD j 0)).mul)), (Dv ((thenZ m l (((wordZ m Z i) ++ ([(iterZ m i Z % m.mod)])).getD j 0)).mul)), (Bv ((thenZ m l (((wordZ m Z i) ++ ([(iterZ m i Z % m.mod)])).getD j 0)).add)), (Dv ((thenZ m l (((wordZ m Z i) ++ ([(iterZ m i Z % m.mod)])).getD j 0)).add)), (Bv ((thenZ m l (((wordZ m Z i) ++ ([(iterZ m i Z % m.mod)])).getD j 0)).div)), (Dv ((thenZ m l (((wordZ m Z i) ++ ([(iterZ m i Z % m.mod)])).getD j 0)).div))]))] Gd.none f78_ rfl rfl rfl rfl rfl rfl ?_
        refine aops_end ?_
        refine hK36 _ ?_
        refine awp_region rfl ?_
        refine n_add j 1 Gd.none rfl rfl (by simp only [topOf]; omega) ?_
        refine o_mv (Nv (j + 1)) rfl ?_
        refine aops_end ?_
        refine ⟨_, _, ?lt, ⟨j + 1, (thenZ m l (((wordZ m Z i) ++ ([(iterZ m i Z) % m.mod])).getD j 0)), (by omega), (by rw [hl2]; exact lineZ_next (by assumption)), rfl, rfl⟩, ?wk⟩
        case lt => omega
        case wk => exact Wk.sub ⟨rfl, rfl, rfl, rfl, rfl, rfl, (by first | rfl | exact nm_int (by omega)), trivial⟩ ⟨rfl, rfl, rfl, rfl, rfl, rfl, rfl, rfl, rfl, rfl, trivial⟩
       ·refine awp_exit ?_
        refine hK32 _ ?_
        refine awp_seq fun K41 hK41 => ?_
        refine awp_region rfl ?_
        refine o_loadA [(Bv (l.mul)), (Dv (l.mul)), (Bv (l.add)), (Dv (l.add)), (Bv (l.div)), (Dv (l.div))] Gd.none f83_ rfl rfl rfl rfl rfl ?_
        refine o_store [(9011, (.pin [(.row 203), (mapV m), (Iv k), (.ref 2 0), (.ref 3 0), (Iv (m.mod ^ (i + 1))), (Iv Z), (.ref 4 0), (.row 203), (Iv k), (Nv i), (bp ((((i : Nat) : Int)) < k)), (mapV m), (intW ((iterZ m i Z))), (.tup [(intW ((stepZ m (iterZ m i Z)))), (Iv ((iterZ m i Z) % m.mod))]), (.tup [(intW ((stepZ m (iterZ m i Z)))), (Iv ((iterZ m i Z) % m.mod))]), (intW ((stepZ m (iterZ m i Z)))), (Iv ((iterZ m i Z) % m.mod)), (.ref 201 0), (Iv ((iterZ m i Z) % m.mod)), (intW ((stepZ m (iterZ m i Z)))), (.row 50), (Iv ((iterZ m i Z) % m.mod)), (.row 202), (.row 203), (Iv (m.mod ^ i)), (.ref 2 0), (Iv m.mod), (Iv (m.mod ^ (i + 1)))] us2)), (203, (.row 3 1 (is .i64 ((wordZ m Z i) ++ ([(iterZ m i Z) % m.mod]))))), (202, (.row 3 1 (is .i64 ([(iterZ m i Z) % m.mod])))), (201, (oZ 79 .u32 ((stepZ m (iterZ m i Z))))), (2, (oM 24 m)), (3, (.var 40 [(Nv 0), (Nv 0), (Sv Ev), (Sv Ev), (Sv Ev), (Sv Ev)])), (4, (oZ 79 .u32 ((stepZ m (iterZ m i Z))))), (204, (oM 24 m)), (205, (.var 81 [(Bv (l.mul)), (Dv (l.mul)), (Bv (l.add)), (Dv (l.add)), (Bv (l.div)), (Dv (l.div))])), (206, (.var 81 [(Bv (l.mul)), (Dv (l.mul)), (Bv (l.add)), (Dv (l.add)), (Bv (l.div)), (Dv (l.div))]))] Gd.none f78_ rfl rfl rfl rfl rfl rfl ?_
        refine aops_end ?_
        refine hK41 _ ?_
        refine awp_wk (σ' := ⟨[(4, (.ref 205 0))], [(9011, (.pin [(.row 203), (mapV m), (Iv k), (.ref 2 0), (.ref 3 0), (Iv (m.mod ^ (i + 1))), (Iv Z), (.ref 4 0), (.row 203), (Iv k), (Nv i), (bp ((((i : Nat) : Int)) < k)), (mapV m), (intW ((iterZ m i Z))), (.tup [(intW ((stepZ m (iterZ m i Z)))), (Iv ((iterZ m i Z) % m.mod))]), (.tup [(intW ((stepZ m (iterZ m i Z)))), (Iv ((iterZ m i Z) % m.mod))]), (intW ((stepZ m (iterZ m i Z)))), (Iv ((iterZ m i Z) % m.mod)), (.ref 201 0), (Iv ((iterZ m i Z) % m.mod)), (intW ((stepZ m (iterZ m i Z)))), (.row 50), (Iv ((iterZ m i Z) % m.mod)), (.row 202), (.row 203), (Iv (m.mod ^ i)), (.ref 2 0), (Iv m.mod), (Iv (m.mod ^ (i + 1)))] us2)), (203, (.row 3 1 (is .i64 ((wordZ m Z i) ++ ([(iterZ m i Z) % m.mod]))))), (202, (.row 3 1 (is .i64 ([(iterZ m i Z) % m.mod])))), (201, (oZ 79 .u32 ((stepZ m (iterZ m i Z))))), (2, (oM 24 m)), (3, (.var 40 [(Nv 0), (Nv 0), (Sv Ev), (Sv Ev), (Sv Ev), (Sv Ev)])), (4, (oZ 79 .u32 ((stepZ m (iterZ m i Z))))), (205, (.var 81 [(Bv (l.mul)), (Dv (l.mul)), (Bv (l.add)), (Dv (l.add)), (Bv (l.div)), (Dv (l.div))]))]⟩) (Wk.sub ⟨rfl, trivial⟩ ⟨rfl, rfl, rfl, rfl, rfl, rfl, rfl, rfl, trivial⟩) ?_
        refine awp_ret ?_
        try dsimp only [thenK, inBlk]
        refine postS_ret (extra := [(205, (.var 81 [(Bv (l.mul)), (Dv (l.mul)), (Bv (l.add)), (Dv (l.add)), (Bv (l.div)), (Dv (l.div))]))]) ?_ rfl
        refine ⟨[(.agg [(Bv (l.mul)), (Dv (l.mul)), (Bv (l.add)), (Dv (l.add)), (Bv (l.div)), (Dv (l.div))])], ⟨⟨205, (.var 81 [(Bv (l.mul)), (Dv (l.mul)), (Bv (l.add)), (Dv (l.add)), (Bv (l.div)), (Dv (l.div))]), rfl, rfl, rfl, Or.inl ⟨f83_, AV.le_refl _⟩⟩, trivial⟩, ?_⟩
        have e9 : j = ((wordZ m Z i) ++ ([(iterZ m i Z % m.mod)])).length := (by omega); exact congrArg linW (by rw [hl2, e9, List.take_length]; rfl)
      refine o_alloc 204 [Fv, Zv, Fv, Zv, Fv, Zv] Gd.none f76_ rfl rfl rfl ?_
      refine o_store [(204, (.var 81 [(Bv ((lineZ m (wordZ m Z (i + 1))).mul)), (Dv ((lineZ m (wordZ m Z (i + 1))).mul)), (Bv ((lineZ m (wordZ m Z (i + 1))).add)), (Dv ((lineZ m (wordZ m Z (i + 1))).add)), (Bv ((lineZ m (wordZ m Z (i + 1))).div)), (Dv ((lineZ m (wordZ m Z (i + 1))).div))])), (203, (.row 3 1 (is .i64 ((wordZ m Z i) ++ ([(iterZ m i Z) % m.mod]))))), (202, (.row 3 1 (is .i64 ([(iterZ m i Z) % m.mod])))), (201, (oZ 79 .u32 ((stepZ m (iterZ m i Z))))), (2, (oM 24 m)), (3, (.var 40 [(Nv 0), (Nv 0), (Sv Ev), (Sv Ev), (Sv Ev), (Sv Ev)])), (4, (oZ 79 .u32 ((stepZ m (iterZ m i Z)))))] Gd.none f78_ rfl rfl rfl rfl rfl rfl ?_
      refine aops_end ?_
      refine hK28 _ ?_
      refine awp_seq fun K42 hK42 => ?_
      refine awp_region rfl ?_
      refine o_fieldRef 0 Gd.none f80_ rfl rfl ?_
      refine o_loadA [(Bv ((lineZ m (wordZ m Z (i + 1))).mul)), (Dv ((lineZ m (wordZ m Z (i + 1))).mul))] Gd.none f20_ rfl rfl rfl rfl rfl ?_
      refine o_fieldRef 4 Gd.none f82_ rfl rfl ?_
      refine o_loadA [(Bv ((lineZ m (wordZ m Z (i + 1))).div)), (Dv ((lineZ m (wordZ m Z (i + 1))).div))] Gd.none f20_ rfl rfl rfl rfl rfl ?_
      refine o_ct (c_wCmp (((lineZ m (wordZ m Z (i + 1))).mul)) (((lineZ m (wordZ m Z (i + 1))).div))) Gd.none f117_ rfl ?_
      refine o_lss (a := (cmpZ (((lineZ m (wordZ m Z (i + 1))).mul)) (((lineZ m (wordZ m Z (i + 1))).div)))) (c := (((0 : Nat) : Int))) Gd.none rfl rfl ?_
      refine aops_end ?_
      refine hK42 _ ?_
      refine awp_condQ (q := (cmpZ (((lineZ m (wordZ m Z (i + 1))).mul)) (((lineZ m (wordZ m Z (i + 1))).div))) < (((0 : Nat) : Int))) rfl (fun h7 => ?_) (fun h7 => ?_)
      ·refine awp_seq fun K43 hK43 => ?_
       have hfw : fallsW m (wordZ m Z (i + 1)) := lcmp.1 (by assumption)
       have hdm : 0 < (lineZ m (wordZ m Z (i + 1))).div - (lineZ m (wordZ m Z (i + 1))).mul := by unfold fallsW at hfw; omega
       have hfy := fnd_yes h0 hfw (k := k.toNat) (by omega)
       refine awp_regionD rfl ?_
       refine o_mv (.row 203) rfl ?_
       refine o_lenRow (((wordZ m Z i) ++ ([(iterZ m i Z) % m.mod])).length) Gd.none f2_ rfl rfl (by simp [is]) ?_
       refine n_as (v' := (Nv (i + 1))) (by exact congrArg (nm _) (by rw [List.length_append, wordZ_len]; rfl)) ?_
       refine o_mv (Iv Z) rfl ?_
       refine o_mv (Iv (m.mod ^ (i + 1))) rfl ?_
       refine o_remT (a := Z) (c := (m.mod ^ (i + 1))) Gd.none rfl rfl (by omega) ?_
       refine n_as (v' := (Iv (Z % m.mod ^ (i + 1)))) (by exact congrArg (fun z => AV.lit (.int .i64 z)) (Int.tmod_eq_emod_of_nonneg hZ0)) ?_
       refine o_loadA [(Bv ((lineZ m (wordZ m Z (i + 1))).mul)), (Dv ((lineZ m (wordZ m Z (i + 1))).mul)), (Bv ((lineZ m (wordZ m Z (i + 1))).add)), (Dv ((lineZ m (wordZ m Z (i + 1))).add)), (Bv ((lineZ m (wordZ m Z (i + 1))).div)), (Dv ((lineZ m (wordZ m Z (i + 1))).div))] Gd.none f83_ rfl rfl rfl rfl rfl ?_
       refine o_ct (c_sfall (((i + 1 : Nat) : Int)) (Z % m.mod ^ (i + 1)) (lineZ m (wordZ m Z (i + 1))) (by first | omega | assumption) (by first | omega | assumption) (by first | omega | assumption) (by omega)) Gd.none f119_ rfl ?_
       refine o_store [(204, (.var 81 [(Bv ((lineZ m (wordZ m Z (i + 1))).mul)), (Dv ((lineZ m (wordZ m Z (i + 1))).mul)), (Bv ((lineZ m (wordZ m Z (i + 1))).add)), (Dv ((lineZ m (wordZ m Z (i + 1))).add)), (Bv ((lineZ m (wordZ m Z (i + 1))).div)), (Dv ((lineZ m (wordZ m Z (i + 1))).div))])), (203, (.row 3 1 (is .i64 ((wordZ m Z i) ++ ([(iterZ m i Z) % m.mod]))))), (202, (.row 3 1 (is .i64 ([(iterZ m i Z) % m.mod])))), (201, (oZ 79 .u32 ((stepZ m (iterZ m i Z))))), (2, (oM 24 m)), (3, (.var 40 [(Iv ((falO (((i + 1 : Nat) : Int)) (Z % m.mod ^ (i + 1)) (lineZ m (wordZ m Z (i + 1)))).steps)), (Iv ((falO (((i + 1 : Nat) : Int)) (Z % m.mod ^ (i + 1)) (lineZ m (wordZ m Z (i + 1)))).rest)), (Sv ((falO (((i + 1 : Nat) : Int)) (Z % m.mod ^ (i + 1)) (lineZ m (wordZ m Z (i + 1)))).lmul)), (Sv ((falO (((i + 1 : Nat) : Int)) (Z % m.mod ^ (i + 1)) (lineZ m (wordZ m Z (i + 1)))).ladd)), (Sv ((falO (((i + 1 : Nat) : Int)) (Z % m.mod ^ (i + 1)) (lineZ m (wordZ m Z (i + 1)))).ldiv)), (Sv ((falO (((i + 1 : Nat) : Int)) (Z % m.mod ^ (i + 1)) (lineZ m (wordZ m Z (i + 1)))).bound))])), (4, (oZ 79 .u32 ((stepZ m (iterZ m i Z)))))] Gd.none f95_ rfl rfl rfl rfl rfl rfl ?_
       refine o_as Tv rfl ?_
       refine o_as (Nv 0) rfl ?_
       refine aops_end ⟨by kernel_rfl, ?_⟩
       refine hK43 _ ?_
       refine awp_ret ?_
       refine post_ret ⟨[(.agg [(Iv ((falO (((i + 1 : Nat) : Int)) (Z % m.mod ^ (i + 1)) (lineZ m (wordZ m Z (i + 1)))).steps)), (Iv ((falO (((i + 1 : Nat) : Int)) (Z % m.mod ^ (i + 1)) (lineZ m (wordZ m Z (i + 1)))).rest)), (Sv ((falO (((i + 1 : Nat) : Int)) (Z % m.mod ^ (i + 1)) (lineZ m (wordZ m Z (i + 1)))).lmul)), (Sv ((falO (((i + 1 : Nat) : Int)) (Z % m.mod ^ (i + 1)) (lineZ m (wordZ m Z (i + 1)))).ladd)), (Sv ((falO (((i + 1 : Nat) : Int)) (Z % m.mod ^ (i + 1)) (lineZ m (wordZ m Z (i + 1)))).ldiv)), (Sv ((falO (((i + 1 : Nat) : Int)) (Z % m.mod ^ (i + 1)) (lineZ m (wordZ m Z (i + 1)))).bound))]), Tv, (Nv 0)], ⟨⟨3, (.var 40 [(Iv ((falO (((i + 1 : Nat) : Int)) (Z % m.mod ^ (i + 1)) (lineZ m (wordZ m Z (i + 1)))).steps)), (Iv ((falO (((i + 1 : Nat) : Int)) (Z % m.mod ^ (i + 1)) (lineZ m (wordZ m Z (i + 1)))).rest)), (Sv ((falO (((i + 1 : Nat) : Int)) (Z % m.mod ^ (i + 1)) (lineZ m (wordZ m Z (i + 1)))).lmul)), (Sv ((falO (((i + 1 : Nat) : Int)) (Z % m.mod ^ (i + 1)) (lineZ m (wordZ m Z (i + 1)))).ladd)), (Sv ((falO (((i + 1 : Nat) : Int)) (Z % m.mod ^ (i + 1)) (lineZ m (wordZ m Z (i + 1)))).ldiv)), (Sv ((falO (((i + 1 : Nat) : Int)) (Z % m.mod ^ (i + 1)) (lineZ m (wordZ m Z (i + 1)))).bound))]), rfl, rfl, rfl, Or.inl ⟨f96_, AV.le_refl _⟩⟩, (AV.le_refl _), (AV.le_refl _), trivial⟩, rfl, ?_⟩
       first | (have e := fd_1 (m := m) (a := a) (k := k) (fun q => hm' q.1); rw [e.1, e.2.1, bpn e.2.2]; rfl) | (have e := fd_1 (m := m) (a := a) (k := k) (fun q => ha' q.2); rw [e.1, e.2.1, bpn e.2.2]; rfl) | (have e := fd_2 (m := m) (a := a) (k := k) ⟨hm', ha'⟩ h3; rw [e.1, e.2.1, bpn e.2.2]; rfl) | (have e := fd_0 (m := m) (a := a) (k := k) ⟨hm', ha'⟩ hy; rw [e.1, e.2.1, ← hfm.1, hfy.1, bpy (e.2.2.2 (hfm.2.1 hfy.2))]; rfl) | (have e := fd_0 (m := m) (a := a) (k := k) ⟨hm', ha'⟩ hy; have e2 := fnd_no (m := m) (z := Z) (k := k.toNat) (by rw [show k.toNat = i by omega]; exact h0); rw [e.1, e.2.1, ← hfm.1, e2.1, bpn (fun q => e2.2 (hfm.2.2 (e.2.2.1 q)))]; rfl)
      ·refine awp_skip ?_
       refine hK23 _ ?_
       refine awp_region rfl ?_
       refine n_add i 1 Gd.none rfl rfl (by simp only [topOf]; omega) ?_
       refine o_mv (Nv (i + 1)) rfl ?_
       refine aops_end ?_
       refine ⟨_, _, ?lt, ⟨i + 1, (by omega), (ffal_next h0 (fun e => absurd (lcmp.2 e) (by assumption))), (show (digs (stepZ m (iterZ m i Z)).natAbs).length ≤ 1 + 4 * (i + 1) by omega), rfl, rfl⟩, ?wk⟩
       case lt => omega
       case wk => exact Wk.trans (Wk.sub (σ' := ⟨[(2, (Iv k)), (3, (.ref 2 0)), (6, (.ref 3 0)), (10, (Iv (m.mod ^ (i + 1)))), (12, (Iv Z)), (13, (.ref 4 0)), (14, (.row 203)), (51, (Iv k)), (52, (Nv (i + 1)))], [(2, (oM 24 m)), (3, (.var 40 [(Nv 0), (Nv 0), (Sv Ev), (Sv Ev), (Sv Ev), (Sv Ev)])), (4, (oZ 79 .u32 ((stepZ m (iterZ m i Z))))), (203, (.row 3 1 (is .i64 ((wordZ m Z i) ++ ([(iterZ m i Z) % m.mod])))))]⟩) ⟨rfl, rfl, rfl, rfl, rfl, rfl, rfl, rfl, rfl, trivial⟩ ⟨rfl, rfl, rfl, rfl, trivial⟩) (Wk.trans (Wk.ren (id := 203) (id' := 50) rfl) (Wk.sub ⟨rfl, rfl, rfl, (by first | rfl | exact int_eq (by omega) | exact int_nm (by omega)), rfl, rfl, (by first | rfl | simp), rfl, (by first | rfl | exact nm_int (by omega)), trivial⟩ ⟨rfl, rfl, rfl, (by first | rfl | exact row_ns (by simp)), trivial⟩))
     ·refine awp_exit ?_
      refine hK19 _ ?_
      refine awp_seq fun K44 hK44 => ?_
      refine awp_region rfl ?_
      refine o_build [(Nv 0), (Nv 0), (Sv Ev), (Sv Ev), (Sv Ev), (Sv Ev)] [] Gd.none f94_ f91_ rfl rfl rfl ?_
      refine n_as (v' := (falV zFal)) (by exact rfl) ?_
      refine o_store [(2, (oM 24 m)), (3, (.var 40 [(Iv (zFal.steps)), (Iv (zFal.rest)), (Sv (zFal.lmul)), (Sv (zFal.ladd)), (Sv (zFal.ldiv)), (Sv (zFal.bound))])), (4, (oZ 79 .u32 ((iterZ m i Z)))), (50, (.row 3 1 (is .i64 (wordZ m Z i))))] Gd.none f95_ rfl rfl rfl rfl rfl rfl ?_
      refine o_as Fv rfl ?_
      refine o_as (Nv 0) rfl ?_
      refine aops_end ?_
      refine hK44 _ ?_
      refine awp_ret ?_
      refine post_ret ⟨[(.agg [(Iv (zFal.steps)), (Iv (zFal.rest)), (Sv (zFal.lmul)), (Sv (zFal.ladd)), (Sv (zFal.ldiv)), (Sv (zFal.bound))]), Fv, (Nv 0)], ⟨⟨3, (.var 40 [(Iv (zFal.steps)), (Iv (zFal.rest)), (Sv (zFal.lmul)), (Sv (zFal.ladd)), (Sv (zFal.ldiv)), (Sv (zFal.bound))]), rfl, rfl, rfl, Or.inl ⟨f96_, AV.le_refl _⟩⟩, (AV.le_refl _), (AV.le_refl _), trivial⟩, rfl, ?_⟩
      first | (have e := fd_1 (m := m) (a := a) (k := k) (fun q => hm' q.1); rw [e.1, e.2.1, bpn e.2.2]; rfl) | (have e := fd_1 (m := m) (a := a) (k := k) (fun q => ha' q.2); rw [e.1, e.2.1, bpn e.2.2]; rfl) | (have e := fd_2 (m := m) (a := a) (k := k) ⟨hm', ha'⟩ h3; rw [e.1, e.2.1, bpn e.2.2]; rfl) | (have e := fd_0 (m := m) (a := a) (k := k) ⟨hm', ha'⟩ hy; rw [e.1, e.2.1, ← hfm.1, hfy.1, bpy (e.2.2.2 (hfm.2.1 hfy.2))]; rfl) | (have e := fd_0 (m := m) (a := a) (k := k) ⟨hm', ha'⟩ hy; have e2 := fnd_no (m := m) (z := Z) (k := k.toNat) (by rw [show k.toNat = i by omega]; exact h0); rw [e.1, e.2.1, ← hfm.1, e2.1, bpn (fun q => e2.2 (hfm.2.2 (e.2.2.1 q)))]; rfl)

end Go.Proofs.YtjbaamfahkjhgaaGreatDoor

set_option linter.unusedVariables false
set_option linter.unusedSimpArgs false
namespace Go.Proofs.YtjbaamfahkjhgaaGreatDoor
open Go Go.Ab Go.Mth
theorem f138_ : callable cx.P 61 = true := by kernel_rfl
theorem f139_ : callable cx.P 10 = true := by kernel_rfl
theorem f140_ : callable cx.P 17 = true := by kernel_rfl
theorem f141_ : tyField cx.P 40 3 = some (5, 9) := by kernel_rfl
theorem f142_ : tySc cx.P 9 = true := by kernel_rfl
theorem f143_ : callable cx.P 16 = true := by kernel_rfl
theorem c_awake4  : ECalls cx 13 [] (.lit (.bool true)) := by
 refine ecalls_of_awp Tryz.func13 (c := _) rfl (Nat.le_of_ble_eq_true rfl) ?_
 show awp cx 68 _ (postF cx Tryz.f13 _) ⟨[], []⟩
 refine awp_seq fun K0 hK0 => ?_
 refine awp_region rfl ?_
 refine o_as Fv rfl ?_
 refine aops_end ?_
 refine hK0 _ ?_
 refine awp_seq fun K1 hK1 => ?_
 refine awp_region rfl ?_
 refine o_ct c_gCollatz Gd.none f138_ rfl ?_
 refine o_alloc 2 [(Nv 0), Zv, Zv] Gd.none f68_ rfl rfl rfl ?_
 refine o_store [(2, (oM 24 (kinM 3 1)))] Gd.none f70_ rfl rfl rfl rfl rfl rfl ?_
 refine aops_end ?_
 refine hK1 _ ?_
 refine awp_seq fun K2 hK2 => ?_
 refine awp_region rfl ?_
 refine o_loadA [(Iv ((kinM 3 1).mod)), (Lv ((kinM 3 1).mul)), (Lv ((kinM 3 1).add))] Gd.none f63_ rfl rfl rfl rfl rfl ?_
 refine o_call [(mapV (kinM 3 1)), (Nv 3)] (.tup [(.sl 6 (gcells cL ([ex1, ex2]))), (Lv ([3, 7])), (Nv 0)]) Gd.none f139_ rfl (by have h := c_sSieve (kinM 3 1) 3 okM_col may_col3 (by rw [ex_vis]; decide) (by rw [ex_vis]; decide); rw [ex_F, ex_L] at h; exact h) ?_
 refine o_mv (.tup [(.sl 6 (gcells cL ([ex1, ex2]))), (Lv ([3, 7])), (Nv 0)]) rfl ?_
 refine o_extract (.sl 6 (gcells cL ([ex1, ex2]))) Gd.none rfl rfl ?_
 refine o_extract (Lv ([3, 7])) Gd.none rfl rfl ?_
 refine o_extract (Nv 0) Gd.none rfl rfl ?_
 refine o_as (.sl 6 (gcells cL ([ex1, ex2]))) rfl ?_
 refine o_as (Lv ([3, 7])) rfl ?_
 refine o_as (Nv 0) rfl ?_
 refine aops_end ?_
 refine hK2 _ ?_
 refine awp_seq fun K3 hK3 => ?_
 refine awp_region rfl ?_
 refine o_loadA [(Iv ((kinM 3 1).mod)), (Lv ((kinM 3 1).mul)), (Lv ((kinM 3 1).add))] Gd.none f63_ rfl rfl rfl rfl rfl ?_
 refine o_call [(mapV (kinM 3 1)), (Sv (({data := #[49, 48, 48, 48, 48, 48, 48, 48, 48, 48, 48, 48, 48, 48, 48, 48, 48, 48, 48, 48, 48, 48, 48, 48, 51]} : ByteArray))), (Nv 4)] (.tup [(falV ex3), Tv, (Nv 0)]) Gd.none f140_ rfl (by have h := c_sFind (kinM 3 1) exN 4 (by decide) (by decide); rw [ex_fd.1, ex_fd.2.1, bpy ex_fd.2.2] at h; exact h) ?_
 refine o_mv (.tup [(falV ex3), Tv, (Nv 0)]) rfl ?_
 refine o_extract (falV ex3) Gd.none rfl rfl ?_
 refine o_extract Tv Gd.none rfl rfl ?_
 refine o_extract (Nv 0) Gd.none rfl rfl ?_
 refine o_alloc 3 [(Nv 0), (Nv 0), (Sv Ev), (Sv Ev), (Sv Ev), (Sv Ev)] Gd.none f91_ rfl rfl rfl ?_
 refine o_store [(3, (.var 40 [(Iv (ex3.steps)), (Iv (ex3.rest)), (Sv (ex3.lmul)), (Sv (ex3.ladd)), (Sv (ex3.ldiv)), (Sv (ex3.bound))])), (2, (oM 24 (kinM 3 1)))] Gd.none f95_ rfl rfl rfl rfl rfl rfl ?_
 refine o_as Tv rfl ?_
 refine o_as (Nv 0) rfl ?_
 refine aops_end ?_
 refine hK3 _ ?_
 refine awp_seq fun K4 hK4 => ?_
 refine awp_region rfl ?_
 refine o_mv (Nv 0) rfl ?_
 refine n_eql 0 0 Gd.none rfl rfl ?_
 refine n_as (v' := Tv) (by exact bpy (by first | rfl | decide)) ?_
 refine o_mv Tv rfl ?_
 refine o_move (.sl 6 (gcells cL ([ex1, ex2]))) (Gd.yes rfl rfl rfl) rfl ?_
 refine g_len cL ([ex1, ex2]) cL_len (Gd.yes rfl rfl rfl) f107_ rfl ?_
 refine n_eql (([ex1, ex2]).length) 2 (Gd.yes rfl rfl rfl) rfl rfl ?_
 refine n_as (v' := Tv) (by exact bpy (by first | rfl | decide)) ?_
 refine o_pickT Tv Gd.none rfl rfl rfl ?_
 refine o_mv Tv rfl ?_
 refine o_move (.sl 6 (gcells cL ([ex1, ex2]))) (Gd.yes rfl rfl rfl) rfl ?_
 refine g_index cL ([ex1, ex2]) 0 cL_len rfl (Gd.yes rfl rfl rfl) f100_ rfl rfl (by decide) ?_
 refine g_field cL ([ex1, ex2]) 0 cL_len (Gd.yes rfl rfl rfl) f115_ rfl (by decide) rfl ?_
 refine g_loadS cL ([ex1, ex2]) 0 default (Iv (((([ex1, ex2]).getD 0 default)).steps)) cL_len (Gd.yes rfl rfl rfl) f11_ rfl (by decide) rfl ?_
 refine o_eql (a := (((([ex1, ex2]).getD 0 default)).steps)) (c := (((1 : Nat) : Int))) (Gd.yes rfl rfl rfl) rfl rfl ?_
 refine n_as (v' := Tv) (by exact bpy (by first | rfl | decide)) ?_
 refine o_pickT Tv Gd.none rfl rfl rfl ?_
 refine o_mv Tv rfl ?_
 refine o_move (.sl 6 (gcells cL ([ex1, ex2]))) (Gd.yes rfl rfl rfl) rfl ?_
 refine g_index cL ([ex1, ex2]) 0 cL_len rfl (Gd.yes rfl rfl rfl) f100_ rfl rfl (by decide) ?_
 refine g_field cL ([ex1, ex2]) 0 cL_len (Gd.yes rfl rfl rfl) f141_ rfl (by decide) rfl ?_
 refine g_loadS cL ([ex1, ex2]) 0 default (Sv (((([ex1, ex2]).getD 0 default)).bound)) cL_len (Gd.yes rfl rfl rfl) f142_ rfl (by decide) rfl ?_
 refine o_eqlS (a := (((([ex1, ex2]).getD 0 default)).bound)) (c := (({data := #[48]} : ByteArray))) (Gd.yes rfl rfl rfl) rfl rfl ?_
 refine n_as (v' := Tv) (by exact bpy (by first | rfl | decide)) ?_
 refine o_pickT Tv Gd.none rfl rfl rfl ?_
 refine o_mv Tv rfl ?_
 refine o_move (.sl 6 (gcells cL ([ex1, ex2]))) (Gd.yes rfl rfl rfl) rfl ?_
 refine g_index cL ([ex1, ex2]) 1 cL_len rfl (Gd.yes rfl rfl rfl) f100_ rfl rfl (by decide) ?_
 refine g_loadA cL ([ex1, ex2]) 1 default cL_len (Gd.yes rfl rfl rfl) f96_ rfl (by decide) ?_
 refine o_build [(Sv (({data := #[51]} : ByteArray))), (Sv (({data := #[49]} : ByteArray))), (Sv (({data := #[52]} : ByteArray)))] [(0, [(Sv (({data := #[51]} : ByteArray)))]), (1, [(Sv (({data := #[49]} : ByteArray)))]), (2, [(Sv (({data := #[52]} : ByteArray)))])] (Gd.yes rfl rfl rfl) f86_ f84_ rfl rfl rfl ?_
 refine o_build [(Nv 2), (Nv 1), (Sv (({data := #[51]} : ByteArray))), (Sv (({data := #[49]} : ByteArray))), (Sv (({data := #[52]} : ByteArray))), (Sv (({data := #[49]} : ByteArray)))] [(0, [(Nv 2)]), (1, [(Nv 1)]), (2, [(Sv (({data := #[51]} : ByteArray))), (Sv (({data := #[49]} : ByteArray))), (Sv (({data := #[52]} : ByteArray)))]), (3, [(Sv (({data := #[49]} : ByteArray)))])] (Gd.yes rfl rfl rfl) f94_ f91_ rfl rfl rfl ?_
 refine o_eqlA [.int .i64 (((([ex1, ex2]).getD 1 default)).steps), .int .i64 (((([ex1, ex2]).getD 1 default)).rest), .string (((([ex1, ex2]).getD 1 default)).lmul), .string (((([ex1, ex2]).getD 1 default)).ladd), .string (((([ex1, ex2]).getD 1 default)).ldiv), .string (((([ex1, ex2]).getD 1 default)).bound)] [.int .i64 ((2 : Nat) : Int), .int .i64 ((1 : Nat) : Int), .string (({data := #[51]} : ByteArray)), .string (({data := #[49]} : ByteArray)), .string (({data := #[52]} : ByteArray)), .string (({data := #[49]} : ByteArray))] ((((([ex1, ex2]).getD 1 default)).steps) = ((2 : Nat) : Int) ∧ (((([ex1, ex2]).getD 1 default)).rest) = ((1 : Nat) : Int) ∧ (((([ex1, ex2]).getD 1 default)).lmul) = (({data := #[51]} : ByteArray)) ∧ (((([ex1, ex2]).getD 1 default)).ladd) = (({data := #[49]} : ByteArray)) ∧ (((([ex1, ex2]).getD 1 default)).ldiv) = (({data := #[52]} : ByteArray)) ∧ (((([ex1, ex2]).getD 1 default)).bound) = (({data := #[49]} : ByteArray))) (Gd.yes rfl rfl rfl) rfl rfl (eq_api_Fall _ _ _ _ _ _ _ _ _ _ _ _) ?_
 refine n_as (v' := Tv) (by exact bpy (by first | rfl | decide)) ?_
 refine o_pickT Tv Gd.none rfl rfl rfl ?_
 refine o_mv Tv rfl ?_
 refine o_move (Lv ([3, 7])) (Gd.yes rfl rfl rfl) rfl ?_
 refine o_buildSlice 4 (is .i64 ([((3 : Nat) : Int), ((7 : Nat) : Int)])) [(0, [(Nv 3)]), (1, [(Nv 7)])] (Gd.yes rfl rfl rfl) f10_ rfl f26_ rfl rfl rfl rfl rfl rfl rfl ?_
 refine o_callG [(4, 1, (is .i64 ([((3 : Nat) : Int), ((7 : Nat) : Int)])))] [(Lv ([3, 7])), (Lv ([((3 : Nat) : Int), ((7 : Nat) : Int)]))] _ (bp ([3, 7] = [((3 : Nat) : Int), ((7 : Nat) : Int)])) [(3, (.var 40 [(Iv (ex3.steps)), (Iv (ex3.rest)), (Sv (ex3.lmul)), (Sv (ex3.ladd)), (Sv (ex3.ldiv)), (Sv (ex3.bound))])), (2, (oM 24 (kinM 3 1)))] (Gd.yes rfl rfl rfl) f143_ rfl ⟨⟨_, rfl⟩, trivial⟩ rfl rfl (LeL.cons (AV.le_refl _) (LeL.cons (AV.le_refl _) LeL.nil)) (c_gAlike ([3, 7]) ([((3 : Nat) : Int), ((7 : Nat) : Int)])) rfl ?_
 refine n_as (v' := Tv) (by exact bpy (by first | rfl | decide)) ?_
 refine o_pickT Tv Gd.none rfl rfl rfl ?_
 refine o_mv Tv rfl ?_
 refine o_move (Nv 0) (Gd.yes rfl rfl rfl) rfl ?_
 refine n_eql 0 0 (Gd.yes rfl rfl rfl) rfl rfl ?_
 refine n_as (v' := Tv) (by exact bpy (by first | rfl | decide)) ?_
 refine o_pickT Tv Gd.none rfl rfl rfl ?_
 refine o_mv Tv rfl ?_
 refine o_move Tv (Gd.yes rfl rfl rfl) rfl ?_
 refine o_pickT Tv Gd.none rfl rfl rfl ?_
 refine o_mv Tv rfl ?_
 refine o_loadA [(Iv (ex3.steps)), (Iv (ex3.rest)), (Sv (ex3.lmul)), (Sv (ex3.ladd)), (Sv (ex3.ldiv)), (Sv (ex3.bound))] (Gd.yes rfl rfl rfl) f96_ rfl rfl rfl rfl rfl ?_
 refine o_build [(Sv (({data := #[57]} : ByteArray))), (Sv (({data := #[53]} : ByteArray))), (Sv (({data := #[49, 54]} : ByteArray)))] [(0, [(Sv (({data := #[57]} : ByteArray)))]), (1, [(Sv (({data := #[53]} : ByteArray)))]), (2, [(Sv (({data := #[49, 54]} : ByteArray)))])] (Gd.yes rfl rfl rfl) f86_ f84_ rfl rfl rfl ?_
 refine o_build [(Nv 4), (Nv 3), (Sv (({data := #[57]} : ByteArray))), (Sv (({data := #[53]} : ByteArray))), (Sv (({data := #[49, 54]} : ByteArray))), (Sv (({data := #[48]} : ByteArray)))] [(0, [(Nv 4)]), (1, [(Nv 3)]), (2, [(Sv (({data := #[57]} : ByteArray))), (Sv (({data := #[53]} : ByteArray))), (Sv (({data := #[49, 54]} : ByteArray)))]), (3, [(Sv (({data := #[48]} : ByteArray)))])] (Gd.yes rfl rfl rfl) f94_ f91_ rfl rfl rfl ?_
 refine o_eqlA [.int .i64 (ex3.steps), .int .i64 (ex3.rest), .string (ex3.lmul), .string (ex3.ladd), .string (ex3.ldiv), .string (ex3.bound)] [.int .i64 ((4 : Nat) : Int), .int .i64 ((3 : Nat) : Int), .string (({data := #[57]} : ByteArray)), .string (({data := #[53]} : ByteArray)), .string (({data := #[49, 54]} : ByteArray)), .string (({data := #[48]} : ByteArray))] ((ex3.steps) = ((4 : Nat) : Int) ∧ (ex3.rest) = ((3 : Nat) : Int) ∧ (ex3.lmul) = (({data := #[57]} : ByteArray)) ∧ (ex3.ladd) = (({data := #[53]} : ByteArray)) ∧ (ex3.ldiv) = (({data := #[49, 54]} : ByteArray)) ∧ (ex3.bound) = (({data := #[48]} : ByteArray))) (Gd.yes rfl rfl rfl) rfl rfl (eq_api_Fall _ _ _ _ _ _ _ _ _ _ _ _) ?_
 refine n_as (v' := Tv) (by exact bpy (by first | rfl | decide)) ?_
 refine o_pickT Tv Gd.none rfl rfl rfl ?_
 refine o_as Tv rfl ?_
 refine aops_end ?_
 refine hK4 _ ?_
 refine awp_ret ?_
 refine post_ret ⟨[Tv], ⟨(AV.le_refl _), trivial⟩, rfl, ?_⟩
 rfl

end Go.Proofs.YtjbaamfahkjhgaaGreatDoor

set_option linter.unusedVariables false
set_option linter.unusedSimpArgs false
namespace Go.Mth
open Go Go.Ab
theorem sgn_lt {z : Int} : sgn z < 0 ↔ z < 0 := by unfold sgn; split <;> (try split) <;> omega
theorem cmpz_lt {x y : Int} : cmpZ x y < 0 ↔ x < y := by unfold cmpZ; split <;> (try split) <;> omega
theorem cmpz_gt {x y : Int} : 0 < cmpZ x y ↔ y < x := by unfold cmpZ; split <;> (try split) <;> omega
theorem left_gt {m : MapM} (hm : OkM m) (hf : freeM m) (x : Int) {s : Nat} (h : ¬ fallsW m (wordZ m x s)) (hs : 1 ≤ s) : 0 < cmpZ (lineZ m (wordZ m x s)).mul (lineZ m (wordZ m x s)).div := by
  have h1 := mul_ne_div hm hf x hs
  unfold fallsW at h
  exact cmpz_gt.2 (by omega)
theorem left_iff {m : MapM} (hm : OkM m) (x : Int) (s : Nat) : cmpZ (iterZ m s x) x < 0 ↔ sgn (((lineZ m (wordZ m x s)).mul - (lineZ m (wordZ m x s)).div) * x + (lineZ m (wordZ m x s)).add) < 0 := by
  rw [cmpz_lt, sgn_lt]; exact left1 hm x s
end Go.Mth

set_option linter.unusedVariables false
set_option linter.unusedSimpArgs false
namespace Go.Proofs.YtjbaamfahkjhgaaGreatDoor
open Go Go.Ab Go.Mth
theorem f144_ : callable cx.P 14 = true := by kernel_rfl
theorem f145_ : callable cx.P 13 = true := by kernel_rfl
theorem f146_ : callable cx.P 18 = true := by kernel_rfl
theorem f147_ : callable cx.P 20 = true := by kernel_rfl
theorem f148_ : callable cx.P 27 = true := by kernel_rfl
theorem f149_ : callable cx.P 28 = true := by kernel_rfl
theorem f150_ : callable cx.P 29 = true := by kernel_rfl
theorem c_SieveLeft (m : MapM) (n : ByteArray) (k : Int) (hn : n.size ≤ 9223372036854775807) (h1m : m.mul.length ≤ 17592186044416) (h2m : m.add.length ≤ 17592186044416) (hkb : -9223372036854775808 ≤ k ∧ k ≤ 9223372036854775807) : ECalls cx 6 [(mapV m), (Sv n), (Iv k)] (.lit (.bool true)) := by
 refine ecalls_of_awp Tryz.func6 (c := _) rfl (Nat.le_of_ble_eq_true rfl) ?_
 show awp cx 115 _ (postF cx Tryz.f6 _) ⟨[(0, (mapV m)), (1, (Sv n)), (2, (Iv k))], []⟩
 refine awp_seq fun K0 hK0 => ?_
 refine awp_region rfl ?_
 refine o_box 2 [(Iv m.mod), (Lv m.mul), (Lv m.add)] Gd.none rfl rfl ?_
 refine o_as Fv rfl ?_
 refine aops_end ?_
 refine hK0 _ ?_
 refine awp_seq fun K1 hK1 => ?_
 refine awp_seq fun K2 hK2 => ?_
 refine awp_region rfl ?_
 refine o_loadA [(Iv m.mod), (Lv m.mul), (Lv m.add)] Gd.none f63_ rfl rfl rfl rfl rfl ?_
 refine o_mv (Iv k) rfl ?_
 refine o_ct (c_may m k (by first | assumption | omega)) Gd.none f144_ rfl ?_
 refine o_notP (q := okM m = true ∧ mayS m k) Gd.none rfl ?_
 refine o_mv (bp (¬ (okM m = true ∧ mayS m k))) rfl ?_
 refine o_splitP (q := ¬ (okM m = true ∧ mayS m k)) 22 rfl (fun h1 => ?_) (fun h1 => ?_)
 ·refine o_skip rfl rfl (decide_eq_true h1) ?_
  refine o_skip rfl rfl (decide_eq_true h1) ?_
  refine o_skip rfl rfl (decide_eq_true h1) ?_
  refine o_pickT Tv Gd.none rfl (decide_eq_true h1) rfl ?_
  refine aops_end ?_
  refine hK2 _ ?_
  refine awp_condB (b := true) rfl (fun _ => ?_) (fun hh => absurd (hh.symm.trans rfl) (by decide))
  refine awp_seq fun K3 hK3 => ?_
  refine awp_region rfl ?_
  refine o_ct c_awake4 Gd.none f145_ rfl ?_
  refine o_as Tv rfl ?_
  refine aops_end ?_
  refine hK3 _ ?_
  refine awp_ret ?_
  refine post_ret ⟨[Tv], ⟨(AV.le_refl _), trivial⟩, rfl, ?_⟩
  rfl
 ·refine o_move (Sv n) (Gd.yes rfl rfl (decide_eq_false h1)) rfl ?_
  refine o_ct (c_rValid n (by first | assumption | decide | omega)) (Gd.yes rfl rfl (decide_eq_false h1)) f146_ rfl ?_
  refine o_not (b := okS n) (Gd.yes rfl rfl (decide_eq_false h1)) rfl ?_
  refine o_pickF (.lit (.bool (!(okS n)))) Gd.none rfl (decide_eq_false h1) rfl ?_
  refine aops_end ?_
  refine hK2 _ ?_
  refine awp_condB (b := !(okS n)) rfl (fun h2 => ?_) (fun h2 => ?_)
  ·refine awp_seq fun K4 hK4 => ?_
   refine awp_region rfl ?_
   refine o_ct c_awake4 Gd.none f145_ rfl ?_
   refine o_as Tv rfl ?_
   refine aops_end ?_
   refine hK4 _ ?_
   refine awp_ret ?_
   refine post_ret ⟨[Tv], ⟨(AV.le_refl _), trivial⟩, rfl, ?_⟩
   rfl
  ·refine awp_skip ?_
   refine hK1 _ ?_
   refine awp_seq fun K5 hK5 => ?_
   have hmm := Decidable.not_not.1 (show ¬ ¬ (okM m = true ∧ mayS m k) by assumption)
   have ho : okS n = true := by have q := h2; simpa using q
   have hM' := hmm.1
   have hmy := hmm.2
   have hd := fd_0 (m := m) (a := n) (k := k) ⟨hM', ho⟩ hmy
   have hM := okM_iff.1 hM'
   have hnl := len_numS (okS_iff.1 ho)
   have hk1 := hmy.2.1
   have hk16 := may_16 hM hmy.2.2
   have hM2 := hM
   obtain ⟨o1, o2, o3, o4, o5⟩ := hM2
   refine awp_region rfl ?_
   refine o_loadA [(Iv m.mod), (Lv m.mul), (Lv m.add)] Gd.none f63_ rfl rfl rfl rfl rfl ?_
   refine o_mv (Sv n) rfl ?_
   refine o_mv (Iv k) rfl ?_
   refine o_ct (c_sFind m n k (by first | assumption | decide | omega) (by first | assumption | decide | omega)) Gd.none f140_ rfl ?_
   refine o_mv (.tup [(falV (fdF m n k)), (bp (fdB m n k)), (Nv (fdE m n k))]) rfl ?_
   refine o_extract (falV (fdF m n k)) Gd.none rfl rfl ?_
   refine o_extract (bp (fdB m n k)) Gd.none rfl rfl ?_
   refine o_extract (Nv (fdE m n k)) Gd.none rfl rfl ?_
   refine o_alloc 3 [(Nv 0), (Nv 0), (Sv Ev), (Sv Ev), (Sv Ev), (Sv Ev)] Gd.none f91_ rfl rfl rfl ?_
   refine o_store [(3, (.var 40 [(Iv ((fdF m n k).steps)), (Iv ((fdF m n k).rest)), (Sv ((fdF m n k).lmul)), (Sv ((fdF m n k).ladd)), (Sv ((fdF m n k).ldiv)), (Sv ((fdF m n k).bound))])), (2, (oM 24 m))] Gd.none f95_ rfl rfl rfl rfl rfl rfl ?_
   refine o_as (bp (fdB m n k)) rfl ?_
   refine o_as (Nv (fdE m n k)) rfl ?_
   refine aops_end ?_
   refine hK5 _ ?_
   refine awp_seq fun K6 hK6 => ?_
   refine awp_seq fun K7 hK7 => ?_
   refine awp_region rfl ?_
   refine o_mv (Nv (fdE m n k)) rfl ?_
   refine n_as (v' := (Nv 0)) (by exact congrArg (nm _) hd.1) ?_
   refine n_neq 0 0 Gd.none rfl rfl ?_
   refine n_as (v' := Fv) (by exact bpn (fun h => h rfl)) ?_
   refine o_mv Fv rfl ?_
   refine o_move (bp (fdB m n k)) (Gd.yes rfl rfl rfl) rfl ?_
   refine n_as (v' := (bp (fndB m (numS n) k.toNat))) (by exact bpc hd.2.2) ?_
   refine o_pickF (bp (fndB m (numS n) k.toNat)) Gd.none rfl rfl rfl ?_
   refine aops_end ?_
   refine hK7 _ ?_
   refine awp_condQ (q := fndB m (numS n) k.toNat) rfl (fun h3 => ?_) (fun h3 => ?_)
   ·refine awp_seq fun K8 hK8 => ?_
    refine awp_region rfl ?_
    refine o_mv (Nv (fdE m n k)) rfl ?_
    refine n_as (v' := (Nv 0)) (by exact congrArg (nm _) hd.1) ?_
    refine n_eql 0 0 Gd.none rfl rfl ?_
    refine n_as (v' := Tv) (by exact bpy rfl) ?_
    refine o_mv Tv rfl ?_
    refine o_ct c_awake4 (Gd.yes rfl rfl rfl) f145_ rfl ?_
    refine o_pickT Tv Gd.none rfl rfl rfl ?_
    refine o_as Tv rfl ?_
    refine aops_end ?_
    refine hK8 _ ?_
    refine awp_ret ?_
    refine post_ret ⟨[Tv], ⟨(AV.le_refl _), trivial⟩, rfl, ?_⟩
    rfl
   ·refine awp_skip ?_
    refine hK6 _ ?_
    refine awp_seq fun K9 hK9 => ?_
    have hff : ffal m (numS n) k.toNat = 0 := Decidable.not_not.1 (show ¬ fndB m (numS n) k.toNat by assumption)
    have hz0 := ffal_zero hff
    refine awp_region rfl ?_
    refine o_mv (Sv n) rfl ?_
    refine o_ct (c_rParse n (by first | assumption | exact okS_iff.1 (by assumption))) Gd.none f147_ rfl ?_
    refine o_alloc 4 [Fv, Zv] Gd.none f9_ rfl rfl rfl ?_
    refine o_store [(4, (oZ 47 .i64 ((numS n)))), (3, (.var 40 [(Iv ((fdF m n k).steps)), (Iv ((fdF m n k).rest)), (Sv ((fdF m n k).lmul)), (Sv ((fdF m n k).ladd)), (Sv ((fdF m n k).ldiv)), (Sv ((fdF m n k).bound))])), (2, (oM 24 m))] Gd.none f13_ rfl rfl rfl rfl rfl rfl ?_
    refine aops_end ?_
    refine hK9 _ ?_
    refine awp_seq fun K10 hK10 => ?_
    refine awp_region rfl ?_
    refine o_loadA [(bp ((numS n) < 0)), (.sl 1 (ns .i64 (digs ((numS n)).natAbs)))] Gd.none f14_ rfl rfl rfl rfl rfl ?_
    refine o_alloc 5 [Fv, Zv] Gd.none f9_ rfl rfl rfl ?_
    refine o_store [(5, (oZ 47 .i64 ((numS n)))), (4, (oZ 47 .i64 ((numS n)))), (3, (.var 40 [(Iv ((fdF m n k).steps)), (Iv ((fdF m n k).rest)), (Sv ((fdF m n k).lmul)), (Sv ((fdF m n k).ladd)), (Sv ((fdF m n k).ldiv)), (Sv ((fdF m n k).bound))])), (2, (oM 24 m))] Gd.none f13_ rfl rfl rfl rfl rfl rfl ?_
    refine aops_end ?_
    refine hK10 _ ?_
    refine awp_seq fun K11 hK11 => ?_
    refine awp_region rfl ?_
    refine o_ct (c_rOf ((1 : Int)) (by first | decide | omega) (by first | decide | omega)) Gd.none f45_ rfl ?_
    refine o_build [Fv, Zv] [] Gd.none f12_ f9_ rfl rfl rfl ?_
    refine o_ct (c_rOf ((1 : Int)) (by first | decide | omega) (by first | decide | omega)) Gd.none f45_ rfl ?_
    refine o_alloc 6 [Fv, Zv] Gd.none f9_ rfl rfl rfl ?_
    refine o_alloc 7 [Fv, Zv] Gd.none f9_ rfl rfl rfl ?_
    refine o_alloc 8 [Fv, Zv] Gd.none f9_ rfl rfl rfl ?_
    refine o_store [(8, (.var 47 [Fv, Zv])), (7, (.var 47 [Fv, Zv])), (6, (oZ 47 .i64 ((1 : Int)))), (5, (oZ 47 .i64 ((numS n)))), (4, (oZ 47 .i64 ((numS n)))), (3, (.var 40 [(Iv ((fdF m n k).steps)), (Iv ((fdF m n k).rest)), (Sv ((fdF m n k).lmul)), (Sv ((fdF m n k).ladd)), (Sv ((fdF m n k).ldiv)), (Sv ((fdF m n k).bound))])), (2, (oM 24 m))] Gd.none f13_ rfl rfl rfl rfl rfl rfl ?_
    refine o_store [(8, (.var 47 [Fv, Zv])), (7, (.var 47 [Fv, Zv])), (6, (oZ 47 .i64 ((1 : Int)))), (5, (oZ 47 .i64 ((numS n)))), (4, (oZ 47 .i64 ((numS n)))), (3, (.var 40 [(Iv ((fdF m n k).steps)), (Iv ((fdF m n k).rest)), (Sv ((fdF m n k).lmul)), (Sv ((fdF m n k).ladd)), (Sv ((fdF m n k).ldiv)), (Sv ((fdF m n k).bound))])), (2, (oM 24 m))] Gd.none f13_ rfl rfl rfl rfl rfl rfl ?_
    refine o_store [(8, (oZ 47 .i64 ((1 : Int)))), (7, (.var 47 [Fv, Zv])), (6, (oZ 47 .i64 ((1 : Int)))), (5, (oZ 47 .i64 ((numS n)))), (4, (oZ 47 .i64 ((numS n)))), (3, (.var 40 [(Iv ((fdF m n k).steps)), (Iv ((fdF m n k).rest)), (Sv ((fdF m n k).lmul)), (Sv ((fdF m n k).ladd)), (Sv ((fdF m n k).ldiv)), (Sv ((fdF m n k).bound))])), (2, (oM 24 m))] Gd.none f13_ rfl rfl rfl rfl rfl rfl ?_
    refine aops_end ?_
    refine hK11 _ ?_
    refine awp_seq fun K12 hK12 => ?_
    refine awp_seq fun K13 hK13 => ?_
    refine awp_region rfl ?_
    refine o_as (Nv 0) rfl ?_
    refine aops_end ?_
    refine hK13 _ ?_
    refine awp_block ?_
    refine awp_wk (Wk.cells (i := 7) (cs' := [bp ((0 : Int) < 0), AV.sl 1 (ns .i64 (digs ((0 : Int)).natAbs))]) rfl (LeL.cons (AV.le_eq (bl_bp (b := false) (by simp))) (LeL.cons (AV.le_nil' (by decide) (by simp [digs_zero, ns])) LeL.nil))) ?_
    refine awp_loopR (fun κ σ => ∃ (i : Nat), (((i : Nat) : Int) ≤ k) ∧ ((k - ((i : Nat) : Int)).toNat) = κ ∧ σ = ⟨[(2, (Iv k)), (3, (.ref 2 0)), (10, (.ref 4 0)), (11, (.ref 5 0)), (12, (.ref 6 0)), (13, (.ref 7 0)), (14, (.ref 8 0)), (15, (Nv i))], [(2, (oM 24 m)), (4, (oZ 47 .i64 ((numS n)))), (5, (oZ 47 .i64 ((iterZ m i (numS n))))), (6, (oZ 47 .i64 (((lineZ m (wordZ m (numS n) i)).mul)))), (7, (oZ 47 .i64 (((lineZ m (wordZ m (numS n) i)).add)))), (8, (oZ 47 .i64 (((lineZ m (wordZ m (numS n) i)).div))))]⟩) ⟨_, _, ⟨0, (by omega), rfl, rfl⟩, ?wk0⟩ ?rd0
    case wk0 =>
     exact Wk.sub ⟨rfl, rfl, rfl, rfl, rfl, rfl, rfl, (by first | rfl | exact nm_int (by omega)), trivial⟩ ⟨rfl, rfl, rfl, rfl, rfl, rfl, trivial⟩
    rintro κ _ ⟨i, hi, rfl, rfl⟩
    refine awp_seq fun K14 hK14 => ?_
    refine awp_seq fun K15 hK15 => ?_
    refine awp_region rfl ?_
    refine o_mv (Nv i) rfl ?_
    refine o_mv (Iv k) rfl ?_
    refine o_lss (a := (((i : Nat) : Int))) (c := k) Gd.none rfl rfl ?_
    refine aops_end ?_
    refine hK15 _ ?_
    refine awp_condQ (q := (((i : Nat) : Int)) < k) rfl (fun h4 => ?_) (fun h4 => ?_)
    ·refine awp_skip ?_
     refine hK14 _ ?_
     refine awp_seq fun K16 hK16 => ?_
     refine awp_block ?_
     refine awp_seq fun K17 hK17 => ?_
     have hr0 := Int.emod_nonneg (iterZ m i (numS n)) (show m.mod ≠ 0 by omega)
     have hr1 := Int.emod_lt_of_pos (iterZ m i (numS n)) (show 0 < m.mod by omega)
     have hor := o5 ((iterZ m i (numS n)) % m.mod).toNat (by omega)
     have hq1 := small_len (z := m.mul.getD ((iterZ m i (numS n)) % m.mod).toNat 0) (by omega)
     have ha1 := small_len (z := m.add.getD ((iterZ m i (numS n)) % m.mod).toNat 0) (by omega)
     have hd1 := small_len (z := m.mod) (by omega)
     obtain ⟨l1, l2, l3⟩ := line_len hM _ (wordZ_is hM (numS n) i)
     obtain ⟨k1, k2, k3⟩ := line_len hM _ (wordZ_is hM (numS n) (i + 1))
     rw [wordZ_len] at l1 l2 l3 k1 k2 k3
     have hm1 := len_mulZ (m.mul.getD ((iterZ m i (numS n)) % m.mod).toNat 0) (lineZ m (wordZ m (numS n) i)).add
     have hm2 := len_mulZ (m.add.getD ((iterZ m i (numS n)) % m.mod).toNat 0) (lineZ m (wordZ m (numS n) i)).div
     have hil := iter_len hM (numS n) i
     have hil2 := iter_len hM (numS n) (i + 1)
     have hs1 := len_subZ (lineZ m (wordZ m (numS n) (i + 1))).mul (lineZ m (wordZ m (numS n) (i + 1))).div
     have hs2 := len_mulZ ((lineZ m (wordZ m (numS n) (i + 1))).mul - (lineZ m (wordZ m (numS n) (i + 1))).div) (numS n)
     have hs3 := len_addZ (((lineZ m (wordZ m (numS n) (i + 1))).mul - (lineZ m (wordZ m (numS n) (i + 1))).div) * (numS n)) (lineZ m (wordZ m (numS n) (i + 1))).add
     have hgt := left_gt hM hmy.1 (numS n) (hz0 (i + 1) (by omega) (by omega)) (by omega)
     have hll := left_iff hM (numS n) (i + 1)
     refine awp_region rfl ?_
     refine o_loadA [(Iv m.mod), (Lv m.mul), (Lv m.add)] Gd.none f63_ rfl rfl rfl rfl rfl ?_
     refine o_loadA [(bp ((iterZ m i (numS n)) < 0)), (.sl 1 (ns .i64 (digs ((iterZ m i (numS n))).natAbs)))] Gd.none f14_ rfl rfl rfl rfl rfl ?_
     refine o_ct (c_gRest m ((iterZ m i (numS n))) (by first | assumption | exact okM_iff.1 (by assumption)) (by first | omega | assumption | (simp only [Int.natAbs_neg]; omega))) Gd.none f64_ rfl ?_
     refine o_as (Iv ((iterZ m i (numS n)) % m.mod)) rfl ?_
     refine aops_end ?_
     refine hK17 _ ?_
     refine awp_seq fun K18 hK18 => ?_
     refine awp_regionD rfl ?_
     refine o_fieldRef 1 Gd.none f60_ rfl rfl ?_
     refine o_loadS (Lv m.mul) Gd.none f1_ rfl rfl rfl ?_
     refine o_mv (Iv ((iterZ m i (numS n)) % m.mod)) rfl ?_
     refine n_as (v' := (Nv (((iterZ m i (numS n)) % m.mod).toNat))) (nm_int (by omega)) ?_
     refine i_index m.mul (((iterZ m i (numS n)) % m.mod).toNat) Gd.none f10_ rfl rfl (by omega) ?_
     refine i_loadI m.mul (((iterZ m i (numS n)) % m.mod).toNat) Gd.none f11_ rfl (by omega) ?_
     refine o_ct (c_rOf ((m.mul).getD (((iterZ m i (numS n)) % m.mod).toNat) 0) (by first | decide | omega) (by first | decide | omega)) Gd.none f45_ rfl ?_
     refine o_loadA [(bp (((lineZ m (wordZ m (numS n) i)).mul) < 0)), (.sl 1 (ns .i64 (digs (((lineZ m (wordZ m (numS n) i)).mul)).natAbs)))] Gd.none f14_ rfl rfl rfl rfl rfl ?_
     refine o_ct (c_rMul ((m.mul).getD (((iterZ m i (numS n)) % m.mod).toNat) 0) (((lineZ m (wordZ m (numS n) i)).mul)) (by first | omega | assumption | (simp only [Int.natAbs_neg]; omega)) (by first | omega | assumption | (simp only [Int.natAbs_neg]; omega))) Gd.none f65_ rfl ?_
     refine n_as (v' := (intR (((lineZ m (wordZ m (numS n) (i + 1))).mul)))) (by exact congrArg intR (congrArg LinZ.mul (wordZ_next m (numS n) i))) ?_
     refine o_fieldRef 1 Gd.none f60_ rfl rfl ?_
     refine o_loadS (Lv m.mul) Gd.none f1_ rfl rfl rfl ?_
     refine o_mv (Iv ((iterZ m i (numS n)) % m.mod)) rfl ?_
     refine n_as (v' := (Nv (((iterZ m i (numS n)) % m.mod).toNat))) (nm_int (by omega)) ?_
     refine i_index m.mul (((iterZ m i (numS n)) % m.mod).toNat) Gd.none f10_ rfl rfl (by omega) ?_
     refine i_loadI m.mul (((iterZ m i (numS n)) % m.mod).toNat) Gd.none f11_ rfl (by omega) ?_
     refine o_ct (c_rOf ((m.mul).getD (((iterZ m i (numS n)) % m.mod).toNat) 0) (by first | decide | omega) (by first | decide | omega)) Gd.none f45_ rfl ?_
     refine o_loadA [(bp (((lineZ m (wordZ m (numS n) i)).add) < 0)), (.sl 1 (ns .i64 (digs (((lineZ m (wordZ m (numS n) i)).add)).natAbs)))] Gd.none f14_ rfl rfl rfl rfl rfl ?_
     refine o_ct (c_rMul ((m.mul).getD (((iterZ m i (numS n)) % m.mod).toNat) 0) (((lineZ m (wordZ m (numS n) i)).add)) (by first | omega | assumption | (simp only [Int.natAbs_neg]; omega)) (by first | omega | assumption | (simp only [Int.natAbs_neg]; omega))) Gd.none f65_ rfl ?_
     refine o_fieldRef 2 Gd.none f61_ rfl rfl ?_
     refine o_loadS (Lv m.add) Gd.none f1_ rfl rfl rfl ?_
     refine o_mv (Iv ((iterZ m i (numS n)) % m.mod)) rfl ?_
     refine n_as (v' := (Nv (((iterZ m i (numS n)) % m.mod).toNat))) (nm_int (by omega)) ?_
     refine i_index m.add (((iterZ m i (numS n)) % m.mod).toNat) Gd.none f10_ rfl rfl (by omega) ?_
     refine i_loadI m.add (((iterZ m i (numS n)) % m.mod).toNat) Gd.none f11_ rfl (by omega) ?_
     refine o_ct (c_rOf ((m.add).getD (((iterZ m i (numS n)) % m.mod).toNat) 0) (by first | decide | omega) (by first | decide | omega)) Gd.none f45_ rfl ?_
     refine o_loadA [(bp (((lineZ m (wordZ m (numS n) i)).div) < 0)), (.sl 1 (ns .i64 (digs (((lineZ m (wordZ m (numS n) i)).div)).natAbs)))] Gd.none f14_ rfl rfl rfl rfl rfl ?_
     refine o_ct (c_rMul ((m.add).getD (((iterZ m i (numS n)) % m.mod).toNat) 0) (((lineZ m (wordZ m (numS n) i)).div)) (by first | omega | assumption | (simp only [Int.natAbs_neg]; omega)) (by first | omega | assumption | (simp only [Int.natAbs_neg]; omega))) Gd.none f65_ rfl ?_
     refine o_ct (c_rAdd (((m.mul).getD (((iterZ m i (numS n)) % m.mod).toNat) 0 * ((lineZ m (wordZ m (numS n) i)).add))) (((m.add).getD (((iterZ m i (numS n)) % m.mod).toNat) 0 * ((lineZ m (wordZ m (numS n) i)).div))) (by first | omega | assumption | (simp only [Int.natAbs_neg]; omega)) (by first | omega | assumption | (simp only [Int.natAbs_neg]; omega))) Gd.none f38_ rfl ?_
     refine n_as (v' := (intR (((lineZ m (wordZ m (numS n) (i + 1))).add)))) (by exact congrArg intR (congrArg LinZ.add (wordZ_next m (numS n) i))) ?_
     refine o_fieldRef 0 Gd.none f59_ rfl rfl ?_
     refine o_loadS (Iv m.mod) Gd.none f11_ rfl rfl rfl ?_
     refine o_ct (c_rOf m.mod (by first | decide | omega) (by first | decide | omega)) Gd.none f45_ rfl ?_
     refine o_loadA [(bp (((lineZ m (wordZ m (numS n) i)).div) < 0)), (.sl 1 (ns .i64 (digs (((lineZ m (wordZ m (numS n) i)).div)).natAbs)))] Gd.none f14_ rfl rfl rfl rfl rfl ?_
     refine o_ct (c_rMul m.mod (((lineZ m (wordZ m (numS n) i)).div)) (by first | omega | assumption | (simp only [Int.natAbs_neg]; omega)) (by first | omega | assumption | (simp only [Int.natAbs_neg]; omega))) Gd.none f65_ rfl ?_
     refine n_as (v' := (intR (((lineZ m (wordZ m (numS n) (i + 1))).div)))) (by exact congrArg intR ((Int.mul_comm _ _).trans (congrArg LinZ.div (wordZ_next m (numS n) i)))) ?_
     refine o_store [(2, (oM 24 m)), (4, (oZ 47 .i64 ((numS n)))), (5, (oZ 47 .i64 ((iterZ m i (numS n))))), (6, (oZ 47 .i64 (((lineZ m (wordZ m (numS n) (i + 1))).mul)))), (7, (oZ 47 .i64 (((lineZ m (wordZ m (numS n) i)).add)))), (8, (oZ 47 .i64 (((lineZ m (wordZ m (numS n) i)).div))))] Gd.none f13_ rfl rfl rfl rfl rfl rfl ?_
     refine o_store [(2, (oM 24 m)), (4, (oZ 47 .i64 ((numS n)))), (5, (oZ 47 .i64 ((iterZ m i (numS n))))), (6, (oZ 47 .i64 (((lineZ m (wordZ m (numS n) (i + 1))).mul)))), (7, (oZ 47 .i64 (((lineZ m (wordZ m (numS n) (i + 1))).add)))), (8, (oZ 47 .i64 (((lineZ m (wordZ m (numS n) i)).div))))] Gd.none f13_ rfl rfl rfl rfl rfl rfl ?_
     refine o_store [(2, (oM 24 m)), (4, (oZ 47 .i64 ((numS n)))), (5, (oZ 47 .i64 ((iterZ m i (numS n))))), (6, (oZ 47 .i64 (((lineZ m (wordZ m (numS n) (i + 1))).mul)))), (7, (oZ 47 .i64 (((lineZ m (wordZ m (numS n) (i + 1))).add)))), (8, (oZ 47 .i64 (((lineZ m (wordZ m (numS n) (i + 1))).div))))] Gd.none f13_ rfl rfl rfl rfl rfl rfl ?_
     refine aops_end ⟨by kernel_rfl, ?_⟩
     refine hK18 _ ?_
     refine awp_seq fun K19 hK19 => ?_
     refine awp_region rfl ?_
     refine o_loadA [(Iv m.mod), (Lv m.mul), (Lv m.add)] Gd.none f63_ rfl rfl rfl rfl rfl ?_
     refine o_loadA [(bp ((iterZ m i (numS n)) < 0)), (.sl 1 (ns .i64 (digs ((iterZ m i (numS n))).natAbs)))] Gd.none f14_ rfl rfl rfl rfl rfl ?_
     refine o_ct (c_gStep m ((iterZ m i (numS n))) (by first | assumption | exact okM_iff.1 (by assumption)) (by first | omega | assumption | (simp only [Int.natAbs_neg]; omega))) Gd.none f148_ rfl ?_
     refine n_as (v' := (intR ((iterZ m (i + 1) (numS n))))) (by exact rfl) ?_
     refine o_store [(2, (oM 24 m)), (4, (oZ 47 .i64 ((numS n)))), (5, (oZ 47 .i64 ((iterZ m (i + 1) (numS n))))), (6, (oZ 47 .i64 (((lineZ m (wordZ m (numS n) (i + 1))).mul)))), (7, (oZ 47 .i64 (((lineZ m (wordZ m (numS n) (i + 1))).add)))), (8, (oZ 47 .i64 (((lineZ m (wordZ m (numS n) (i + 1))).div))))] Gd.none f13_ rfl rfl rfl rfl rfl rfl ?_
     refine aops_end ?_
     refine hK19 _ ?_
     refine awp_seq fun K20 hK20 => ?_
     refine awp_regionD rfl ?_
     refine o_loadA [(bp (((lineZ m (wordZ m (numS n) (i + 1))).mul) < 0)), (.sl 1 (ns .i64 (digs (((lineZ m (wordZ m (numS n) (i + 1))).mul)).natAbs)))] Gd.none f14_ rfl rfl rfl rfl rfl ?_
     refine o_loadA [(bp (((lineZ m (wordZ m (numS n) (i + 1))).div) < 0)), (.sl 1 (ns .i64 (digs (((lineZ m (wordZ m (numS n) (i + 1))).div)).natAbs)))] Gd.none f14_ rfl rfl rfl rfl rfl ?_
     refine o_ct (c_rSub (((lineZ m (wordZ m (numS n) (i + 1))).mul)) (((lineZ m (wordZ m (numS n) (i + 1))).div)) (by first | omega | assumption | (simp only [Int.natAbs_neg]; omega)) (by first | omega | assumption | (simp only [Int.natAbs_neg]; omega))) Gd.none f149_ rfl ?_
     refine o_loadA [(bp ((numS n) < 0)), (.sl 1 (ns .i64 (digs ((numS n)).natAbs)))] Gd.none f14_ rfl rfl rfl rfl rfl ?_
     refine o_ct (c_rMul ((((lineZ m (wordZ m (numS n) (i + 1))).mul) - ((lineZ m (wordZ m (numS n) (i + 1))).div))) ((numS n)) (by first | omega | assumption | (simp only [Int.natAbs_neg]; omega)) (by first | omega | assumption | (simp only [Int.natAbs_neg]; omega))) Gd.none f65_ rfl ?_
     refine o_loadA [(bp (((lineZ m (wordZ m (numS n) (i + 1))).add) < 0)), (.sl 1 (ns .i64 (digs (((lineZ m (wordZ m (numS n) (i + 1))).add)).natAbs)))] Gd.none f14_ rfl rfl rfl rfl rfl ?_
     refine o_ct (c_rAdd (((((lineZ m (wordZ m (numS n) (i + 1))).mul) - ((lineZ m (wordZ m (numS n) (i + 1))).div)) * (numS n))) (((lineZ m (wordZ m (numS n) (i + 1))).add)) (by first | omega | assumption | (simp only [Int.natAbs_neg]; omega)) (by first | omega | assumption | (simp only [Int.natAbs_neg]; omega))) Gd.none f38_ rfl ?_
     refine o_alloc 101 [Fv, Zv] Gd.none f9_ rfl rfl rfl ?_
     refine o_store [(101, (oZ 47 .i64 ((((((lineZ m (wordZ m (numS n) (i + 1))).mul) - ((lineZ m (wordZ m (numS n) (i + 1))).div)) * (numS n)) + ((lineZ m (wordZ m (numS n) (i + 1))).add))))), (2, (oM 24 m)), (4, (oZ 47 .i64 ((numS n)))), (5, (oZ 47 .i64 ((iterZ m (i + 1) (numS n))))), (6, (oZ 47 .i64 (((lineZ m (wordZ m (numS n) (i + 1))).mul)))), (7, (oZ 47 .i64 (((lineZ m (wordZ m (numS n) (i + 1))).add)))), (8, (oZ 47 .i64 (((lineZ m (wordZ m (numS n) (i + 1))).div))))] Gd.none f13_ rfl rfl rfl rfl rfl rfl ?_
     refine aops_end ⟨by kernel_rfl, ?_⟩
     refine hK20 _ ?_
     refine awp_seq fun K21 hK21 => ?_
     refine awp_regionD rfl ?_
     refine o_loadA [(bp (((lineZ m (wordZ m (numS n) (i + 1))).mul) < 0)), (.sl 1 (ns .i64 (digs (((lineZ m (wordZ m (numS n) (i + 1))).mul)).natAbs)))] Gd.none f14_ rfl rfl rfl rfl rfl ?_
     refine o_loadA [(bp (((lineZ m (wordZ m (numS n) (i + 1))).div) < 0)), (.sl 1 (ns .i64 (digs (((lineZ m (wordZ m (numS n) (i + 1))).div)).natAbs)))] Gd.none f14_ rfl rfl rfl rfl rfl ?_
     refine o_ct (c_rCmp (((lineZ m (wordZ m (numS n) (i + 1))).mul)) (((lineZ m (wordZ m (numS n) (i + 1))).div))) Gd.none f150_ rfl ?_
     refine o_leq (a := (cmpZ (((lineZ m (wordZ m (numS n) (i + 1))).mul)) (((lineZ m (wordZ m (numS n) (i + 1))).div)))) (c := (((0 : Nat) : Int))) Gd.none rfl rfl ?_
     refine n_as (v' := Fv) (by exact bpn (by have := hgt; omega)) ?_
     refine o_mv Fv rfl ?_
     refine o_loadA [(bp ((iterZ m (i + 1) (numS n)) < 0)), (.sl 1 (ns .i64 (digs ((iterZ m (i + 1) (numS n))).natAbs)))] (Gd.yes rfl rfl rfl) f14_ rfl rfl rfl rfl rfl ?_
     refine o_loadA [(bp ((numS n) < 0)), (.sl 1 (ns .i64 (digs ((numS n)).natAbs)))] (Gd.yes rfl rfl rfl) f14_ rfl rfl rfl rfl rfl ?_
     refine o_ct (c_rCmp ((iterZ m (i + 1) (numS n))) ((numS n))) (Gd.yes rfl rfl rfl) f150_ rfl ?_
     refine o_lss (a := (cmpZ ((iterZ m (i + 1) (numS n))) ((numS n)))) (c := (((0 : Nat) : Int))) (Gd.yes rfl rfl rfl) rfl rfl ?_
     refine o_loadA [(bp ((((((lineZ m (wordZ m (numS n) (i + 1))).mul) - ((lineZ m (wordZ m (numS n) (i + 1))).div)) * (numS n)) + ((lineZ m (wordZ m (numS n) (i + 1))).add)) < 0)), (.sl 1 (ns .i64 (digs ((((((lineZ m (wordZ m (numS n) (i + 1))).mul) - ((lineZ m (wordZ m (numS n) (i + 1))).div)) * (numS n)) + ((lineZ m (wordZ m (numS n) (i + 1))).add))).natAbs)))] (Gd.yes rfl rfl rfl) f14_ rfl rfl rfl rfl rfl ?_
     refine o_ct (c_rSign ((((((lineZ m (wordZ m (numS n) (i + 1))).mul) - ((lineZ m (wordZ m (numS n) (i + 1))).div)) * (numS n)) + ((lineZ m (wordZ m (numS n) (i + 1))).add)))) (Gd.yes rfl rfl rfl) f21_ rfl ?_
     refine o_lss (a := (sgn ((((((lineZ m (wordZ m (numS n) (i + 1))).mul) - ((lineZ m (wordZ m (numS n) (i + 1))).div)) * (numS n)) + ((lineZ m (wordZ m (numS n) (i + 1))).add))))) (c := (((0 : Nat) : Int))) (Gd.yes rfl rfl rfl) rfl rfl ?_
     refine o_neqB (a := (decide ((cmpZ ((iterZ m (i + 1) (numS n))) ((numS n))) < (((0 : Nat) : Int))))) (c := (decide ((sgn ((((((lineZ m (wordZ m (numS n) (i + 1))).mul) - ((lineZ m (wordZ m (numS n) (i + 1))).div)) * (numS n)) + ((lineZ m (wordZ m (numS n) (i + 1))).add)))) < (((0 : Nat) : Int))))) (Gd.yes rfl rfl rfl) rfl rfl f30_ ?_
     refine n_as (v' := Fv) (by exact bpn (fun h => h (decide_eq_decide.2 hll))) ?_
     refine o_pickF Fv Gd.none rfl rfl rfl ?_
     refine aops_end ⟨by kernel_rfl, ?_⟩
     refine hK21 _ ?_
     refine awp_condB (b := false) rfl (fun hh => absurd (hh.symm.trans rfl) (by decide)) (fun _ => ?_)
     refine awp_skip ?_
     refine hK16 _ ?_
     refine awp_region rfl ?_
     refine o_mv (Nv i) rfl ?_
     refine n_add i 1 Gd.none rfl rfl (by simp only [topOf]; omega) ?_
     refine o_as (Nv (i + 1)) rfl ?_
     refine aops_end ?_
     refine ⟨_, _, ?lt, ⟨i + 1, (by omega), rfl, rfl⟩, ?wk⟩
     case lt => omega
     case wk => exact Wk.sub ⟨rfl, rfl, rfl, rfl, rfl, rfl, rfl, (by first | rfl | exact nm_int (by omega)), trivial⟩ ⟨rfl, rfl, rfl, rfl, rfl, rfl, trivial⟩
    ·refine awp_exit ?_
     refine hK12 _ ?_
     refine awp_seq fun K22 hK22 => ?_
     refine awp_region rfl ?_
     refine o_ct c_awake4 Gd.none f145_ rfl ?_
     refine o_as Tv rfl ?_
     refine aops_end ?_
     refine hK22 _ ?_
     refine awp_ret ?_
     refine post_ret ⟨[Tv], ⟨(AV.le_refl _), trivial⟩, rfl, ?_⟩
     rfl

end Go.Proofs.YtjbaamfahkjhgaaGreatDoor

set_option linter.unusedVariables false
namespace Go.Proofs.YtjbaamfahkjhgaaGreatDoor.sieveLeft
open Go Go.Ab Go.Mth Go.ChangeShapes Go.WideShapes Go.ChangeAt Go.RowKit
theorem reads (os : Os) {H : Type} (enc : TypeId × Value → H) : ∃ places, DataW.whole enc Tryz.prog ((World.laidAll Tryz.prog os laid5).forCall (fun _ _ => 0) ⟨#[], #[.agg #[.int .i64 0, .slice none 0 0, .slice none 0 0], .string ByteArray.empty, .int .i64 0], []⟩).memory Tryz.f6.params.toList Rows.sieveLeftSpec.vars false (#[.agg #[.int .i64 0, .slice none 0 0, .slice none 0 0], .string ByteArray.empty, .int .i64 0] : Array Value).toList 8 = some ([.agg [.lit (.int .i64 0), .nil, .nil], .lit (.string []), .lit (.int .i64 0)], [], places) := ⟨[], by kernel_rfl⟩
theorem met (os : Os) : laidMetH Tryz.prog laid5 ((World.laidAll Tryz.prog os laid5).forCall (fun _ _ => 0) ⟨#[], #[.agg #[.int .i64 0, .slice none 0 0, .slice none 0 0], .string ByteArray.empty, .int .i64 0], []⟩).memory := (MakeChecks.laidMetH_plain _ _ _ (by kernel_rfl)).mpr (laidMet_laidAll _ (by kernel_rfl) (by kernel_rfl))
theorem specs {H : Type} (ds : List (DataW H)) (h : ds.length = 3) : (Rows.sieveLeftSpec.fn H ds).results = [.lit (.bool true)] ∧ (Rows.sieveLeftSpec.fn H ds).args = ds ∧ (Rows.sieveLeftSpec.fn H ds).vars = [] := by
  rcases ds with _ | ⟨d0, _ | ⟨d1, _ | ⟨d2, _ | ⟨e, t⟩⟩⟩⟩ <;> simp at h <;> exact ⟨rfl, rfl, rfl⟩
set_option maxRecDepth 100000 in
theorem opened {H : Type} (enc : TypeId × Value → H) (W : World) (base : Nat) (args : Array Value) (ds : List (DataW H)) (ps : List MemPlace) (hval : ∀ (j : Nat) t v, (#[24, 9, 3] : Array TypeId)[j]? = some t → args[j]? = some v → Value.okWide Tryz.prog W .any base t v)
    (hA : DataW.TrodAll enc Tryz.prog W 0 (fun _ => true) true [24, 9, 3] args.toList ds ps) (hsz : (DataW.weightsEach Tryz.prog [24, 9, 3] ds).all (· ≤ reachBytes) = true) : ∃ xs, RepL (memOf W) xs noLoc args.toList ∧ ECalls cx 6 xs (.lit (.bool true)) := by
  obtain ⟨v0, vs0, d0, ds0, p0, q0, hargs, rfl, rfl, h0, r0⟩ := trodAll_cons hA
  obtain ⟨v1, vs1, d1, ds1, p1, q1, rfl, rfl, rfl, h1, r1⟩ := trodAll_cons r0
  obtain ⟨v2, vs2, d2, ds2, p2, q2, rfl, rfl, rfl, h2, r2⟩ := trodAll_cons r1
  obtain ⟨rfl, rfl, rfl⟩ := trodAll_nil r2
  obtain rfl : args = #[v0, v1, v2] := by cases args; simp_all
  obtain ⟨m0, e0, b0, c0⟩ := rep_map (hval 0 24 v0 rfl rfl) h0 (fun n hn => by simpa using List.all_eq_true.1 hsz n (DataW.weights_mem_each (j := 0) rfl rfl n hn))
  obtain ⟨a1, e1, b1⟩ := rep_str (hval 1 9 v1 rfl rfl) h1
  obtain ⟨k2, e2, b2⟩ := rep_int (hval 2 3 v2 rfl rfl) h2
  exact ⟨[mapV m0, .lit (.string a1), .lit (.int .i64 k2)], RepL.cons e0 (RepL.cons e1 (RepL.cons e2 (by simp only [RepL]))), c_SieveLeft m0 a1 k2 b1 b0 c0 b2⟩
set_option maxRecDepth 100000 in
theorem lifted (os : Os) (started : os.Started) (H : Type) (enc : TypeId × Value → H) (F : Stop.Interp) :
    ReturnsInHanded {} Tryz.checked os 6 .any ((OpenSpec.ofChange Rows.sieveLeftSpec).preRow enc Tryz.prog Tryz.f6 Rows.sieveLeftRow.domain false Rows.sieveLeftRow.laid) (((OpenSpec.ofChange Rows.sieveLeftSpec).at F).post enc Tryz.prog Tryz.f6 false true false false) := by
  obtain ⟨places, hx⟩ := reads os enc
  refine lifted_of (C := Tryz.checked) started cx rfl ownT (by kernel_rfl) Tryz.func6 (witness_laid #[.agg #[.int .i64 0, .slice none 0 0, .slice none 0 0], .string ByteArray.empty, .int .i64 0] (by kernel_rfl) (by kernel_rfl) (by kernel_rfl) (OpenSpec.preRow_of_cond 8 hx (by kernel_rfl) (fun k hk => by cases hk) (by kernel_rfl) (met os))) laidOutT (by kernel_rfl) (tb := 4) (by kernel_rfl) u4T rfl (fun ds h => specs ds (h.trans (by kernel_rfl))) (fun W h => tabG_of h) ?_
  intro W base args ds ps hval hA hsz
  exact opened enc W base args ds ps hval hA hsz
theorem said : Rows.SieveLeftSaid :=
  OpenClaim.holds_of_cond 6 Tryz.f6 rfl rfl rfl rfl rfl rfl rfl ⟨rfl, rfl, rfl, rfl, rfl⟩ rfl rfl rfl rfl rfl (by kernel_rfl) Tryz.func6 (by kernel_rfl)
    (of_decide_eq_true (by kernel_rfl)) (by unfold Func.isWrapper; first | (rw [if_pos (by decide +kernel)]; kernel_rfl) | (rw [if_neg (by decide +kernel)]; exact ⟨rfl, rfl⟩))
    (fun os started H enc _ F => by rw [OpenClaim.pre_eq_preRow]; exact lifted os started H enc F)
theorem plain (f : FuncId) (fn : Func) (hf : Tryz.pinned.checked.prog.funcNamed "katabasis/katabasislaw04.SieveLeft" = some f) (hfn : Tryz.pinned.checked.prog.funcs[f]? = some fn) :
    true = Tryz.pinned.checked.prog.looks [] ∧ ∀ (j : Nat) t, fn.params[j]? = some t → Tryz.pinned.checked.prog.wantsStandIn t = false := by
  obtain rfl : f = 6 := Option.some.inj ((show Tryz.prog.funcNamed "katabasis/katabasislaw04.SieveLeft" = some 6 by kernel_rfl).symm.trans hf) |>.symm
  obtain rfl : fn = Tryz.f6 := (Option.some.inj (Tryz.func6.symm.trans hfn)).symm
  refine ⟨by kernel_rfl, fun j t ht => ?_⟩
  rw [Tryz.params6] at ht
  have : t = 24 ∨ t = 9 ∨ t = 3 := by have h := Array.mem_of_getElem? ht; simp at h; first | exact h | (rcases h with h | h | h | h <;> simp [h]) | (rcases h with h | h | h <;> simp [h]) | (rcases h with h | h <;> simp [h])
  rcases this with rfl | rfl | rfl
  · exact (show Tryz.prog.wantsStandIn 24 = false by kernel_rfl)
  · exact (show Tryz.prog.wantsStandIn 9 = false by kernel_rfl)
  · exact (show Tryz.prog.wantsStandIn 3 = false by kernel_rfl)
end Go.Proofs.YtjbaamfahkjhgaaGreatDoor.sieveLeft
namespace Go.Proofs.YtjbaamfahkjhgaaGreatDoor
open Go
theorem sieveLeft_holds : Rows.SieveLeftCardSaid :=
  Claim7.holds_tied_plain_at .later [] _ _ _ _ sieveLeft.said (fun _ h => by cases h) (by kernel_rfl) (fun _ h => by cases h) sieveLeft_row_tie rfl ⟨rfl, rfl⟩ (by kernel_rfl) rfl sieveLeft.plain (by kernel_rfl)
#print axioms sieveLeft_holds
end Go.Proofs.YtjbaamfahkjhgaaGreatDoor

